import Derived.Test.YtmkbdfidnfmgmaaGreatWMe
import Derived.Test.YtmkbdfidnfmgmaaGreatWBs
set_option linter.all false
section
namespace Go.Proofs.YtmkbdfidnfmgmaaGreat.V
open Go Go.RowKit
open Go.Proofs.YtmkbdfidnfmgmaaGreat.Ev (Tr Tr.dp nth fc Ex)
variable{j:Nat}{ty:TypeId}{X:Cx}{o:bC}{tr:Tr bC}
theorem alD(H:aV X){f b c:Nat}{vs':List AV}{cs:pi}(hj:X.h.tr.get j=some o)(ho:∀τ L ty,o≠.arr τ L ty)(hs:X.s j=some (.at b c))(hw:X.w.heap[b]?=some (.cells (List.toArray cs) ty (0,0)))
  (hv:bT X vs' cs) (ht:Tr.set f X.h.tr j (some (.cells vs' ty))=some tr):aV ⟨X.s,⟨tr,X.h.next⟩,X.w,X.A⟩/\bh X ⟨X.s,⟨tr,X.h.next⟩,X.w,X.A⟩:=by
 have hg:=Tr.dp _ _ _ _ _ ht;have back:∀i o,tr.get i=some o->∃o',X.h.tr.get i=some o'/\(∀n,o.row=some n->o'.row=some n):=by
  intro i o h;rw[hg i]at h;by_cases q:i=j
  .rw[IO q]at h;cases h;subst q;exact⟨_,hj,fun n r=>by cases r⟩
  grind
 have da:∀b,Cx.da ⟨X.s,⟨tr,X.h.next⟩,X.w,X.A⟩ b->X.da b:=by rintro b ⟨i,o,c,h1,h2⟩;obtain⟨o',h3,_⟩:=back i o h1;exact⟨i,o',c,h3,h2⟩
 have E:bh X ⟨X.s,⟨tr,X.h.next⟩,X.w,X.A⟩:=by
  refine⟨rfl,rfl,rfl,rt _,fun _ _ h=>h,fun _ _ _ h=>h,rt _,fun _ _ _=>rfl,fun b h=>.inl (da b h),?_,?_,rfl⟩
  .intro i n _ h;obtain⟨o,h,hr⟩:=mh h;obtain⟨o',h1,h2⟩:=back i _ h;show rowOf X.h.tr i=some n;rw[kP h1];exact h2 n hr
  grind
 have RE:=E.fG H;refine⟨⟨?_,?_,?_,H.dM,H.alt,?_⟩,E⟩
 .intro i o l h1 h2
  replace h1:tr.get i=some o:=h1
  rw[hg i]at h1;by_cases q:i=j
  .rw[IO q]at h1;cases h1;subst q
   replace h2:X.s i=some l:=h2
   rw[hs]at h2;cases h2;exact⟨b,c,cs,rfl,hw,hv.ext RE⟩
  .rw[BT q]at h1;exact(H.obj i o l h1 h2).ext RE (fun _ _=>rfl)
 .intro i k o o' c c' b h1 h2 h3 h4 h5 h6;obtain⟨p,g1,_⟩:=back i o h1;obtain⟨q,g2,_⟩:=back k o' h2;exact H.inj i k p q c c' b g1 g2 h3 h4 h5 h6
 .intro i o h1;obtain⟨p,g1,_⟩:=back i o h1;exact H.lt i p g1
 .intro i o c b h1 h2;obtain⟨p,g1,_⟩:=back i o h1;exact H.loc i p c b g1 h2
variable{l:Loc}
theorem amh(H:aV X){f:Nat}{o':bC}(hj:X.h.tr.get j=some o)(hrow:∀n,o'.row=some n->o.row=some n)(hs:X.s j=some l)(ho:jA X l o')(ht:Tr.set f X.h.tr j (some o')=some tr) :
  aV ⟨X.s,⟨tr,X.h.next⟩,X.w,X.A⟩/\bh X ⟨X.s,⟨tr,X.h.next⟩,X.w,X.A⟩:=by
 have hg:=Tr.dp _ _ _ _ _ ht;have back:∀i avF,tr.get i=some avF->∃avG,X.h.tr.get i=some avG/\(∀n,avF.row=some n->avG.row=some n):=by grind
 have E:bh X ⟨X.s,⟨tr,X.h.next⟩,X.w,X.A⟩:=by
  refine⟨rfl,rfl,rfl,rt _,fun _ _ h=>h,fun _ _ _ h=>h,rt _,fun _ _ _=>rfl,?_,?_,?_,rfl⟩
  .rintro b ⟨i,avF,c,h1,h2⟩;obtain⟨avG,h3,_⟩:=back i avF h1;exact .inl ⟨i,avG,c,h3,h2⟩
  .intro i n _ h;obtain⟨avF,h,hr⟩:=mh h;obtain⟨avG,h1,h2⟩:=back i _ h;show rowOf X.h.tr i=some n;rw[kP h1];exact h2 n hr
  grind
 have RE:=E.fG H;refine⟨⟨?_,?_,?_,H.dM,H.alt,?_⟩,E⟩
 .intro i avF l₁ h1 h2
  replace h1:tr.get i=some avF:=h1
  rw[hg i]at h1;by_cases q:i=j
  .rw[IO q]at h1;cases h1;subst q
   replace h2:X.s i=some l₁:=h2
   rw[hs]at h2;cases h2;exact ho.ext RE (fun _ _=>rfl)
  .rw[BT q]at h1;exact(H.obj i avF l₁ h1 h2).ext RE (fun _ _=>rfl)
 .intro i k avF avG c c' b h1 h2 h3 h4 h5 h6;obtain⟨p,g1,_⟩:=back i avF h1;obtain⟨q,g2,_⟩:=back k avG h2;exact H.inj i k p q c c' b g1 g2 h3 h4 h5 h6
 .intro i avF h1;obtain⟨p,g1,_⟩:=back i avF h1;exact H.lt i p g1
 .intro i avF c b h1 h2;obtain⟨p,g1,_⟩:=back i avF h1;exact H.loc i p c b g1 h2
def Ro(h:Hp)(b:Nat):Option Hp:=match h.tr.get b with
 |some (.fA τ i L vs ty)=>match fX true h τ vs with
  |some (x,l,h₁)=>match l,h₁.tr.get b with
   |[],some _=>match Tr.set FT h₁.tr b (some (.arr τ (L.set i x) ty))with|some tr=>some ⟨tr,h₁.next⟩|none=>none
   |_,_=>none
  |none=>none
 |_=>some h
theorem ars(H:aV X){b:Nat}{h':Hp}(e:Ro X.h b=some h')(hs:X.s b=some l):aV ⟨X.s,h',X.w,X.A⟩/\bh X ⟨X.s,h',X.w,X.A⟩:=by
 unfold Ro at e;split at e
 .rename_i τ i L vs ty hb;split at e<;>try cases e
  rename_i x r h₁ hf;split at e<;>try cases e
  rename_i ob hob;split at e<;>cases e;rename_i tr ht;obtain⟨auK,c,pre,mid,post,tail,rfl,q1,q2,q3,q4,q5,q6,q7,q8⟩:=H.obj b _ _ hb hs;obtain⟨F,auL,avI,k1,k2,k3⟩:=tu H hf q3;have:avI=[]:=k3;subst this;rw[d6]at k1;subst k1;have hob':h₁.tr.get b=some (.fA τ i L vs ty):=by
   have:=F.sub b _ hob
   grind
  have K:=F.E.keeps;have ho:jA ⟨X.s,h₁,X.w,X.A⟩ (.at auK c) (.arr τ (L.set i x) ty):=by refine⟨pre++(mid++post),tail,by grind,?_,by grind,by grind⟩;rw[asU,IO q5];refine(q2.mono (fun x d q=>q.bn K)).append ?_;exact⟨mid,post,rfl,k2,q4.mono (fun x d q=>q.bn K)⟩
  obtain⟨g1,g2⟩:=amh (X:=⟨X.s,h₁,X.w,X.A⟩) F.H hob' (fun n q=>by simpa[bC.row]using q) hs ho ht;exact⟨g1,F.E.trans g2⟩
 .cases e;exact⟨H,bh.refl X⟩
def qN:List (Nat×LO)->Nat->Option LO
 |[],_=>none|p::l,i=>match Nat.beq p.1 i with|true=>some p.2|false=>qN l i
def Nx(lh:List (Nat×LO))(h:Hp)(i:Nat):AV->Option (AV×Hp)
 |.bt=>match qN lh i with
  |some o=>match o with
   |.arr τ ty=>match Tr.set FT h.tr h.next (some (.arr τ [] ty))with|some t=>some (.hd h.next τ,⟨t,h.next+1⟩)|none=>none
   |_=>none
  |none=>none
 |.hd b τ=>match qN lh i with
  |some o=>match o with
   |.arr _ _=>match Ro h b with|some h'=>some (.hd b τ,h')|none=>none
   |_=>some (.hd b τ,h)
  |none=>some (.hd b τ,h)
 |.vw b τ off n=>match off,qN lh i,h.tr.get b with
  |0,some (.arr _ _),some (.arr τ' L ty)=>match Tr.set FT h.tr b none with
   |some avT=>match Tr.set FT avT h.next (some (.arr τ' (L.take n) ty))with|some t=>some (.hd h.next τ',⟨t,h.next+1⟩)|none=>none
   |none=>none
  |_,_,_=>some (.vw b τ off n,h)
 |v=>some (v,h)
def Ok(lh:List (Nat×LO))(h:Hp)(i:Nat):AV->Option (AV×Hp)
 |.bt=>match qN lh i with
  |some o=>match o with
   |.fu ty=>match Tr.set FT h.tr h.next (some (.fu [] ty))with|some t=>some (.fB h.next,⟨t,h.next+1⟩)|none=>none
   |_=>none
  |none=>none
 |v=>some (v,h)
def Nw(h:Hp)(τ:Sh):AV->Option (AV×Hp)
 |.hd b τ'=>match fX true h (.sl τ) [.hd b τ']with
  |some (L,l,h')=>match l with|[]=>some (.fz τ L,h')|_=>none
  |none=>none
 |.vw b τ' o n=>match fX true h (.sl τ) [.vw b τ' o n]with
  |some (L,l,h')=>match l with|[]=>some (.fz τ L,h')|_=>none
  |none=>Ig h (.vw b τ' o n)
 |v=>some (v,h)
mutual
def jf(lh:List (Nat×LO))(h:Hp):LA->AV->Option (AV×Hp)
 |.hd i τ,v=>Nx lh h i v|.fB i,v=>Ok lh h i v|.fz τ,v=>Nw h τ v|.func f x c,v=>match v with
  |.func g x' c'=>match rf lh h x x' with
   |some (x',h)=>match rf lh h c c' with|some (c',h)=>some (.func g x' c',h)|none=>none
   |none=>none
  |v=>some (v,h)
 |.agg l,v=>match v with
  |.agg l'=>match rf lh h l l' with|some (l',h)=>some (.agg l',h)|none=>none
  |v=>some (v,h)
 |.d5 l,v=>match v with
  |.d5 l'=>match rf lh h l l' with|some (l',h)=>some (.d5 l',h)|none=>none
  |v=>some (v,h)
 |_,v=>some (v,h)
termination_by structural x=>x
def rf(lh:List (Nat×LO))(h:Hp):List LA->List AV->Option (List AV×Hp)
 |[],vs=>some (vs,h)|a::l,vs=>match vs with
  |[]=>some ([],h)|v::vs=>match jf lh h a v with
   |some (v,h)=>match rf lh h l vs with|some (vs,h)=>some (v::vs,h)|none=>none
   |none=>none
termination_by structural x=>x
end
def fj(X:Cx)(h':Hp)(X':Cx):Prop:=X'.w=X.w/\X'.h=h'/\aV X'/\bh X X'
theorem fj.refl{X:Cx}(H:aV X):fj X X.h X:=⟨rfl,rfl,H,bh.refl X⟩
theorem ak6{X:Cx}(H:aV X){b n:Nat}{τ:Sh}{L:List τ.T}{ty:TypeId}{l:Loc}{avT t:Tr bC}(hb:X.h.tr.get b=some (.arr τ L ty))(hs:X.s b=some l)(hn:n<=L.length)(hk:Tr.set FT X.h.tr b none=some avT)
  (ht:Tr.set FT avT X.h.next (some (.arr τ (L.take n) ty))=some t):∃X',fj X ⟨t,X.h.next+1⟩ X'/\Rel X' (.hd X.h.next τ) (l.slice n):=by
 have hlen:(L.take n).length=n:=by grind
 cases l with
 |nil=>
  have hL:L=[]:=H.obj b _ _ hb hs;subst hL;have hn0:n=0:=by grind
  subst hn0;obtain⟨aue,auo⟩:=H.kill hs hk;have G:=Grown.none (X:=X) (X₁:=⟨X.s,⟨avT,X.h.next⟩,X.w,X.A⟩) aue auo rfl ht;exact⟨⟨cw X.s X.h.next .nil,⟨t,X.h.next+1⟩,X.w,X.A⟩,⟨rfl,rfl,G.H,G.E⟩,G.R⟩
 |«at» x c=>
  obtain⟨cs,tail,h1,h2,h3,h4⟩:=H.obj b _ _ hb hs;obtain⟨auL,auM,e,k1⟩:∃auL auM,auL++auM=cs/\bK (Cs X.w X.out τ) (L.take n) auL:=⟨_,_,LT (n*τ.size) cs,bK.take (fun x c=>Cs.length) n h2⟩;subst e;have G:=Grown.fit (tail:=auM++tail) H hb hs hk ht k1 (by grind) atO;have ew:Ev.cS X.w x (.cells (auL++(auM++tail)).toArray ty (0,0))=X.w:=by
   unfold Ev.cS;have:X.w.heap.setIfInBounds x (.cells (auL++(auM++tail)).toArray ty (0,0))=X.w.heap:=by grind
   rw[this]
  rw[ew]at G;refine⟨⟨cw X.s X.h.next (.at x c),⟨t,X.h.next+1⟩,X.w,X.A⟩,⟨rfl,rfl,G.H,G.E⟩,?_⟩;have:=G.R;rw[hlen]at this;exact this
 |dE x c m=>exact(H.obj b _ _ hb hs).elim
theorem anX{lh:List (Nat×LO)}{i:Nat}{v v':AV}{h':Hp}{X:Cx}(H:aV X)(e:Nx lh X.h i v=some (v',h')){V:Value}(R:Rel X v V):∃X',fj X h' X'/\Rel X' v' V:=by
 unfold Nx at e;split at e
 .split at e<;>try cases e
  split at e<;>try cases e
  rename_i τ ty;split at e<;>cases e;rename_i t ht;obtain⟨E,H'⟩:=aV.void H ht;have g0:=Tr.dp _ _ _ _ _ ht;refine⟨⟨cw X.s X.h.next .nil,⟨t,X.h.next+1⟩,X.w,X.A⟩,⟨rfl,rfl,H',E⟩,.nil,fU _ _ _,?_,?_⟩
  .rw[show V=_ from R];rfl
  .intro n' q
   replace q:rowOf t X.h.next=some n':=q
   rw[kP (by rw[g0,IO rfl])]at q;cases q;rw[show V=_ from R];rfl
 .rename_i b τ;split at e
  .split at e
   .split at e<;>cases e;rename_i hc;obtain⟨l,hs,hR⟩:=R;obtain⟨H',E⟩:=ars H hc hs;exact⟨⟨X.s,h',X.w,X.A⟩,⟨rfl,rfl,H',E⟩,Rel.ext (E.fG H) (v:=.hd b τ) ⟨l,hs,hR⟩⟩
   .cases e;exact⟨X,fj.refl H,R⟩
  .cases e;exact⟨X,fj.refl H,R⟩
 .split at e
  .rename_i hb;split at e<;>try cases e
   rename_i avT hk;split at e<;>cases e;rename_i t ht;obtain⟨l,a,c,hs,_,_,_,h5,h6⟩:=R;rw[h5 rfl];have hle:=h6 _ (je hb);exact ak6 H hb hs atO hk ht
  .cases e;exact⟨X,fj.refl H,R⟩
 .cases e;exact⟨X,fj.refl H,R⟩
theorem anl{lh:List (Nat×LO)}{i:Nat}{v v':AV}{h':Hp}{X:Cx}(H:aV X)(e:Ok lh X.h i v=some (v',h')){V:Value}(R:Rel X v V):∃X',fj X h' X'/\Rel X' v' V:=by
 unfold Ok at e;split at e
 .split at e<;>try cases e
  split at e<;>try cases e
  rename_i ty;split at e<;>cases e;rename_i t ht;obtain⟨E,H'⟩:=aV.ZH H ht (fun _=>rfl);refine⟨⟨cw X.s X.h.next .nil,⟨t,X.h.next+1⟩,X.w,X.A⟩,⟨rfl,rfl,H',E⟩,.nil,fU _ _ _,?_⟩;rw[show V=_ from R];rfl
 .cases e;exact⟨X,fj.refl H,R⟩
theorem anY{τ:Sh}{v v':AV}{h':Hp}{X:Cx}(H:aV X)(e:Nw X.h τ v=some (v',h')){V:Value}(R:Rel X v V):∃X',fj X h' X'/\Rel X' v' V:=by
 have main:∀u,Rel X u V->(match fX true X.h (.sl τ) [u]with
  |some (L,l,h')=>match l with|[]=>some (AV.fz τ L,h')|_=>none
  |none=>none)=some (v',h')->∃X',fj X h' X'/\Rel X' v' V:=by
  intro u R e;split at e<;>try cases e
  rename_i L l h₁ hf;split at e<;>cases e;obtain⟨F,c,r,he,h1,h2⟩:=tu H hf (show bT X [u] [V]from⟨V,[],rfl,R,rfl⟩);have:r=[]:=h2;subst this;rw[d6]at he;subst he;exact⟨⟨X.s,h',X.w,X.A⟩,⟨rfl,rfl,F.H,F.E⟩,h1⟩
 unfold Nw at e;split at e
 .exact main _ R e
 .split at e
  .rename_i hf
   grind
  .obtain⟨F,Q⟩:=aaw H e R;exact⟨⟨X.s,h',X.w,X.A⟩,⟨rfl,rfl,F.H,F.E⟩,Q⟩
 .cases e;exact⟨X,fj.refl H,R⟩
theorem fj.trans{X X' X'':Cx}{h' h'':Hp}(a:fj X h' X')(b:fj X' h'' X''):fj X h'' X'':=⟨b.1.trans a.1,b.2.1,b.2.2.1,a.2.2.2.trans b.2.2.2⟩
mutual
theorem aaP{lh:List (Nat×LO)}:∀(a:LA) {v v':AV}{h':Hp}{X:Cx},aV X->jf lh X.h a v=some (v',h')->∀{V:Value},Rel X v V->∃X',fj X h' X'/\Rel X' v' V
 |.hd i τ,v,v',h',X,H,e,V,R=>anX H (by simpa only[jf]using e) R|.fB i,v,v',h',X,H,e,V,R=>anl H (by simpa only[jf]using e) R|.fz τ,v,v',h',X,H,e,V,R=>anY H (by simpa only[jf]using e) R|.func f x c,v,v',h',X,H,e,V,R=>by
  simp only[jf]at e;split at e
  .rename_i g x' c';split at e<;>try cases e
   rename_i awm h₁ auQ;split at e<;>cases e;rename_i auM auR;obtain⟨xs,cs,rfl,R1,R2⟩:=R;obtain⟨X₁,auk,aut⟩:=xm x H auQ R1;have hX:=auk.2.1;rw[<-hX]at auR;obtain⟨auG,aul,auu⟩:=xm c auk.2.2.1 auR (R2.ext (auk.2.2.2.fG H));exact⟨auG,auk.trans aul,xs,cs,rfl,aut.ext (aul.2.2.2.fG auk.2.2.1),auu⟩
  .cases e;exact⟨X,fj.refl H,R⟩
 |.agg l,v,v',h',X,H,e,V,R=>by
  simp only[jf]at e;split at e
  .rename_i l';split at e<;>cases e;rename_i avy auQ;obtain⟨cs,rfl,R1⟩:=R;obtain⟨X₁,auk,aut⟩:=xm l H auQ R1;exact⟨X₁,auk,cs,rfl,aut⟩
  .cases e;exact⟨X,fj.refl H,R⟩
 |.d5 l,v,v',h',X,H,e,V,R=>by
  simp only[jf]at e;split at e
  .rename_i l';split at e<;>cases e;rename_i avy auQ;obtain⟨cs,rfl,R1⟩:=R;obtain⟨X₁,auk,aut⟩:=xm l H auQ R1;exact⟨X₁,auk,cs,rfl,aut⟩
  .cases e;exact⟨X,fj.refl H,R⟩
 |.int k,v,v',h',X,H,e,V,R=>by simp only[jf]at e;cases e;exact⟨X,fj.refl H,R⟩
 |.bool,v,v',h',X,H,e,V,R=>by simp only[jf]at e;cases e;exact⟨X,fj.refl H,R⟩
 |.str,v,v',h',X,H,e,V,R=>by simp only[jf]at e;cases e;exact⟨X,fj.refl H,R⟩
 |.fw,v,v',h',X,H,e,V,R=>by simp only[jf]at e;cases e;exact⟨X,fj.refl H,R⟩
 |.bt,v,v',h',X,H,e,V,R=>by simp only[jf]at e;cases e;exact⟨X,fj.refl H,R⟩
 |.gr,v,v',h',X,H,e,V,R=>by simp only[jf]at e;cases e;exact⟨X,fj.refl H,R⟩
 |.ga,v,v',h',X,H,e,V,R=>by simp only[jf]at e;cases e;exact⟨X,fj.refl H,R⟩
 |.gZ,v,v',h',X,H,e,V,R=>by simp only[jf]at e;cases e;exact⟨X,fj.refl H,R⟩
 |.kS,v,v',h',X,H,e,V,R=>by simp only[jf]at e;cases e;exact⟨X,fj.refl H,R⟩
 |.fJ τ,v,v',h',X,H,e,V,R=>by simp only[jf]at e;cases e;exact⟨X,fj.refl H,R⟩
 |.ie σ o,v,v',h',X,H,e,V,R=>by simp only[jf]at e;cases e;exact⟨X,fj.refl H,R⟩
 |.ptr b o,v,v',h',X,H,e,V,R=>by simp only[jf]at e;cases e;exact⟨X,fj.refl H,R⟩
 |.mp b,v,v',h',X,H,e,V,R=>by simp only[jf]at e;cases e;exact⟨X,fj.refl H,R⟩
 |.fE b z o,v,v',h',X,H,e,V,R=>by simp only[jf]at e;cases e;exact⟨X,fj.refl H,R⟩
 |.rp b,v,v',h',X,H,e,V,R=>by simp only[jf]at e;cases e;exact⟨X,fj.refl H,R⟩
theorem xm{lh:List (Nat×LO)}:∀(l:List LA) {vs vs':List AV}{h':Hp}{X:Cx},aV X->rf lh X.h l vs=some (vs',h')->∀{cs:pi},bT X vs cs->∃X',fj X h' X'/\bT X' vs' cs
 |[],vs,vs',h',X,H,e,cs,R=>by simp only[rf]at e;cases e;exact⟨X,fj.refl H,R⟩
 |a::l,vs,vs',h',X,H,e,cs,R=>by
  simp only[rf]at e;split at e
  .cases e;exact⟨X,fj.refl H,R⟩
  .rename_i v vs;split at e<;>try cases e
   rename_i awd h₁ auQ;split at e<;>cases e;rename_i awa auR;obtain⟨V,r,rfl,R1,R2⟩:=R;obtain⟨X₁,auk,aut⟩:=aaP a H auQ R1;have hX:=auk.2.1;rw[<-hX]at auR;obtain⟨auG,aul,auu⟩:=xm l auk.2.2.1 auR (R2.ext (auk.2.2.2.fG H));exact⟨auG,auk.trans aul,V,r,rfl,aut.ext (aul.2.2.2.fG auk.2.2.1),auu⟩
end
def uL(n:Nat)(lh:List (Nat×LO)):List (Tmp×LA)->St->Option St
 |[],st=>some st|p::l,st=>match st.T.get p.1 with
  |some v=>match jf lh st.h p.2 v with
   |some (v,h)=>match j7 n st.T (some p.1) v with|some T=>uL n lh l ⟨T,h⟩|none=>none
   |none=>none
  |none=>uL n lh l st
theorem ER{n:Nat}{lh:List (Nat×LO)}:∀{l:List (Tmp×LA)}{st st':St},uL n lh l st=some st'->∀{X:Cx}{a:Act},RF X n st a->∃X',X'.w=X.w/\RF X' n st' a/\bh X X'
 |[],st,st',e,X,a,R=>by simp only[uL,cM]at e;subst e;exact⟨X,rfl,R,bh.refl X⟩|p::l,st,st',e,X,a,R=>by
  simp only[uL]at e;split at e
  .rename_i v hv;split at e<;>try cases e
   rename_i awd h₁ auQ;split at e<;>try cases e
   rename_i T hT;have hX:=R.h;rw[<-hX]at auQ;obtain⟨V,b1,b2⟩:=R.T.get _ _ hv;obtain⟨X₁,⟨awf,avp,auo,aue⟩,aut⟩:=aaP p.2 R.H auQ b2;have hg:=rz hT;have auv:RF X₁ n ⟨T,h₁⟩ a:=by
    refine⟨avp,⟨R.T.size,R.T.defers,?_⟩,auo⟩;intro x u hu;rw[hg x]at hu;by_cases q:p.1=x
    .subst q
     grind
    .rw[BT (by grind)]at hu;obtain⟨U,c1,c2⟩:=R.T.get _ _ hu;exact⟨U,c1,c2.ext (aue.fG R.H)⟩
   obtain⟨auG,awg,auw,auf⟩:=ER e auv;exact⟨auG,awg.trans awf,auw,aue.trans auf⟩
  .exact ER e R
def Ry(lh:List (Nat×LO))(las:List LA)(j:Nat)(h:Hp):Option Hp:=match h.tr.get j with
 |some o=>match o with
  |.cells vs ty=>match rf lh h las vs with
   |some (vs',h')=>match h'.tr.get j with
    |some o'=>match o' with
     |.cells _ _=>match Tr.set FT h'.tr j (some (.cells vs' ty))with|some t=>some ⟨t,h'.next⟩|none=>none
     |_=>none
    |none=>none
   |none=>none
  |_=>none
 |none=>none
theorem ajY{lh:List (Nat×LO)}{las:List LA}{j:Nat}{h':Hp}{X:Cx}(H:aV X)(e:Ry lh las j X.h=some h')(hr:X.s j≠none):∃X',fj X h' X':=by
 unfold Ry at e;split at e<;>try cases e
 rename_i o hj;split at e<;>try cases e
 rename_i vs ty;split at e<;>try cases e
 rename_i vs' h₁ hf;split at e<;>try cases e
 rename_i avG avi;split at e<;>try cases e
 rename_i awa avR;split at e<;>cases e;rename_i t ht;cases hs:X.s j with|none=>exact absurd hs hr|some l=>obtain⟨b,c,cs,rfl,e2,e3⟩:=H.obj j _ l hj hs;obtain⟨X₁,⟨awf,avb,auo,aue⟩,aut⟩:=xm las H hf e3;have hsn:X₁.s j=some (.at b c):=aue.sg _ _ hs;rw[<-avb]at avi ht;obtain⟨g1,g2⟩:=alD auo avi (fun _ _ _ q=>by cases q) hsn (by grind) aut ht;exact⟨⟨X₁.s,⟨t,X₁.h.next⟩,X₁.w,X₁.A⟩,awf,by rw[avb],g1,aue.trans g2⟩
def kq(j:Nat):mt->Bool
 |[]=>false|i::l=>match Nat.beq i j with|true=>true|false=>kq j l
theorem JI{j:Nat}:∀{l:mt},kq j l=true->j∈l
 |[],h=>by cases h
 |i::l,h=>by
  simp only[kq]at h;split at h
  .rename_i q;simp_all
  .exact FS _ (JI h)
mutual
def iF:AV->mt->mt
 |.ptr b _,r=>b::r|.hd b _,r=>b::r|.mp b,r=>b::r|.fB b,r=>b::r|.rp b _,r=>b::r|.ra b _,r=>b::r|.func _ x c,r=>nf x (nf c r)|.agg l,r=>nf l r|.d5 l,r=>nf l r|_,r=>r
termination_by structural x=>x
def nf:List AV->mt->mt
 |[],r=>r|v::l,r=>iF v (nf l r)
termination_by structural x=>x
end
mutual
theorem Zyi{X:Cx}:∀(v:AV) {r:mt}{V:Value},Rel X v V->(∀j∈r,X.s j≠none)->∀j∈iF v r,X.s j≠none
 |.ptr b o,r,V,⟨x,c,h1,_⟩,hr,j,hj=>by
  simp only[iF,GE]at hj;rcases hj with rfl|hj
  .rw[h1];simp
  .exact hr j hj
 |.hd b o,r,V,⟨x,h1,_⟩,hr,j,hj=>by
  simp only[iF,GE]at hj;rcases hj with rfl|hj
  .rw[h1];simp
  .exact hr j hj
 |.mp b,r,V,⟨x,c,h1,_⟩,hr,j,hj=>by
  simp only[iF,GE]at hj;rcases hj with rfl|hj
  .rw[h1];simp
  .exact hr j hj
 |.fB b,r,V,⟨x,h1,_⟩,hr,j,hj=>by
  simp only[iF,GE]at hj;rcases hj with rfl|hj
  .rw[h1];simp
  .exact hr j hj
 |.rp b i,r,V,⟨x,c,m,p,h1,_⟩,hr,j,hj=>by
  simp only[iF,GE]at hj;rcases hj with rfl|hj
  .rw[h1];simp
  .exact hr j hj
 |.ra b i,r,V,⟨x,c,m,h1,_⟩,hr,j,hj=>by
  simp only[iF,GE]at hj;rcases hj with rfl|hj
  .rw[h1];simp
  .exact hr j hj
 |.func f x c,r,V,⟨xs,cs,_,h1,h2⟩,hr,j,hj=>uX x h1 (uX c h2 hr) j (by simpa only[iF]using hj)|.agg l,r,V,⟨cs,_,h1⟩,hr,j,hj=>uX l h1 hr j (by simpa only[iF]using hj)|.d5 l,r,V,⟨cs,_,h1⟩,hr,j,hj=>uX l h1 hr j (by simpa only[iF]using hj)|.bool _,r,V,h,hr,j,hj=>hr j (by simpa only[iF]using hj)|.int _ _,r,V,h,hr,j,hj=>hr j (by simpa only[iF]using hj)|.str _,r,V,h,hr,j,hj=>hr j (by simpa only[iF]using hj)|.fw,r,V,h,hr,j,hj=>hr j (by simpa only[iF]using hj)|.bt,r,V,h,hr,j,hj=>hr j (by simpa only[iF]using hj)|.gr,r,V,h,hr,j,hj=>hr j (by simpa only[iF]using hj)|.ga,r,V,h,hr,j,hj=>hr j (by simpa only[iF]using hj)|.gZ,r,V,h,hr,j,hj=>hr j (by simpa only[iF]using hj)|.kS,r,V,h,hr,j,hj=>hr j (by simpa only[iF]using hj)|.fE _ _ _ _,r,V,h,hr,j,hj=>hr j (by simpa only[iF]using hj)|.ie _ _ _,r,V,h,hr,j,hj=>hr j (by simpa only[iF]using hj)|.vw _ _ _ _,r,V,h,hr,j,hj=>hr j (by simpa only[iF]using hj)|.fJ _ _ _,r,V,h,hr,j,hj=>hr j (by simpa only[iF]using hj)|.fz _ _,r,V,h,hr,j,hj=>hr j (by simpa only[iF]using hj)
theorem uX{X:Cx}:∀(l:List AV) {r:mt}{cs:pi},bT X l cs->(∀j∈r,X.s j≠none)->∀j∈nf l r,X.s j≠none
 |[],r,cs,h,hr,j,hj=>hr j (by simpa only[nf]using hj)|v::l,r,cs,⟨V,t,_,h1,h2⟩,hr,j,hj=>Zyi v h1 (uX l h2 hr) j (by simpa only[nf]using hj)
end
def cellsOf(h:Hp)(j:Nat):List AV:=match h.tr.get j with
 |some o=>match o with|.cells l _=>l|.fA _ _ _ l _=>l|_=>[]
 |none=>[]
theorem aan{X:Cx}(H:aV X){j:Nat}(hj:X.s j≠none){r:mt}(hr:∀i∈r,X.s i≠none):∀i∈nf (cellsOf X.h j) r,X.s i≠none:=by
 unfold cellsOf;split
 .rename_i o ho;split
  .rename_i l ty;cases hs:X.s j with|none=>exact absurd hs hj|some k=>obtain⟨b,c,cs,rfl,e2,e3⟩:=H.obj j _ k ho hs;exact uX l e3 hr
  .rename_i τ' i' L' l ty;cases hs:X.s j with|none=>exact absurd hs hj|some k=>obtain⟨b,c,pre,mid,post,tail,rfl,e1,e2,e3,_⟩:=H.obj j _ k ho hs;exact uX l e3 hr
  .simpa only[nf]using hr
 .simpa only[nf]using hr
def sP(lh:List (Nat×LO)):List (Nat×Nat)->mt->Hp->Option (mt×Hp)
 |[],kn,h=>some (kn,h)|p::m,kn,h=>match kq p.1 kn with
  |true=>match qN lh p.2 with
   |some o=>match o with
    |.cells las _=>match Ry lh las p.1 h with|some h=>sP lh m (nf (cellsOf h p.1) kn) h|none=>none
    |.fA _ _ _=>sP lh m (nf (cellsOf h p.1) kn) h|_=>sP lh m kn h
   |none=>sP lh m kn h
  |false=>none
theorem yT{lh:List (Nat×LO)}:∀{m:List (Nat×Nat)}{kn kn':mt}{h':Hp}{X:Cx},aV X->sP lh m kn X.h=some (kn',h')->(∀j∈kn,X.s j≠none)->∃X',fj X h' X'/\∀j∈kn',X'.s j≠none
 |[],kn,kn',h',X,H,e,hk=>by simp only[sP,cM,arJ]at e;obtain⟨rfl,rfl⟩:=e;exact⟨X,fj.refl H,hk⟩
 |p::m,kn,kn',h',X,H,e,hk=>by
  simp only[sP]at e;split at e<;>try cases e
  rename_i hm;have hr:=hk _ (JI hm);split at e
  .split at e
   .split at e<;>try cases e
    rename_i h₁ hB;obtain⟨X₁,auk⟩:=ajY H hB hr;have avf:∀j∈kn,X₁.s j≠none:=fun j hj q=>by cases r:X.s j with|none=>exact hk j hj r|some l=>rw[auk.2.2.2.sg _ _ r]at q;cases q
    have avk:X₁.s p.1≠none:=avf _ (JI hm);have hX:=auk.2.1;rw[<-hX]at e;obtain⟨auG,aul,avg⟩:=yT auk.2.2.1 e (aan auk.2.2.1 avk avf);exact⟨auG,auk.trans aul,avg⟩
   .exact yT H e (aan H hr hk)
   .exact yT H e hk
  .exact yT H e hk
theorem ajf(m:List (Nat×Nat)):JS 0 m=fe m:=by
 funext j;unfold JS;split
 .rename_i h;rw[atA]at h;omega
 .rfl
def iW(base:Nat)(s:Sg)(m:List (Nat×Nat)):Sg:=fun i=>match inv m i with|some j=>s j|none=>match Nat.blt i base with|true=>s i|false=>none
structure abt(m:List (Nat×Nat))(X X':Cx):Prop where
 H:aV X'
 R:Rn (fe m) X X'
 s1:∀j i,fe m j=some i->X'.s i=X.s j
 g2:∀i o',X'.h.tr.get i=some o'->∃j o,fe m j=some i/\X.h.tr.get j=some o/\kF (fe m) o=some o'
 da:∀b,X'.da b->X.da b
theorem Z0{X:Cx}(H:aV X){base nx:Nat}(hbn:base<=nx){m:List (Nat×Nat)}(O:sY 0 nx m){t:Tr bC}(ht:qu (fe m) X.h.tr m .nil=some t){A':Nat->Prop}
  (hA1:∀b,A' b->X.out b) (hA2:∀b,A' b->¬Cx.da ⟨iW base X.s m,⟨t,nx⟩,X.w,A'⟩ b):abt m X ⟨iW base X.s m,⟨t,nx⟩,X.w,A'⟩:=by
 have fI:∀j i,fe m j=some i->(j,i)∈m:=fun j i q=>A4 q;have fM:∀j i,(j,i)∈m->fe m j=some i:=fun j i q=>yU O q;have s1:∀j i,fe m j=some i->iW base X.s m i=X.s j:=by intro j i q;unfold iW;rw[MU O (fI j i q)]
 have s2:∀i l,iW base X.s m i=some l->i<nx:=by
  intro i l q;unfold iW at q;split at q
  .rename_i j hj;exact(O.lo _ (abk hj)).2.2
  .split at q
   .rename_i q2;rw[atA]at q2;omega
   .cases q
 have g2:∀i o',t.get i=some o'->∃j o,fe m j=some i/\X.h.tr.get j=some o/\kF (fe m) o=some o':=by
  intro i o' q;rcases(AF ht i).2 o' q with r|⟨j,o,a,b,c⟩
  .simp[Tr.get]at r
  .exact⟨j,o,fM j i a,b,c⟩
 have inj:∀j k i,fe m j=some i->fe m k=some i->j=k:=by intro j k i h1 h2;have:=O.snd _ (fI j i h1) _ (fI k i h2) rfl;simpa using this
 have arr:∀j i n,fe m j=some i->rowOf t i=some n->rowOf X.h.tr j=some n:=by intro j i n h1 h2;obtain⟨o',h2,hr⟩:=mh h2;obtain⟨k,o,a,b,c⟩:=g2 i _ h2;have:=inj j k i h1 a;subst this;rw[kP b,<-aeZ c];exact hr
 have da:∀b,Cx.da ⟨iW base X.s m,⟨t,nx⟩,X.w,A'⟩ b->X.da b:=by rintro b ⟨i,o',c,h1,h2,h3⟩;obtain⟨j,o,a1,a2,_⟩:=g2 i o' h1;rw[show Cx.s ⟨iW base X.s m,⟨t,nx⟩,X.w,A'⟩ i=iW base X.s m i from rfl,s1 j i a1]at h2;exact⟨j,o,c,a2,h2,h3⟩
 have Rn':Rn (fe m) X ⟨iW base X.s m,⟨t,nx⟩,X.w,A'⟩:=by
  refine⟨fun j i l q r=>by grind,?_,fun j i n q r=>arr j i n q r⟩;intro b o h q;refine⟨q,?_⟩;rintro(r|r)
  .exact h (hA1 b r)
  .exact h (.inr (da b r))
 refine⟨⟨?_,?_,?_,?_,?_,?_⟩,Rn',s1,g2,da⟩
 .intro i o' l h1 h2;obtain⟨j,o,a1,a2,a3⟩:=g2 i o' h1;rw[show Cx.s ⟨iW base X.s m,⟨t,nx⟩,X.w,A'⟩ i=iW base X.s m i from rfl,s1 j i a1]at h2;exact aa6 Rn' rfl a3 (H.obj j o l a2 h2)
 .intro i k avF avG c c' b h1 h2 h3 h4 h5 h6;obtain⟨j,o,a1,a2,_⟩:=g2 i avF h1;obtain⟨j',o',b1,b2,_⟩:=g2 k avG h2;rw[show Cx.s ⟨iW base X.s m,⟨t,nx⟩,X.w,A'⟩ i=iW base X.s m i from rfl,s1 j i a1]at h3;rw[show Cx.s ⟨iW base X.s m,⟨t,nx⟩,X.w,A'⟩ k=iW base X.s m k from rfl,s1 j' k b1]at h4;have:=H.inj j j' o o' c c' b a2 b2 h3 h4 h5 h6;subst this;rw[a1]at b1;cases b1;rfl
 .intro i o h1;obtain⟨j,o',a,_⟩:=g2 i o h1;exact(O.lo _ (fI j i a)).2.2
 .intro i l h1;exact s2 i l h1
 .intro b hb;rcases hA1 b hb with q|q
  .exact H.alt b q
  .exact H.so q
 .intro i o' c b h1 h2 h4 h3;exact hA2 b h3 ⟨i,o',c,h1,h2,h4⟩
theorem TE{n:Nat}{bn:List Tmp}{m:List (Nat×Nat)}{nx:Nat}{st N:St}(e:zL 0 n bn m nx st=some N) :
  sY 0 nx m/\xA (fe m) n st.T bn=some N.T/\qu (fe m) st.h.tr m .nil=some N.h.tr/\N.h.next=nx:=by
 unfold zL at e;split at e
 case h_2=>cases e
 rename_i hm hbn;split at e<;>try cases e
 rename_i T avT hT h₁;split at e<;>try cases e
 rename_i t h₂;rw[ajf]at hT h₂;have:avT=.nil:=by simp only[Nr,cM]at h₁;exact h₁.symm
 subst this;exact⟨aaE hm,hT,h₂,rfl⟩
theorem akm{n:Nat}{bn:List Tmp}{m:List (Nat×Nat)}{nx:Nat}{st N:St}(e:zL 0 n bn m nx st=some N){X₀ X:Cx}{a:Act}(aun:aV X₀)(hlo:∀i,i<X₀.h.next->fe m i=some i\/inv m i=none)(hnx:X₀.h.next<=nx)
  (hr:∀i,i<X₀.h.next->X₀.s i≠none) (E:bh X₀ X) (R:RF X n st a):∃X',X'.w=X.w/\RF X' n N a/\bh X₀ X':=by
 obtain⟨O,hT,ht,hn⟩:=TE e;have hX:=R.h;rw[<-hX]at ht;have Q:=Z0 R.H hnx O ht (A':=X.A) (fun b h=>.inl h) (by
  rintro b hb ⟨i,o',c,h1,h2,h3⟩;rcases(AF ht i).2 o' h1 with r|⟨j,o,a1,a2,_⟩
  .simp[Tr.get]at r
  .replace h2:iW X₀.h.next X.s m i=some c:=h2
   unfold iW at h2;rw[MU O a1]at h2;exact R.H.loc j o c b a2 h2 h3 hb)
 have hN:N.h=⟨N.h.tr,nx⟩:=by rw[<-hn]
 refine⟨⟨iW X₀.h.next X.s m,⟨N.h.tr,nx⟩,X.w,X.A⟩,rfl,⟨hN.symm,⟨R.T.size,R.T.defers,?_⟩,Q.H⟩,?_⟩
 .intro x v' q;obtain⟨v,a1,a2⟩:=Ob hT x v' q;obtain⟨V,b1,b2⟩:=R.T.get x v a1;exact⟨V,b1,N2 Q.R a2 b2⟩
 .have sl:∀i,i<X₀.h.next->iW X₀.h.next X.s m i=X.s i:=fun i hi=>by
   rcases hlo i hi with q|q
   .exact Q.s1 i i q
   .unfold iW;rw[q,show Nat.blt i X₀.h.next=true by rw[atA];exact hi]
  refine⟨E.os,E.tape,E.output,E.size,?_,?_,hnx,E.frame,fun b h=>E.da b (Q.da b h),?_,?_,E.A⟩
  .intro i l h;show iW X₀.h.next X.s m i=_;rw[sl i (aun.dM i l h)];exact E.sg i l h
  .intro i l hi h
   replace h:iW X₀.h.next X.s m i=some l:=h
   rw[sl i hi]at h;exact E.dM i l hi h
  .intro j n hj h;rcases hlo j hj with q|q
   .exact E.len j n hj (Q.R.obj j j n q h)
   .obtain⟨o',h2,_⟩:=mh h;obtain⟨k,o,a,_⟩:=Q.g2 j o' h2;rw[MU O (A4 a)]at q;cases q
  grind
def arA:LA->Option Nat
 |.ptr b _=>some b|.fE b _ _=>some b|.rp b=>some b|.hd b _=>some b|.mp b=>some b|.fB b=>some b|_=>none
def numOf:AV->Option Nat
 |.ptr b _=>some b|.fE b _ _ _=>some b|.rp b _=>some b|.hd b _=>some b|.mp b=>some b|.fB b=>some b|_=>none
def rm:List LA->List AV->List (LA×AV)->List (LA×AV)
 |[],_,r=>r|a::l,m,r=>match m with|b::m=>(a,b)::rm l m r|[]=>r
def px(lh:List (Nat×LO))(h:Tr bC):Nat->List (LA×AV)->List (Nat×Nat)->Option (List (Nat×Nat))
 |0,_,_=>none|k+1,l,m=>match l with
  |[]=>some m|p::l=>match arA p.1,numOf p.2 with
   |some i,some j=>match fe m j with|some _=>px lh h k l m|none=>match qN lh i,h.get j with|some (.cells a _),some (.cells b _)=>px lh h k (rm a b l) ((j,i)::m)|some (.fA _ a _),some (.fA _ _ _ b _)=>px lh h k (rm a b l) ((j,i)::m)|_,_=>px lh h k l ((j,i)::m)
   |_,_=>match p.1,p.2 with|.func _ x c,.func _ x' c'=>px lh h k (rm x x' (rm c c' l)) m|.agg x,.agg x'=>px lh h k (rm x x' l) m|.d5 x,.d5 x'=>px lh h k (rm x x' l) m|_,_=>px lh h k l m
def yW(T:Tr AV):List (Tmp×LA)->List (LA×AV)
 |[]=>[]|p::l=>match T.get p.1 with|some v=>(p.2,v)::yW T l|none=>yW T l
def NA:List (Tmp×LA)->List Tmp
 |[]=>[]|p::l=>p.1::NA l
def sR(lh:List (Nat×LO)):Nat->List (Nat×Nat)
 |0=>[]|b+1=>match qN lh b with|some _=>(b,b)::sR lh b|none=>sR lh b
def EA:Nat->mt->mt
 |0,r=>r|b+1,r=>b::EA b r
def AP(lh:List (Nat×LO))(h:Tr bC):Nat->List (LA×AV)
 |0=>[]|b+1=>match qN lh b,h.get b with|some (.cells x _),some (.cells y _)=>rm x y (AP lh h b)|some (.fA _ x _),some (.fA _ _ _ y _)=>rm x y (AP lh h b)|_,_=>AP lh h b
def Rr{α:Type}:List α->List α->List α
 |[],m=>m|x::l,m=>x::Rr l m
def aff{α:Type}:List α->List α->List α
 |[],m=>m|x::l,m=>aff l (x::m)
def yM(T:Tr AV):List (Tmp×LA)->mt->mt
 |[],r=>r|p::l,r=>match T.get p.1 with|some v=>iF v (yM T l r)|none=>yM T l r
theorem Tx{X:Cx}{n:Nat}{T:Tr AV}{a:Act}(R:mH X n T a):∀{l:List (Tmp×LA)}{r:mt},(∀j∈r,X.s j≠none)->∀j∈yM T l r,X.s j≠none
 |[],r,h,j,hj=>h j hj|p::l,r,h,j,hj=>by
  simp only[yM]at hj;split at hj
  .rename_i v hv;obtain⟨V,_,b2⟩:=R.get _ _ hv;exact Zyi v b2 (Tx R h) j hj
  .exact Tx R h j hj
theorem aac:∀{b:Nat}{r:mt}{j:Nat},j∈EA b r->j<b\/j∈r
 |0,r,j,h=>.inr h|b+1,r,j,h=>by
  simp only[EA,GE]at h;rcases h with rfl|h
  .exact .inl atO
  .rcases aac h with q|q
   .exact .inl atO
   .exact .inr q
def EB(m:List (Nat×Nat))(b:Nat)(r:Bool):Bool:=match inv m b with|none=>r|some _=>false
def uw(m:List (Nat×Nat)):Nat->Bool
 |0=>true|b+1=>match fe m b with
  |some i=>match Nat.beq i b with|true=>uw m b|false=>EB m b (uw m b)
  |none=>EB m b (uw m b)
theorem Yb{m:List (Nat×Nat)}{b:Nat}{r:Bool}(h:EB m b r=true):inv m b=none/\r=true:=by
 unfold EB at h
 grind
theorem Zyf{m:List (Nat×Nat)}:∀{b:Nat},uw m b=true->∀i,i<b->fe m i=some i\/inv m i=none
 |0,_,i,h=>by omega|b+1,e,i,h=>by
  have key:(fe m b=some b\/inv m b=none)/\uw m b=true:=by
   simp only[uw]at e;split at e
   .rename_i k hk;split at e
    .rename_i q
     simp_all
    .obtain⟨h1,h2⟩:=Yb e;exact⟨.inr h1,h2⟩
   .obtain⟨h1,h2⟩:=Yb e;exact⟨.inr h1,h2⟩
  rcases arm i b with r|r
  .exact Zyf key.2 i r
  grind
def Hu(base:Nat)(lay:ai)(st:St):Option (mt×Hp):=match px lay.h st.h.tr 1000 (Rr (yW st.T lay.T) (AP lay.h st.h.tr base)) (sR lay.h base)with|some m=>sP lay.h (aff m []) (yM st.T lay.T (EA base [])) st.h|none=>none
def enter(base n:Nat)(lay:ai)(own:List (Tmp×Sh×TypeId))(st:St):Option (TL lay.σs):=match wT n own st with
 |some st=>match uL n lay.h lay.T st with
  |some st=>match Hu base lay st with
   |some (_,h)=>match px lay.h h.tr 1000 (Rr (yW st.T lay.T) (AP lay.h h.tr base)) (sR lay.h base)with
    |some m=>match uw m base,Nat.ble base lay.nx,zL 0 n (NA lay.T) m lay.nx ⟨st.T,h⟩with|true,true,some st=>lay.get st|_,_,_=>none
    |none=>none
   |none=>none
  |none=>none
 |none=>none
def Real(X:Cx):Prop:=∀i,i<X.h.next->X.s i≠none
theorem YW{n:Nat}{lay:ai}{N st:St}{d:TL lay.σs}(hg:lay.get N=some d)(hp:lay.put n d=some st){X₀ X:Cx}{a:Act}(hb:X₀.h.next<=lay.nx)(hr:Real X₀)(aun:aV X₀)(hn:N.h.next=lay.nx)(E:bh X₀ X)(R:RF X n N a) :
  ∃X',X'.w=X.w/\RF X' n st a/\bh X₀ X':=by
 unfold ai.get at hg;split at hg<;>try cases hg
 rename_i dh hh;unfold ai.put at hp;split at hp<;>try cases hp
 rename_i T auO hT;obtain⟨e1,t2⟩:=aaI hg hT;subst e1;split at hp<;>try cases hp
 rename_i t ht;have h2:=aaJ hh ht;have hX:=R.h;have da:∀b,Cx.da ⟨X.s,⟨t,lay.nx⟩,X.w,X.A⟩ b->X.da b:=by rintro b ⟨i,o',c,q1,q2⟩;obtain⟨o,g1,g2⟩:=h2 i o' q1;exact⟨i,o,c,by rw[hX];exact g1,q2⟩
 have RE:jd X ⟨X.s,⟨t,lay.nx⟩,X.w,X.A⟩:=by
  refine⟨fun _ _ h=>h,?_,?_⟩
  .intro b o h q;refine⟨q,?_⟩;rintro(r|r)
   .exact h (.inl r)
   .exact h (.inr (da b r))
  .intro j l n _ q;obtain⟨o',q,hr⟩:=mh q;obtain⟨o,g1,g2⟩:=h2 j _ q;rw[hX,kP g1];exact g2.2 n hr
 have H':aV ⟨X.s,⟨t,lay.nx⟩,X.w,X.A⟩:=by
  refine⟨?_,?_,?_,?_,R.H.alt,?_⟩
  .intro i o' l q1 q2;obtain⟨o,g1,g2⟩:=h2 i o' q1;have:=R.H.obj i o l (by rw[hX];exact g1) q2;exact(g2.1 X l this).ext RE (fun _ _=>rfl)
  .intro i j o o' c c' b q1 q2 q3 q4;obtain⟨p,g1,_⟩:=h2 i o q1;obtain⟨p',g2,_⟩:=h2 j o' q2;exact R.H.inj i j p p' c c' b (by rw[hX];exact g1) (by rw[hX];exact g2) q3 q4
  .intro i o' q;obtain⟨o,g1,_⟩:=h2 i o' q;have:=R.H.lt i o (by rw[hX];exact g1)
   grind
  .intro i l q;have:=R.H.dM i l q
   grind
  .intro i o' c b q1 q2;obtain⟨o,g1,_⟩:=h2 i o' q1;exact R.H.loc i o c b (by rw[hX];exact g1) q2
 refine⟨⟨X.s,⟨t,lay.nx⟩,X.w,X.A⟩,rfl,⟨rfl,⟨R.T.size,R.T.defers,?_⟩,H'⟩,?_⟩
 .intro x v' q;obtain⟨v,a1,a2⟩:=t2 x v' q;obtain⟨V,b1,b2⟩:=R.T.get x v a1;exact⟨V,b1,(a2 X V b2).ext RE⟩
 .refine⟨E.os,E.tape,E.output,E.size,E.sg,E.dM,hb,E.frame,fun b h=>E.da b (da b h),?_,fun i hi q=>absurd q (hr i hi),E.A⟩;intro j n hj q;obtain⟨o',q,hr⟩:=mh q;obtain⟨o,g1,g2⟩:=h2 j _ q;exact E.len j n hj (by rw[hX,kP g1];exact g2.2 n hr)
theorem abo{base:Nat}{lay:ai}{st:St}{kn:mt}{h':Hp}(e:Hu base lay st=some (kn,h')){X:Cx}{n:Nat}{a:Act}(R:RF X n st a)(hlo:∀i,i<base->X.s i≠none) :
  ∃X',X'.w=X.w/\RF X' n ⟨st.T,h'⟩ a/\bh X X'/\∀j∈kn,X'.s j≠none:=by
 unfold Hu at e;split at e<;>try cases e
 rename_i m hm;have hX:=R.h;rw[<-hX]at e;obtain⟨X',⟨w',hh,H',E'⟩,hk⟩:=yT R.H e (Tx R.T (fun j hj=>by
  rcases aac hj with q|q
  .exact hlo j q
  .cases q))
 exact⟨X',w',⟨hh,R.T.ext (E'.fG R.H),H'⟩,E',hk⟩
theorem Real.of{X X':Cx}(h:Real X)(E:bh X X'):∀i,i<X.h.next->X'.s i≠none:=by intro i hi q;cases r:X.s i with|none=>exact h i hi r|some l=>rw[E.sg _ _ r]at q;cases q
theorem JL{base n:Nat}{lay:ai}{own:List (Tmp×Sh×TypeId)}{avK st:St}{d:TL lay.σs}(hg:enter base n lay own avK=some d)(hp:lay.put n d=some st){X₀ X:Cx}{a:Act}(hb:X₀.h.next=base/\Real X₀)(aun:aV X₀)(E:bh X₀ X)(R:RF X n avK a) :
  ∃X',X'.w=X.w/\RF X' n st a/\bh X₀ X':=by
 obtain⟨hb,hr⟩:=hb;unfold enter at hg;split at hg<;>try cases hg
 rename_i avL h₁;split at hg<;>try cases hg
 rename_i avM h₂;split at hg<;>try cases hg
 rename_i kn h avr;split at hg<;>try cases hg
 rename_i m hm;split at hg<;>try cases hg
 rename_i N hlow hnx hN;have hnx:=adc hnx;obtain⟨X₁,awf,auv,aue⟩:=NX h₁ R;obtain⟨auG,awg,auw,auf⟩:=ER h₂ auv;have aud:=(E.trans aue).trans auf;obtain⟨auH,awh,auy,aug,_⟩:=abo avr auw (fun i hi=>hr.of aud i atO);obtain⟨auI,awi,auz,auh⟩:=akm hN aun (fun i hi=>Zyf hlow i atO) atO hr (aud.trans aug) auy;have hn:N.h.next=lay.nx:=(TE hN).2.2.2;obtain⟨auJ,awj,auA,aui⟩:=YW hg hp atO hr aun hn auh auz
 grind
def Rx:Ex->Ex->Bool
 |.normal,e=>match e with|.normal=>true|_=>false
 |.exit i,e=>match e with|.exit j=>Nat.beq i j|_=>false
 |.ret,e=>match e with|.ret=>true|_=>false
theorem abp{a b:Ex}(h:Rx a b=true):a=b:=by
 cases a<;>cases b<;>first|rfl|cases h|skip
 rw[cB h]
def Out:List (Ex×ai)->Type
 |[]=>Empty|[p]=>TL p.2.σs|p::q::l=>TL p.2.σs⊕Out (q::l)
abbrev be(l:ai)(o:List (Ev.Ex×ai)):=TL l.σs->Option (Out o)
abbrev am(l:ai)(o:List (Ev.Ex×ai)):=Option (TL l.σs⊕Out o)
def uP{R:Type}(n:Nat):(l:List (Ex×ai))->Out l->(Ex->St->Option R)->Option R
 |[],_,_=>none|[p],o,k=>match p.2.put n o with|some st=>k p.1 st|none=>none
 |p::q::l,o,k=>match o with
  |.inl d=>match p.2.put n d with|some st=>k p.1 st|none=>none
  |.inr o=>uP n (q::l) o k
def nh(n:Nat):(l:List (Ex×ai))->Out l->Option (Ex×St)
 |[],_=>none|[p],o=>match p.2.put n o with|some st=>some (p.1,st)|none=>none
 |p::q::l,o=>match o with
  |.inl d=>match p.2.put n d with|some st=>some (p.1,st)|none=>none
  |.inr o=>nh n (q::l) o
theorem N3{R:Type}{n:Nat}:∀{l:List (Ex×ai)}{o:Out l}{k:Ex->St->Option R}{r:R},uP n l o k=some r->∃e st,nh n l o=some (e,st)/\k e st=some r
 |[],o,k,r,h=>by cases h
 |[p],o,k,r,h=>by
  simp only[uP]at h;split at h<;>try cases h
  rename_i st hst;exact⟨p.1,st,by simp only[nh,hst],h⟩
 |p::q::l,o,k,r,h=>by
  cases o with
  |inl d=>
   simp only[uP]at h;split at h<;>try cases h
   rename_i st hst;exact⟨p.1,st,by simp only[nh,hst],h⟩
  |inr o=>simp only[uP]at h;obtain⟨e,st,h1,h2⟩:=N3 h;exact⟨e,st,by simp only[nh];exact h1,h2⟩
def qP(base n:Nat):(l:List (Ex×ai))->Ex->St->Option (Out l)
 |[],_,_=>none|[p],e,st=>match Rx p.1 e with|true=>enter base n p.2 [] st|false=>none
 |p::q::l,e,st=>match(match Rx p.1 e with|true=>enter base n p.2 [] st|false=>none)with|some d=>atY d|none=>match qP base n (q::l) e st with|some o=>atZ o|none=>none
theorem TS{base n:Nat}:∀{l:List (Ex×ai)}{e:Ex}{avK:St}{o:Out l},qP base n l e avK=some o->∀{e':Ex}{st:St},nh n l o=some (e',st)->e'=e /\
  ∀{X₀ X:Cx}{a:Act},(X₀.h.next=base/\Real X₀)->aV X₀->bh X₀ X->RF X n avK a->∃X',X'.w=X.w/\RF X' n st a/\bh X₀ X'
 |[],e,avK,o,h,e',st,hs=>by cases h
 |[p],e,avK,o,h,e',st,hs=>by
  simp only[qP]at h;split at h<;>try cases h
  rename_i he;simp only[nh]at hs;split at hs<;>try cases hs
  rename_i hp;exact⟨abp he,fun hb aun E R=>JL h hp hb aun E R⟩
 |p::q::l,e,avK,o,h,e',st,hs=>by
  simp only[qP]at h;split at h
  .rename_i d hd;cases h;split at hd<;>try cases hd
   rename_i he;simp only[nh]at hs;split at hs<;>try cases hs
   rename_i hp;exact⟨abp he,fun hb aun E R=>JL hd hp hb aun E R⟩
  .split at h<;>cases h;rename_i o' ho;simp only[nh]at hs;exact TS ho hs
structure mZ where
 np:Nat
 lay:ai
 nr:Nat
 outs:List (Ex×ai)
 F:be lay outs
def oQ(T:Tr AV):Nat->Nat->Option (List AV)
 |0,_=>some []|k+1,i=>match T.get i with
  |some v=>match oQ T k (i+1)with|some l=>some (v::l)|none=>none
  |none=>none
theorem TA{X:Cx}{n:Nat}{T:Tr AV}{a:Act}(R:mH X n T a):∀{k i:Nat}{us:List AV}{Vs:pi},oQ T k i=some us->Vs.length=k->(∀t,t<k->a.tmps[i+t]?=Vs[t]?)->bT X us Vs
 |0,i,us,Vs,e,hl,h=>by simp only[oQ,cM]at e;subst e;exact ww hl|k+1,i,us,Vs,e,hl,h=>by
  simp only[oQ]at e;split at e<;>try cases e
  rename_i v hv;split at e<;>cases e;rename_i l hL;cases Vs with
  |nil=>simp at hl|cons V r=>
   obtain⟨U,b1,b2⟩:=R.get _ _ hv;have h0:=h 0 atO;simp only[asF,Fd]at h0;rw[b1]at h0;cases h0;refine⟨_,r,rfl,b2,TA R hL (by grind) ?_⟩
   grind
def jD(P:Program)(f:FuncId)(s:mZ):Prop:=
 (∃fn c,P.funcs[f]?=some fn/\(fn.name == "runtime.NumGoroutine")=false/\fn.body=some c) /\
 ∀d o,s.F d=some o->∀st e st',s.lay.put s.np d=some st->nh s.nr s.outs o=some (e,st')->∀X vs args,X.h=st.h->aV X->Real X->oQ st.T s.np 0=some vs->bT X vs args ->
  Calls P f (List.toArray args) X.w fun e w'=>∃X' Vs,e=.returned (og Vs)/\X'.w=w'/\X'.h=st'.h/\aV X'/\bh X X'/\∀us,oQ st'.T s.nr 0=some us->bT X' us Vs
def wJ{α:Type}:List α->Nat
 |[]=>0|_::l=>wJ l+1
theorem N8{α:Type}:∀l:List α,wJ l=l.length
 |[]=>rfl|_::l=>by simp[wJ,N8 l]
def Et(kn:mt):List (Nat×Nat)->Bool
 |[]=>true|p::m=>match kq p.1 kn with|true=>Et kn m|false=>false
theorem Zz6{kn:mt}:∀{m:List (Nat×Nat)},Et kn m=true->∀p∈m,p.1∈kn
 |[],_,p,hp=>by cases hp
 |q::m,h,p,hp=>by
  simp only[Et]at h;split at h<;>try cases h
  rename_i hq;rcases GE.1 hp with rfl|hp
  .exact JI hq
  .exact Zz6 h p hp
def Hx(i:Nat):List (Nat×Nat)->Bool
 |[]=>false|p::m=>match Nat.beq p.2 i with|true=>true|false=>Hx i m
theorem aaf{i:Nat}:∀{m:List (Nat×Nat)},Hx i m=true->∃j,(j,i)∈m
 |[],h=>by cases h
 |p::m,h=>by
  simp only[Hx]at h;split at h
  .rename_i q;have q:=cB q
   grind
  .obtain⟨j,hj⟩:=aaf h
   grind
def EF(m:List (Nat×Nat)):Nat->Bool
 |0=>true|b+1=>match Hx b m with|true=>EF m b|false=>false
theorem Zye{m:List (Nat×Nat)}:∀{b:Nat},EF m b=true->∀i,i<b->∃j,(j,i)∈m
 |0,_,i,h=>by omega|b+1,e,i,h=>by
  simp only[EF]at e;split at e<;>try cases e
  rename_i q;rcases arm i b with r|r
  .exact Zye e i r
  .rw[show i=b by omega];exact aaf q
def Ow(s:mZ)(vs:List AV)(h:Hp):Option (List (Nat×Nat)×Hp×TL s.lay.σs):=match Nat.beq (wJ vs) s.np,nc s.np vs 0 .nil with
 |true,some T=>match uL s.np s.lay.h s.lay.T ⟨T,h⟩with
  |some st=>match Hu 0 s.lay st with
   |some (kn,h)=>match px s.lay.h h.tr 1000 (yW st.T s.lay.T) []with
    |some m=>match Et kn m,EF m s.lay.nx,zL 0 s.np (NA s.lay.T) m s.lay.nx ⟨st.T,h⟩with
     |true,true,some N=>match s.lay.get N with
      |some d=>match s.lay.put s.np d with
       |some st=>match oQ st.T s.np 0 with|some _=>some (m,h,d)|none=>none
       |none=>none
      |none=>none
     |_,_,_=>none
    |none=>none
   |none=>none
  |none=>none
 |_,_=>none
def v8(t:Tr bC):List (Nat×Nat)->Option (Tr bC)
 |[]=>some t|p::m=>match v8 t m with|some t=>Tr.set FT t p.1 none|none=>none
theorem TG{t:Tr bC}:∀{m:List (Nat×Nat)}{t':Tr bC},v8 t m=some t'->∀k,(t'.get k=t.get k/\∀i,(k,i)∉m)\/(t'.get k=none/\∃i,(k,i)∈m)
 |[],t',e,k=>by simp only[v8,cM]at e;grind|p::m,t',e,k=>by
  simp only[v8]at e;split at e<;>try cases e
  rename_i avT h₁;rw[Tr.dp _ _ _ _ _ e k];by_cases q:k=p.1
  .rw[IO q]
   grind
  .rw[BT q];rcases TG h₁ k with⟨a,b⟩|⟨a,i,b⟩
   .exact .inl ⟨a,fun i hi=>by grind⟩
   grind
def news(nx hn:Nat):Nat->List (Nat×Nat)
 |0=>[]|q+1=>(nx+q,hn+q)::news nx hn q
theorem TR{nx hn:Nat}:∀{c:Nat}{p:Nat×Nat},p∈news nx hn c↔∃q,q<c/\p=(nx+q,hn+q)
 |0,p=>by simp[news]|c+1,p=>by
  simp only[news,GE,TR (c:=c)]
  grind
def yR:List (Nat×Nat)->List (Nat×Nat)->List (Nat×Nat)
 |[],r=>r|p::m,r=>(p.2,p.1)::yR m r
theorem Jv:∀{m r:List (Nat×Nat)}{p:Nat×Nat},p∈yR m r↔(p.2,p.1)∈m\/p∈r
 |[],r,p=>by simp[yR]|q::m,r,p=>by
  obtain⟨a,b⟩:=p;obtain⟨c,d⟩:=q;simp only[yR,GE,Jv (m:=m),arJ]
  grind
def qL(m:List (Nat×Nat))(nx hn c:Nat):List (Nat×Nat):=yR m (news nx hn c)
theorem air{m:List (Nat×Nat)}{nx hn c:Nat}(O:sY 0 nx m)(hm:∀p∈m,p.1<hn):sY 0 (hn+c) (qL m nx hn c):=by
 have mem:∀p,p∈qL m nx hn c->(p.2,p.1)∈m\/∃q,q<c/\p=(nx+q,hn+q):=by
  intro p hp;rcases Jv.1 hp with h|h
  .exact .inl h
  .exact .inr (TR.1 h)
 refine⟨?_,?_,?_⟩
 .intro p hp
  grind
 .intro p hp p' hp' e;rcases mem p hp with h|⟨q,h,rfl⟩<;>rcases mem p' hp' with h'|⟨q',h',rfl⟩
  .have:=O.snd _ h _ h' e
   grind
  .have:=(O.lo _ h).2.2;simp only at this e;omega
  .have:=(O.lo _ h').2.2;simp only at this e;omega
  .simp only at e;rw[show q=q' by omega]
 .intro p hp p' hp' e;rcases mem p hp with h|⟨q,h,rfl⟩<;>rcases mem p' hp' with h'|⟨q',h',rfl⟩
  .have:=O.fst _ h _ h' e
   grind
  .have:=hm _ h;simp only at this e;omega
  .have:=hm _ h';simp only at this e;omega
  grind
def Oh(m:List (Nat×Nat))(h:Hp)(nx nr:Nat)(st':St):Option (List AV×Hp):=match v8 h.tr m,oQ st'.T nr 0 with
 |some t,some us=>match qu (fe (qL m nx h.next (st'.h.next-nx))) st'.h.tr (qL m nx h.next (st'.h.next-nx)) t,o9 (fe (qL m nx h.next (st'.h.next-nx))) us with|some t',some us'=>some (us',⟨t',h.next+(st'.h.next-nx)⟩)|_,_=>none
 |_,_=>none
theorem aiH{auG Xn X₀:Cx}{m:List (Nat×Nat)}{nx:Nat}(aup:aV auG)(O:sY 0 nx m)(Q:abt m auG Xn)(hnx:Xn.h.next=nx)(hAn:∀b,Xn.A b↔auG.out b/\¬Xn.da b)(hwn:Xn.w=auG.w)
  (hreal:∀p∈m,auG.s p.1≠none) (H':aV X₀) (E:bh Xn X₀) {avT t':Tr bC}(hk:v8 auG.h.tr m=some avT)
  (hc:qu (fe (qL m nx auG.h.next (X₀.h.next-nx))) X₀.h.tr (qL m nx auG.h.next (X₀.h.next-nx)) avT=some t') :
  ∃X',X'.w=X₀.w/\X'.h=⟨t',auG.h.next+(X₀.h.next-nx)⟩/\aV X'/\bh auG X'/\Rn (fe (qL m nx auG.h.next (X₀.h.next-nx))) X₀ X':=by
 obtain⟨hn,ehn⟩:∃hn,hn=auG.h.next:=⟨_,rfl⟩;obtain⟨l8,ecnt⟩:∃c,c=X₀.h.next-nx:=⟨_,rfl⟩;rw[<-ehn,<-ecnt]at hc |-;have hcn:X₀.h.next=nx+l8:=by have:=E.next;omega
 have mlt:∀p∈m,p.1<hn:=by intro p hp;cases q:auG.s p.1 with|none=>exact absurd q (hreal p hp)|some l=>have:=aup.dM _ _ q;omega
 have OG:=air (c:=l8) O mlt;obtain⟨G,eG⟩:∃G,G=qL m nx hn l8:=⟨_,rfl⟩;have gmem:∀i k,(i,k)∈G->((k,i)∈m/\k<hn/\i<nx)\/∃q,q<l8/\i=nx+q/\k=hn+q:=by
  intro i k h;rw[eG]at h;rcases Jv.1 h with h|h
  .exact .inl ⟨h,mlt _ h,(O.lo _ h).2.2⟩
  .obtain⟨q,h1,h2⟩:=TR.1 h;simp only[arJ]at h2;exact .inr ⟨q,h1,h2.1,h2.2⟩
 rw[<-eG]at OG hc |-;have gI:∀i k,fe G i=some k->(i,k)∈G:=fun i k h=>A4 h;have gM:∀i k,(i,k)∈G->fe G i=some k:=fun i k h=>yU OG h
 let s':Sg:=fun k=>if k<hn then auG.s k else X₀.s (k-hn+nx)
 have sold:∀k l,auG.s k=some l->k<hn/\s' k=some l:=by
  intro k l h;have:=aup.dM k l h;have hlt:k<hn:=atO
  exact⟨hlt,by simp only[s',IO hlt];exact h⟩
 have gS:∀i k,fe G i=some k->s' k=X₀.s i:=by
  intro i k h;rcases gmem i k (gI i k h)with⟨h1,h2,h3⟩|⟨q,h1,rfl,rfl⟩
  .simp only[s',IO h2];have e1:=Q.s1 k i (yU O h1);cases r:auG.s k with|none=>exact absurd r (hreal _ h1)|some l=>rw[r]at e1;exact(E.sg i l e1).symm
  .simp only[s'];rw[BT atO];congr 1;omega
 have objF:∀k o',t'.get k=some o'->(auG.h.tr.get k=some o'/\(∀i,(k,i)∉m)/\k<hn)\/∃i o,fe G i=some k/\X₀.h.tr.get i=some o/\kF (fe G) o=some o':=by
  intro k o' h;rcases(AF hc k).2 o' h with r|⟨i,o,a,b,c⟩
  .rcases TG hk k with⟨a,b⟩|⟨a,_⟩
   .rw[a]at r;have:=aup.lt k o' r;exact .inl ⟨r,b,atO⟩
   .rw[a]at r;cases r
  .exact .inr ⟨i,o,gM i k a,b,c⟩
 have gone:∀k i,(k,i)∈m->∀j,fe G j=some k->j=i:=by
  intro k i h j hj;have h1:(i,k)∈G:=by rw[eG];exact Jv.2 (.inl h)
  have:=OG.snd _ (gI j k hj) _ h1 rfl;simpa using this
 have notG:∀k,(∀i,(k,i)∉m)->k<hn->∀i,fe G i≠some k:=by
  intro k h1 h2 i h3;rcases gmem i k (gI i k h3)with⟨a,_⟩|⟨q,_,_,a⟩
  .exact h1 i a
  .omega
 have imgn:∀k i l,fe m k=some i->auG.s k=some l->Xn.s i=some l:=fun k i l h1 h2=>by rw[Q.s1 k i h1];exact h2
 have imgX:∀b,Xn.da b->∃k i o c,(k,i)∈m/\auG.h.tr.get k=some o/\auG.s k=some c/\c.own b:=by rintro b ⟨i,o',c,h1,h2,h3⟩;obtain⟨k,o,a1,a2,_⟩:=Q.g2 i o' h1;rw[Q.s1 k i a1]at h2;exact⟨k,i,o,c,A4 a1,a2,h2,h3⟩
 have other:∀k o c b,auG.h.tr.get k=some o->(∀i,(k,i)∉m)->auG.s k=some c->c.own b->Xn.A b:=by intro k o c b h1 h2 h3 h4;refine(hAn b).2 ⟨.inr ⟨k,o,c,h1,h3,h4⟩,fun hi=>?_⟩;obtain⟨k',i,o',c',g1,g2,g3,g4⟩:=imgX b hi;have:=aup.inj k k' o o' c c' b h1 g2 h3 g3 h4 g4;subst this;exact h2 i g1
 have aub:∀b,auG.A b->Xn.A b:=by intro b h;refine(hAn b).2 ⟨.inl h,fun hi=>?_⟩;obtain⟨k',i,o',c',g1,g2,g3,g4⟩:=imgX b hi;exact aup.loc k' o' c' b g2 g3 g4 h
 have img':∀b,Cx.da ⟨s',⟨t',hn+l8⟩,X₀.w,auG.A⟩ b->X₀.da b\/(Xn.A b/\auG.da b):=by
  rintro b ⟨k,o',c,h1,h2,h3⟩
  replace h2:s' k=some c:=h2
  rcases objF k o' h1 with⟨a1,a2,a3⟩|⟨i,o,a1,a2,a3⟩
  .simp only[s',IO a3]at h2;exact .inr ⟨other k o' c b a1 a2 h2 h3,k,o',c,a1,h2,h3⟩
  .rw[gS i k a1]at h2;exact .inl ⟨i,o,c,a2,h2,h3⟩
 have outn:∀b,Xn.out b->auG.out b:=by
  rintro b (h|h)
  .exact((hAn b).1 h).1
  .exact .inr (Q.da b h)
 have arr:∀i k n,fe G i=some k->rowOf t' k=some n->rowOf X₀.h.tr i=some n:=by
  intro i k n h1 h2;obtain⟨o',h2,hr⟩:=mh h2;rcases objF k _ h2 with⟨a1,a2,a3⟩|⟨i',o,a1,a2,a3⟩
  .exact absurd h1 (notG k a2 a3 i)
  .have:=OG.snd _ (gI i k h1) _ (gI i' k a1) rfl;simp only[arJ,asY]at this;subst this;rw[kP a2,<-aeZ a3];exact hr
 have Rn':Rn (fe G) X₀ ⟨s',⟨t',hn+l8⟩,X₀.w,auG.A⟩:=by
  refine⟨fun i k l q r=>by show s' k=_;rw[gS i k q];exact r,?_,arr⟩;intro b o h q;refine⟨q,?_⟩;rintro(r|r)
  .refine h (.inl ?_);rw[E.A];exact aub b r
  .rcases img' b r with r|⟨r,_⟩
   .exact h (.inr r)
   .refine h (.inl ?_);rw[E.A];exact r
 have low:∀b,b<auG.w.heap.size->¬auG.da b->X₀.w.heap[b]?=auG.w.heap[b]?:=by intro b hb hi;rw[E.frame b (by rw[hwn];exact hb) (fun q=>hi (Q.da b q)),hwn]
 have lenOld:∀j n,j<hn->rowOf t' j=some n->rowOf auG.h.tr j=some n:=by
  intro j n hj h0;obtain⟨o',h,hr⟩:=mh h0;rcases objF j _ h with⟨a1,_,_⟩|⟨i,o,a1,a2,a3⟩
  .rw[kP a1];exact hr
  .have h4:=arr i j n a1 h0;rcases gmem i j (gI i j a1)with⟨b1,b2,b3⟩|⟨q,_,_,rfl⟩
   .exact Q.R.obj j i n (yU O b1) (E.len i n atO h4)
   .omega
 have RE:jd auG ⟨s',⟨t',hn+l8⟩,X₀.w,auG.A⟩:=by
  refine⟨fun k l h=>(sold k l h).2,?_,fun j l n h q=>lenOld j n (sold j l h).1 q⟩;intro b o h q;have hb:=ka q;refine⟨by show X₀.w.heap[b]?=_;rw[low b hb (fun r=>h (.inr r))];exact q,?_⟩;rintro(r|r)
  .exact h (.inl r)
  .rcases img' b r with r|⟨_,r⟩
   .rcases E.da b r with r|r
    .exact h (.inr (Q.da b r))
    .rw[hwn]at r;omega
   .exact h (.inr r)
 have hsz:auG.w.heap.size<=X₀.w.heap.size:=by have:=E.size;rw[hwn]at this;exact this
 refine⟨⟨s',⟨t',hn+l8⟩,X₀.w,auG.A⟩,rfl,rfl,⟨?_,?_,?_,?_,?_,?_⟩,?_,Rn'⟩
 .intro k o' l h1 h2
  replace h2:s' k=some l:=h2
  rcases objF k o' h1 with⟨a1,a2,a3⟩|⟨i,o,a1,a2,a3⟩
  .simp only[s',IO a3]at h2;refine(aup.obj k o' l a1 h2).ext RE ?_;intro b hb;show X₀.w.heap[b]?=_;rw[E.frame b (by rw[hwn];exact aup.ju a1 h2 hb) (fun q=>((hAn b).1 (other k o' l b a1 a2 h2 hb)).2 q),hwn]
  .rw[gS i k a1]at h2;exact aa6 Rn' rfl a3 (H'.obj i o l a2 h2)
 .intro avt avu avF avG auL auM b h1 h2 h3 h4 f3 f4
  replace h3:s' avt=some auL:=h3
  replace h4:s' avu=some auM:=h4
  rcases objF avt avF h1 with⟨a1,a2,a3⟩|⟨i,o,a1,a2,a3⟩<;>rcases objF avu avG h2 with⟨b1,b2,b3⟩|⟨i',o',b1,b2,b3⟩
  .simp only[s',IO a3]at h3;simp only[s',IO b3]at h4;exact aup.inj avt avu avF avG auL auM b a1 b1 h3 h4 f3 f4
  .simp only[s',IO a3]at h3;rw[gS i' avu b1]at h4;refine absurd (other avt avF auL b a1 a2 h3 f3) ?_;have:=H'.loc i' o' auM b b2 h4 f4;rw[E.A]at this;exact this
  .simp only[s',IO b3]at h4;rw[gS i avt a1]at h3;refine absurd (other avu avG auM b b1 b2 h4 f4) ?_;have:=H'.loc i o auL b a2 h3 f3;rw[E.A]at this;exact this
  .rw[gS i avt a1]at h3;rw[gS i' avu b1]at h4;have:=H'.inj i i' o o' auL auM b a2 b2 h3 h4 f3 f4;subst this;rw[a1]at b1;cases b1;rfl
 .intro k o' h1;show k<hn+l8;rcases objF k o' h1 with⟨_,_,a3⟩|⟨i,o,a1,a2,a3⟩
  .omega
  .exact(OG.lo _ (gI i k a1)).2.2
 .intro k l h1
  replace h1:s' k=some l:=h1
  show k<hn+l8;by_cases q:k<hn
  .omega
  .simp only[s',BT q]at h1;have:=H'.dM _ l h1;omega
 .intro b hb;have:=aup.alt b hb;show b<X₀.w.heap.size;omega
 .intro k o' c b h1 h2 h4 h3
  replace h2:s' k=some c:=h2
  rcases objF k o' h1 with⟨a1,a2,a3⟩|⟨i,o,a1,a2,a3⟩
  .simp only[s',IO a3]at h2;exact aup.loc k o' c b a1 h2 h4 h3
  .rw[gS i k a1]at h2;have:=H'.loc i o c b a2 h2 h4;rw[E.A]at this;exact this (aub b h3)
 .refine⟨by rw[<-hwn];exact E.os,by rw[<-hwn];exact E.tape,by rw[<-hwn];exact E.output,hsz,fun k l h=>(sold k l h).2,?_,by show auG.h.next<=hn+l8;omega,low,?_,?_,?_,rfl⟩
  .intro k l hk' h
   replace h:s' k=some l:=h
   simp only[s',IO (show k<hn by omega)]at h;exact h
  .intro b h;rcases img' b h with r|⟨_,r⟩
   .rcases E.da b r with r|r
    .exact .inl (Q.da b r)
    .rw[hwn]at r;exact .inr r
   .exact .inl r
  .intro j n hj h;exact lenOld j n atO h
  .intro k hk' hs;show t'.get k=_;have hnm:∀i,(k,i)∉m:=fun i hi=>hreal _ hi hs;have hng:∀p∈G,p.2≠k:=by rintro⟨i,k'⟩ hp rfl;exact notG k' hnm atO i (gM i k' hp)
   rw[(AF hc k).1 hng];rcases TG hk k with⟨a,_⟩|⟨_,i,b⟩
   .exact a
   .exact absurd b (hnm i)
theorem akW{P:Program}{f:FuncId}{s:mZ}(hC:jD P f s){vs:List AV}{h h₂ h':Hp}{m:List (Nat×Nat)}{d:TL s.lay.σs}(auQ:Ow s vs h=some (m,h₂,d)){o:Out s.outs}(ho:s.F d=some o){ex:Ex}{st':St}
  (hs:nh s.nr s.outs o=some (ex,st')) {us':List AV}(auR:Oh m h₂ s.lay.nx s.nr st'=some (us',h')):Es P f vs h (sW us') h':=by
 refine⟨hC.1,?_⟩;intro X args hX H hR;subst hX;unfold Ow at auQ;split at auQ<;>try cases auQ
 rename_i T hlen hT;split at auQ<;>try cases auQ
 rename_i avL hfT;split at auQ<;>try cases auQ
 rename_i kn avq hfM;split at auQ<;>try cases auQ
 rename_i m' hm;split at auQ<;>try cases auQ
 rename_i N hall htot hN;split at auQ<;>try cases auQ
 rename_i d' hg;split at auQ<;>try cases auQ
 rename_i avK hp;split at auQ<;>try cases auQ
 rename_i avY avm;have hlen:=cB hlen;rw[N8]at hlen;have hal:args.length=s.np:=by rw[hR.length];exact hlen
 obtain⟨X₁,awf,auv,aue⟩:=ER hfT (AG H hT hR);obtain⟨auG,awg,auw,auf,hk⟩:=abo hfM auv (fun i hi=>atO);have aud:=aue.trans auf;have auW:auG.h=h₂:=auw.h;have avn:auG.w=X.w:=awg.trans awf;have auT:auG.A=X.A:=aud.A;have aup:=auw.H;obtain⟨O,hTN,htN,hnN⟩:=TE hN
 replace htN:qu (fe m) h₂.tr m .nil=some N.h.tr:=htN
 rw[<-auW]at htN;have hreal:∀p∈m,auG.s p.1≠none:=fun p hp'=>hk _ (Zz6 hall p hp');have mlt:∀p∈m,p.1<auG.h.next:=by intro p hp';cases q:auG.s p.1 with|none=>exact absurd q (hreal p hp')|some l=>exact aup.dM _ _ q
 let aua:Nat->Prop:=fun b=>auG.out b/\¬∃i o c,N.h.tr.get i=some o/\iW 0 auG.s m i=some c/\c.own b
 have Q:=Z0 aup (base:=0) (GT _) O htN (A':=aua) (fun b hb=>hb.1) (fun b hb hi=>hb.2 hi);obtain⟨Xn,hXn⟩:∃Xn:Cx,Xn=⟨iW 0 auG.s m,⟨N.h.tr,s.lay.nx⟩,auG.w,aua⟩:=⟨_,rfl⟩;rw[<-hXn]at Q;have hNh:N.h=⟨N.h.tr,s.lay.nx⟩:=by rw[<-hnN]
 have RN:RF Xn s.np N _:=⟨by rw[hXn];exact hNh.symm,⟨auw.T.size,auw.T.defers,fun x v' q=>by obtain⟨v,a1,a2⟩:=Ob hTN x v' q;obtain⟨V,b1,b2⟩:=auw.T.get x v a1;exact⟨V,b1,N2 Q.R a2 b2⟩⟩,Q.H⟩;have hnx:Xn.h.next=s.lay.nx:=by rw[hXn]
 have hrn:Real Xn:=by intro i hi q;obtain⟨j,hj⟩:=Zye htot i atO;rw[Q.s1 j i (yU O hj)]at q;exact hreal _ hj q
 obtain⟨Z,wZ,RZ,EZ⟩:=YW hg hp atO hrn Q.H hnN (bh.refl Xn) RN;have avl:avK.h.next=s.lay.nx:=by
  unfold ai.put at hp;split at hp<;>try cases hp
  split at hp<;>cases hp;rfl
 have hZn:Z.h.next=s.lay.nx:=by rw[RZ.h];exact avl
 have hZr:Real Z:=fun i hi=>hrn.of EZ i atO;have Rv:=TA RZ.T avm hal (fun t ht=>by grind);have hZw:Z.w=X.w:=by rw[wZ,hXn];exact avn
 rw[<-hZw];refine(hC.2 d o ho avK ex st' hp hs Z avY args RZ.h RZ.H hZr avm Rv).mono ?_;rintro e w' ⟨X₀,Vs,rfl,rfl,hh',H',auc,hus⟩;unfold Oh at auR;split at auR<;>try cases auR
 rename_i avT us hkl hvus;split at auR<;>try cases auR
 rename_i t' avZ hcp hru;have E:=EZ.trans auc;rw[<-hh',<-auW]at hcp hru;rw[<-auW]at hkl;obtain⟨X',g1,g2,g3,g4,g5⟩:=aiH aup O Q hnx (by rw[hXn];exact fun b=>Iff.rfl) (by rw[hXn]) hreal H' E hkl hcp;refine⟨X',og Vs,rfl,g1,by rw[g2,auW,<-hh'],g3,?_,ET (tj g5 hru (hus us hvus))⟩;exact aud.trans g4
def Ii{R:Type}:List mZ->List AV->Hp->(Bool->AV->Hp->Option R)->Option R
 |[],_,_,_=>none|s::l,vs,h,k=>match Ow s vs h with
  |some x=>az (s.F x.2.2) fun o=>uP s.nr s.outs o fun _ st'=>match Oh x.1 x.2.1 s.lay.nx s.nr st' with|some y=>k true (sW y.1) y.2|none=>none
  |none=>Ii l vs h k
abbrev OC:=FuncId->List mZ
def aaX(P:Program)(Q:OC):Prop:=∀f,∀s∈Q f,jD P f s
theorem aa4{R:Type}{P:Program}{f:FuncId}{vs:List AV}{h:Hp}{k:Bool->AV->Hp->Option R}{r:R}:∀{l:List mZ},(∀s∈l,jD P f s)->Ii l vs h k=some r ->
  ∃ch v h',k ch v h'=some r/\(ch=false->gd h h')/\Es P f vs h v h'
 |[],_,e=>by cases e
 |s::l,hC,e=>by
  simp only[Ii]at e;split at e
  .rename_i x hx;obtain⟨o,ho,hk⟩:=zg e;obtain⟨ex,st',hs,hk⟩:=N3 hk;split at hk<;>try cases hk
   rename_i y hy;exact⟨true,_,_,hk,fun q=>(by cases q),akW (hC s atQ) hx ho hs hy⟩
  .exact aa4 (fun s' h'=>hC s' (by simp[h'])) e
open Go.Proofs.YtmkbdfidnfmgmaaGreat.Ev (Tr Tr.dp nth fc)
def zR:fD:=(0,0,[],())
def Ew{R:Type}(call:jW R):jW R:=fun f vs h k=>match vs with
 |[]=>call f vs h k|awb::rest=>match awb with
  |.rp b i=>match h.tr.get b with
   |some (.fu L ty)=>match Tr.set FT h.tr b none with
    |some avS=>match Tr.set FT avS h.next (some (.cells [.int .i64 (L.getD i zR).1,.int .i64 (L.getD i zR).2.1,.mp (h.next+1)] ty))with
     |some avT=>match Tr.set FT avT (h.next+1) (some (.map .u64 (.int .u64) (L.getD i zR).2.2.1))with
      |some avU=>call f (.ptr h.next 0::rest) ⟨avU,h.next+2⟩ fun _ v h'=>match h'.tr.get h.next,h'.tr.get (h.next+1)with
       |some (.cells [.int .i64 a,.int .i64 w,.mp j] ty'),some (.map .u64 (.int .u64) M)=>match Nat.beq j (h.next+1),Nat.beq ty' ty with
        |true,true=>match Tr.set FT h'.tr h.next none with
         |some avV=>match Tr.set FT avV (h.next+1) none with
          |some avW=>match Tr.set FT avW b (some (.fu (L.set i (a,w,M,())) ty))with|some avX=>k true v ⟨avX,h'.next⟩|none=>none
          |none=>none
         |none=>none
        |_,_=>none
       |_,_=>none
      |none=>none
     |none=>none
    |none=>none
   |_=>none
  |_=>call f vs h k
theorem iA.get{w:World}{A:Nat->Prop}{ty:TypeId}:∀{m:List (Nat×Nat)}{L:List fD}{i:Nat}{p:Nat×Nat},iA w A ty m L->m[i]?=some p->∃d,L[i]?=some d/\ui w A p d ty
 |[],L,i,p,h,q=>by simp at q|x::m,L,i,p,h,q=>by
  cases L with
  |nil=>exact h.elim|cons d L=>
   cases i with
   |zero=>simp only[Fd,cM]at q;subst q;exact⟨d,rfl,h.1⟩|succ i=>
    obtain⟨d',g1,g2⟩:=iA.get (i:=i) h.2 (by simpa using q)
    grind
theorem iA.cw{w w':World}{A A':Nat->Prop}(K:jF w A w' A'){ty:TypeId}{p:Nat×Nat}{d':fD}(hp':ui w' A' p d' ty):∀{m:List (Nat×Nat)}{L:List fD}{i:Nat},m[i]?=some p->iA w A ty m L ->
  (∀k q,m[k]?=some q->k≠i->w'.heap[q.1]?=w.heap[q.1]?/\w'.heap[q.2]?=w.heap[q.2]?)->iA w' A' ty m (L.set i d')
 |[],L,i,q,h,hs=>by simp at q|x::m,L,i,q,h,hs=>by
  cases L with
  |nil=>exact h.elim|cons d L=>
   cases i with
   |zero=>simp only[Fd,cM]at q;subst q;refine⟨hp',h.2.ext K fun y hy=>?_⟩;obtain⟨k,hk⟩:=Fr hy;exact hs (k+1) y (by grind) atO
   |succ i=>have h0:=hs 0 x rfl atO;exact⟨h.1.ext K h0.1 h0.2,iA.cw K hp' (by grind) h.2 fun k y hk hne=>hs (k+1) y (by grind) atO⟩
theorem Ju{m:List (Nat×Nat)}{k:Nat}{q:Nat×Nat}(h:m[k]?=some q):q.1∈iI m/\q.2∈iI m:=by
 have:=dy h;unfold iI
 grind
theorem aap:∀{m:List (Nat×Nat)}{i k:Nat}{p q:Nat×Nat},(iI m).Nodup->m[i]?=some p->m[k]?=some q->k≠i->q.1≠p.1/\q.1≠p.2/\q.2≠p.1/\q.2≠p.2
 |[],i,k,p,q,_,h,_,_=>by simp at h|x::m,i,k,p,q,hn,h1,h2,hne=>by
  have hn':(x.1::x.2::iI m).Nodup:=hn;obtain⟨n1,n2⟩:=arU.1 hn';obtain⟨n2,n3⟩:=arU.1 n2;have n1':x.1∉iI m:=fun q=>n1 (FS _ q);cases i with
  |zero=>
   cases k with
   |zero=>exact absurd rfl hne|succ k=>
    simp only[Fd,cM]at h1;subst h1;obtain⟨b1,b2⟩:=Ju (m:=m) (by simpa using h2)
    grind
  |succ i=>
   cases k with
   |zero=>
    simp only[Fd,cM]at h2;subst h2;obtain⟨b1,b2⟩:=Ju (m:=m) (by simpa using h1)
    grind
   |succ k=>exact aap n3 (by simpa using h1) (by simpa using h2) atO
theorem Zz4:∀{m:List (Nat×Nat)}{i:Nat}{p:Nat×Nat},(iI m).Nodup->m[i]?=some p->p.1≠p.2
 |[],i,p,_,h=>by simp at h|x::m,i,p,hn,h=>by have hn':(x.1::x.2::iI m).Nodup:=hn;obtain⟨n1,n2⟩:=arU.1 hn';cases i with|zero=>simp only[Fd,cM]at h;grind|succ i=>exact Zz4 (arU.1 n2).2 (by simpa using h)
theorem ajB{X:Cx}(H:aV X){b i x c:Nat}{m:List (Nat×Nat)}{p:Nat×Nat}{L:List fD}{ty:TypeId}(hb:X.h.tr.get b=some (.fu L ty))(hs:X.s b=some (.dE x c m))(hp:m[i]?=some p){avS avT avU:Tr bC}
  (h0:Tr.set FT X.h.tr b none=some avS) (h1:Tr.set FT avS X.h.next (some (.cells [.int .i64 (L.getD i zR).1,.int .i64 (L.getD i zR).2.1,.mp (X.h.next+1)] ty))=some avT) (h2:Tr.set FT avT (X.h.next+1) (some (.map .u64 (.int .u64) (L.getD i zR).2.2.1))=some avU) :
  ∃X₁:Cx,X₁.w=X.w/\X₁.h=⟨avU,X.h.next+2⟩/\(∀q,X₁.A q↔X.A q\/((Loc.dE x c m).own q/\q≠p.1/\q≠p.2))/\X₁.s X.h.next=some (.at p.1 0)/\X₁.s (X.h.next+1)=some (.at p.2 0)/\(∀j,j<X.h.next->X₁.s j=X.s j) /\
   aV X₁/\jd X X₁/\(∀q,X₁.da q->X.da q)/\(∀j o,j<X.h.next->X₁.h.tr.get j=some o->X.h.tr.get j=some o/\j≠b)/\(∀j,j<X.h.next->j≠b->X₁.h.tr.get j=X.h.tr.get j) /\
   (∀q,(Loc.dE x c m).own q->q≠p.1->q≠p.2->¬X₁.da q):=by
 have g0:=Tr.dp _ _ _ _ _ h0;have g1:=Tr.dp _ _ _ _ _ h1;have g2:=Tr.dp _ _ _ _ _ h2;have hbn:=H.lt b _ hb;obtain⟨tail,ty',r1,r2,r3,r4⟩:=H.obj b _ _ hb hs;obtain⟨n1,n2⟩:=arU.1 r4;obtain⟨d,hd,s1,es,clk,s2,s3⟩:=r3.get hp;have hD:L.getD i zR=d:=by rw[eu,hd];rfl
 have hpp:=Zz4 n2 hp;have own1:(Loc.dE x c m).own p.1:=.inr ⟨p,dy hp,.inl rfl⟩;have own2:(Loc.dE x c m).own p.2:=.inr ⟨p,dy hp,.inr rfl⟩
 let s':Sg:=cw (cw X.s X.h.next (.at p.1 0)) (X.h.next+1) (.at p.2 0)
 have sn:s' X.h.next=some (.at p.1 0):=by show cw _ _ _ _=_;rw[eJ _ _ _ atO,fU]
 have sn1:s' (X.h.next+1)=some (.at p.2 0):=fU _ _ _;have sl:∀j,j<X.h.next->s' j=X.s j:=fun j hj=>by show cw _ _ _ _=_;rw[eJ _ _ _ atO,eJ _ _ _ atO]
 have alt:∀j o,avU.get j=some o->(j=X.h.next/\o=.cells [.int .i64 d.1,.int .i64 d.2.1,.mp (X.h.next+1)] ty)\/(j=X.h.next+1/\o=.map .u64 (.int .u64) d.2.2.1)\/(X.h.tr.get j=some o/\j≠b/\j<X.h.next):=by
  intro j o hj;rw[g2 j]at hj;by_cases q:j=X.h.next+1
  .rw[IO q,hD]at hj;exact .inr (.inl ⟨q,by simpa using hj.symm⟩)
  .rw[BT q,g1 j]at hj;by_cases q':j=X.h.next
   .rw[IO q',hD]at hj;exact .inl ⟨q',by simpa using hj.symm⟩
   .rw[BT q',g0 j]at hj;by_cases q'':j=b
    .rw[IO q'']at hj;cases hj
    .rw[BT q'']at hj;exact .inr (.inr ⟨hj,q'',H.lt j o hj⟩)
 let A':Nat->Prop:=fun q=>X.A q\/((Loc.dE x c m).own q/\q≠p.1/\q≠p.2)
 have da:∀q,Cx.da ⟨s',⟨avU,X.h.next+2⟩,X.w,A'⟩ q->X.da q/\((Loc.dE x c m).own q->q=p.1\/q=p.2):=by
  rintro q ⟨j,o,l,e1,e2,e3⟩
  replace e1:avU.get j=some o:=e1
  replace e2:s' j=some l:=e2
  rcases alt j o e1 with⟨rfl,rfl⟩|⟨rfl,rfl⟩|⟨f1,f2,f3⟩
  .rw[sn]at e2;cases e2;cases e3;exact⟨⟨b,_,_,hb,hs,own1⟩,fun _=>.inl rfl⟩
  .rw[sn1]at e2;cases e2;cases e3;exact⟨⟨b,_,_,hb,hs,own2⟩,fun _=>.inr rfl⟩
  .rw[sl j f3]at e2;exact⟨⟨j,o,l,f1,e2,e3⟩,fun hq=>absurd (H.inj j b o _ l _ q f1 hb e2 hs e3 hq) f2⟩
 have E:jd X ⟨s',⟨avU,X.h.next+2⟩,X.w,A'⟩:=by
  refine⟨fun j l h=>by show s' j=_;rw[sl j (H.dM j l h)];exact h,?_,?_⟩
  .intro q o hq e;refine⟨e,?_⟩;rintro((r|⟨r,_⟩)|r)
   .exact hq (.inl r)
   .exact hq (.inr ⟨b,_,_,hb,hs,r⟩)
   .exact hq (.inr (da q r).1)
  .intro j l n h1' q;obtain⟨o',q,hr⟩:=mh q;rcases alt j _ q with⟨_,q⟩|⟨_,q⟩|⟨f1,_⟩
   .subst q;cases hr
   .subst q;cases hr
   .show rowOf X.h.tr j=some n;rw[kP f1];exact hr
 refine⟨⟨s',⟨avU,X.h.next+2⟩,X.w,A'⟩,rfl,rfl,fun q=>Iff.rfl,sn,sn1,sl,⟨?_,?_,?_,?_,?_,?_⟩,E,fun q h=>(da q h).1,?_,?_,?_⟩
 .intro j o l e1 e2
  replace e1:avU.get j=some o:=e1
  replace e2:s' j=some l:=e2
  rcases alt j o e1 with⟨rfl,rfl⟩|⟨rfl,rfl⟩|⟨f1,f2,f3⟩
  .rw[sn]at e2;cases e2;exact⟨p.1,0,[.int .i64 d.1,.int .i64 d.2.1,.map (some p.2)],rfl,s1,_,_,rfl,rfl,_,_,rfl,rfl,_,_,rfl,⟨p.2,0,sn1,rfl⟩,rfl⟩
  .rw[sn1]at e2;cases e2;exact⟨p.2,0,es,clk,rfl,s2,s3.bn E.K⟩
  .rw[sl j f3]at e2;exact(H.obj j o l f1 e2).ext E (fun _ _=>rfl)
 .intro j k o o' l l' q e1 e2 e3 e4 e5 e6
  replace e1:avU.get j=some o:=e1
  replace e2:avU.get k=some o':=e2
  replace e3:s' j=some l:=e3
  replace e4:s' k=some l':=e4
  rcases alt j o e1 with⟨rfl,rfl⟩|⟨rfl,rfl⟩|⟨f1,f2,f3⟩<;>rcases alt k o' e2 with⟨rfl,rfl⟩|⟨rfl,rfl⟩|⟨k1,k2,k3⟩
  .rfl
  .rw[sn]at e3;rw[sn1]at e4;cases e3;cases e4;cases e5;exact absurd e6 hpp
  .rw[sn]at e3;cases e3;cases e5;rw[sl k k3]at e4;exact absurd (H.inj k b o' _ l' _ _ k1 hb e4 hs e6 own1) k2
  .rw[sn1]at e3;rw[sn]at e4;cases e3;cases e4;cases e6;exact absurd e5 hpp
  .rfl
  .rw[sn1]at e3;cases e3;cases e5;rw[sl k k3]at e4;exact absurd (H.inj k b o' _ l' _ _ k1 hb e4 hs e6 own2) k2
  .rw[sn]at e4;cases e4;cases e6;rw[sl j f3]at e3;exact absurd (H.inj j b o _ l _ _ f1 hb e3 hs e5 own1) f2
  .rw[sn1]at e4;cases e4;cases e6;rw[sl j f3]at e3;exact absurd (H.inj j b o _ l _ _ f1 hb e3 hs e5 own2) f2
  .rw[sl j f3]at e3;rw[sl k k3]at e4;exact H.inj j k o o' l l' q f1 k1 e3 e4 e5 e6
 .intro j o e1;rcases alt j o e1 with⟨rfl,_⟩|⟨rfl,_⟩|⟨_,_,f3⟩
  .show X.h.next<X.h.next+2;omega
  .show X.h.next+1<X.h.next+2;omega
  .show j<X.h.next+2;omega
 .intro j l e;show j<X.h.next+2;by_cases q:j<X.h.next
  .omega
  .replace e:s' j=some l:=e
   by_cases q1:j=X.h.next
   .omega
   .by_cases q2:j=X.h.next+1
    .omega
    .have:s' j=X.s j:=by show cw _ _ _ _=_;rw[eJ _ _ _ q2,eJ _ _ _ q1]
     rw[this]at e;have:=H.dM j l e;omega
 .rintro q (r|⟨r,_⟩)
  .exact H.alt q r
  .exact H.ju hb hs r
 .intro j o l q e1 e2 e3
  replace e1:avU.get j=some o:=e1
  replace e2:s' j=some l:=e2
  rcases alt j o e1 with⟨rfl,rfl⟩|⟨rfl,rfl⟩|⟨f1,f2,f3⟩
  .rw[sn]at e2;cases e2;cases e3;rintro(r|⟨_,r,_⟩)
   .exact H.loc b _ _ _ hb hs own1 r
   .exact r rfl
  .rw[sn1]at e2;cases e2;cases e3;rintro(r|⟨_,_,r⟩)
   .exact H.loc b _ _ _ hb hs own2 r
   .exact r rfl
  .rw[sl j f3]at e2;rintro(r|⟨r,_⟩)
   .exact H.loc j o l q f1 e2 e3 r
   .exact f2 (H.inj j b o _ l _ q f1 hb e2 hs e3 r)
 .intro j o hj e;rcases alt j o e with⟨rfl,_⟩|⟨rfl,_⟩|⟨f1,f2,_⟩
  .omega
  .omega
  .exact⟨f1,f2⟩
 .intro j hj hjb;show avU.get j=_;rw[g2 j,BT atO,g1 j,BT atO,g0 j,BT hjb]
 .intro q hq a1 a2 hi;rcases(da q hi).2 hq with r|r
  .exact a1 r
  .exact a2 r
theorem aaU{R:Type}{P:Program}{call:jW R}(hc:mg P call):mg P (Ew call):=by
 intro f vs h k r e;unfold Ew at e;split at e
 .exact hc _ _ _ _ _ e
 rename_i awb rest;split at e
 case h_2=>exact hc _ _ _ _ _ e
 rename_i b i;split at e<;>try cases e
 rename_i L ty hb;split at e<;>try cases e
 rename_i avS h0;split at e<;>try cases e
 rename_i avT h1;split at e<;>try cases e
 rename_i avU h2;obtain⟨ch,v,h',hk,_,hfn,hcall⟩:=hc _ _ _ _ _ e;split at hk<;>try cases hk
 rename_i a w j avR M hn hn1;split at hk<;>try cases hk
 rename_i hj hty;have hj:=cB hj;have hty:=cB hty;subst hj;subst hty;split at hk<;>try cases hk
 rename_i avV h3;split at hk<;>try cases hk
 rename_i avW h4;split at hk<;>try cases hk
 rename_i avX h5;refine⟨true,v,⟨avX,h'.next⟩,hk,(fun q=>by cases q),hfn,?_⟩;intro X args hX H hR;subst hX;obtain⟨auE,rs,rfl,⟨x,c,m,p,hs,hp,rfl⟩,hRr⟩:=hR;obtain⟨X₁,w1,hh1,hA1,sn,sn1,sl,auo,aue,img1,tr1,tr1',off1⟩:=ajB H hb hs hp h0 h1 h2;refine(w1▸hcall X₁ (.pointer (some ⟨p.1,0,none⟩)::rs) hh1 auo ⟨_,_,rfl,⟨p.1,0,sn,rfl⟩,hRr.ext aue⟩:Calls P f _ X.w _).mono ?_;rintro e' w' ⟨auG,V,rfl,rfl,hh2,aup,auf,hv⟩;subst hh2;obtain⟨tail,ty',r1,r2,r3,r4⟩:=H.obj b _ _ hb hs;obtain⟨n1,n2⟩:=arU.1 r4;have hbn:=H.lt b _ hb;have own1:(Loc.dE x c m).own p.1:=.inr ⟨p,dy hp,.inl rfl⟩;have own2:(Loc.dE x c m).own p.2:=.inr ⟨p,dy hp,.inr rfl⟩;have s2b:auG.s b=some (.dE x c m):=auf.sg _ _ (by rw[sl b hbn];exact hs);have s2n:=auf.sg _ _ sn;have s2n1:=auf.sg _ _ sn1;have g3:=Tr.dp _ _ _ _ _ h3;have g4:=Tr.dp _ _ _ _ _ h4;have g5:=Tr.dp _ _ _ _ _ h5;have alt:∀j o,avX.get j=some o->(j=b/\o=.fu (L.set i (a,w,M,())) avR)\/(auG.h.tr.get j=some o/\j≠b/\j≠X.h.next/\j≠X.h.next+1):=by
  intro j o hj;rw[g5 j]at hj;by_cases q:j=b
  .rw[IO q]at hj;exact .inl ⟨q,by simpa using hj.symm⟩
  .rw[BT q,g4 j]at hj;by_cases q':j=X.h.next+1
   .rw[IO q']at hj;cases hj
   .rw[BT q',g3 j]at hj;by_cases q'':j=X.h.next
    .rw[IO q'']at hj;cases hj
    .rw[BT q'']at hj;exact .inr ⟨hj,q,q'',q'⟩
 have hA2:auG.A=X₁.A:=auf.A;have alone:∀j o l q,auG.h.tr.get j=some o->j≠X.h.next->j≠X.h.next+1->auG.s j=some l->l.own q->¬(Loc.dE x c m).own q:=by
  intro j o l q e1 e2 e3 e4 e5 e6;by_cases q1:q=p.1
  .subst q1;exact e2 (aup.inj j _ o _ l _ _ e1 hn e4 s2n e5 rfl)
  .by_cases q2:q=p.2
   .subst q2;exact e3 (aup.inj j _ o _ l _ _ e1 hn1 e4 s2n1 e5 rfl)
   .exact aup.loc j o l q e1 e4 e5 (by rw[hA2];exact(hA1 q).2 (.inr ⟨e6,q1,q2⟩))
 have img3:∀q,Cx.da ⟨auG.s,⟨avX,auG.h.next⟩,auG.w,X.A⟩ q->(Loc.dE x c m).own q\/auG.da q:=by
  rintro q ⟨j,o,l,e1,e2,e3⟩
  replace e1:avX.get j=some o:=e1
  replace e2:auG.s j=some l:=e2
  rcases alt j o e1 with⟨rfl,rfl⟩|⟨f1,_⟩
  .rw[s2b]at e2;cases e2;exact .inl e3
  .exact .inr ⟨j,o,l,f1,e2,e3⟩
 have inOut:∀q,(Loc.dE x c m).own q->auG.out q:=by
  intro q hq;by_cases q1:q=p.1
  .subst q1;exact .inr ⟨_,_,_,hn,s2n,rfl⟩
  .by_cases q2:q=p.2
   .subst q2;exact .inr ⟨_,_,_,hn1,s2n1,rfl⟩
   .exact .inl (by rw[hA2];exact(hA1 q).2 (.inr ⟨hq,q1,q2⟩))
 have aug:jd auG ⟨auG.s,⟨avX,auG.h.next⟩,auG.w,X.A⟩:=by
  refine⟨fun _ _ h=>h,?_,?_⟩
  .intro q o hq e;refine⟨e,?_⟩;rintro(r|r)
   .exact hq (.inl (by rw[hA2];exact(hA1 q).2 (.inl r)))
   .rcases img3 q r with r|r
    .exact hq (inOut q r)
    .exact hq (.inr r)
  .intro j l n _ q;obtain⟨o',q,hr⟩:=mh q;rcases alt j _ q with⟨_,q⟩|⟨f1,_⟩
   .subst q;cases hr
   .show rowOf auG.h.tr j=some n;rw[kP f1];exact hr
 have size:∀q,X.da q->q<X.w.heap.size:=fun q hq=>H.so hq;have still:∀q,(Loc.dE x c m).own q->q≠p.1->q≠p.2->auG.w.heap[q]?=X.w.heap[q]?:=by intro q hq a1 a2;have:=auf.frame q (by rw[w1];exact H.ju hb hs hq) (off1 q hq a1 a2);rw[this,w1]
 have auq:aV ⟨auG.s,⟨avX,auG.h.next⟩,auG.w,X.A⟩:=by
  refine⟨?_,?_,?_,aup.dM,fun q hq=>aup.alt q (by rw[hA2];exact(hA1 q).2 (.inl hq)),?_⟩
  .intro j o l e1 e2
   replace e1:avX.get j=some o:=e1
   replace e2:auG.s j=some l:=e2
   rcases alt j o e1 with⟨rfl,rfl⟩|⟨f1,_⟩
   .rw[s2b]at e2;cases e2;obtain⟨y,c',cs,k1,k2,k3⟩:=aup.obj _ _ _ hn s2n;cases k1;obtain⟨y',c'',es,clk,k4,k5,k6⟩:=aup.obj _ _ _ hn1 s2n1;cases k4;obtain⟨u1,t1,rfl,rfl,u2,t2,rfl,rfl,u3,t3,rfl,⟨y3,c3,z1,rfl⟩,t4⟩:=k3;have:t3=[]:=t4;subst this;rw[s2n1]at z1;cases z1;refine⟨tail,ty',?_,r2,?_,r4⟩
    .show auG.w.heap[x]?=_;rw[still x (.inl rfl) (fun e=>n1 (e▸(Ju hp).1)) (fun e=>n1 (e▸(Ju hp).2))];exact r1
    .have hK:jF X.w X.out auG.w (Cx.out ⟨auG.s,⟨avX,auG.h.next⟩,auG.w,X.A⟩):=by have K2:jF X₁.w X₁.out auG.w auG.out:=auf.keeps;exact(aue.K.trans K2).trans aug.K
     refine iA.cw hK ⟨k2,es,clk,k5,k6.bn aug.K⟩ hp r3 ?_;intro k q hk hne;obtain⟨a1,a2,a3,a4⟩:=aap n2 hp hk hne;have hm:=dy hk;exact⟨still q.1 (.inr ⟨q,hm,.inl rfl⟩) a1 a2,still q.2 (.inr ⟨q,hm,.inr rfl⟩) a3 a4⟩
   .exact(aup.obj j o l f1 e2).ext aug (fun _ _=>rfl)
  .intro j k o o' l l' q e1 e2 e3 e4 e5 e6
   replace e1:avX.get j=some o:=e1
   replace e2:avX.get k=some o':=e2
   replace e3:auG.s j=some l:=e3
   replace e4:auG.s k=some l':=e4
   rcases alt j o e1 with⟨rfl,rfl⟩|⟨f1,f2,f3,f4⟩<;>rcases alt k o' e2 with⟨rfl,rfl⟩|⟨k1,k2,k3,k4⟩
   .rfl
   .rw[s2b]at e3;cases e3;exact absurd e5 (alone k o' l' q k1 k3 k4 e4 e6)
   .rw[s2b]at e4;cases e4;exact absurd e6 (alone j o l q f1 f3 f4 e3 e5)
   .exact aup.inj j k o o' l l' q f1 k1 e3 e4 e5 e6
  .intro j o e1;rcases alt j o e1 with⟨rfl,rfl⟩|⟨f1,_⟩
   .show j<auG.h.next;have:=auf.next;rw[hh1]at this;have:X.h.next+2<=auG.h.next:=this;omega
   .exact aup.lt j o f1
  .intro j o l q e1 e2 e3
   replace e1:avX.get j=some o:=e1
   replace e2:auG.s j=some l:=e2
   rcases alt j o e1 with⟨rfl,rfl⟩|⟨f1,_⟩
   .rw[s2b]at e2;cases e2;exact H.loc j _ _ q hb hs e3
   .intro r;exact aup.loc j o l q f1 e2 e3 (by rw[hA2];exact(hA1 q).2 (.inl r))
 have nxt:X.h.next+2<=auG.h.next:=by have:=auf.next;rw[hh1]at this;exact this
 refine⟨⟨auG.s,⟨avX,auG.h.next⟩,auG.w,X.A⟩,V,rfl,rfl,rfl,auq,?_,hv.ext aug⟩;refine⟨by rw[<-w1];exact auf.os,by rw[<-w1];exact auf.tape,by rw[<-w1];exact auf.output,by rw[<-w1];exact auf.size,?_,?_,by show X.h.next<=auG.h.next;omega,?_,?_,?_,?_,rfl⟩
 .intro j l hj;exact auf.sg j l (by rw[sl j (H.dM j l hj)];exact hj)
 .intro j l hj e;have:=auf.dM j l (by rw[hh1];show j<X.h.next+2;omega) e;rw[sl j hj]at this;exact this
 .intro q hq hn';have:=auf.frame q (by rw[w1];exact hq) (fun r=>hn' (img1 q r));show auG.w.heap[q]?=_;rw[this,w1]
 .intro q hq;rcases img3 q hq with r|r
  .exact .inl ⟨b,_,_,hb,hs,r⟩
  .rcases auf.da q r with r|r
   .exact .inl (img1 q r)
   .exact .inr (by rw[<-w1];exact r)
 .intro j n hj q;obtain⟨o',q,hr⟩:=mh q;rcases alt j _ q with⟨_,q⟩|⟨f1,_⟩
  .subst q;cases hr
  .have:=auf.len j n (by rw[hh1];show j<X.h.next+2;omega) (by rw[kP f1];exact hr);obtain⟨avF,q1,q2⟩:=mh this;show rowOf X.h.tr j=some n;rw[kP (tr1 j _ hj q1).1];exact q2
 .intro j hj hsj;have hjb:j≠b:=by rintro rfl;rw[hs]at hsj;cases hsj
  show avX.get j=_;rw[g5 j,BT hjb,g4 j,BT atO,g3 j,BT atO,auf.same j (by rw[hh1];show j<X.h.next+2;omega) (by rw[sl j hj];exact hsj)];exact tr1' j hj hjb
structure Kn where
 S:yF
 Q:OC
structure pU(P:Program)(K:Kn):Prop where
 S:Oc P K.S
 Q:aaX P K.Q
def Eu{R:Type}(K:Kn):jW R:=fun f vs h k=>match K.S f with|some _=>NG K.S f vs h k|none=>Ii (K.Q f) vs h k
theorem aaV{R:Type}{P:Program}{K:Kn}(hK:pU P K):mg P (Eu (R:=R) K):=by
 intro f vs h k r e;unfold Eu at e;split at e
 .exact ajr hK.S f vs h k r e
 .exact aa4 (hK.Q f) e
def known(K:Kn)(f:FuncId):Bool:=match K.S f with|some _=>true|none=>match K.Q f with|[]=>false|_=>true
abbrev Env:=FuncId->Option Func
def rW(P:Program)(E:Env):Prop:=∀f e,E f=some e->P.funcs[f]?=some e/\(e.name == "runtime.NumGoroutine")=false
def N4{R:Type}(p:FuncId->Bool)(a b:jW R):jW R:=fun f vs h k=>match p f with|true=>a f vs h k|false=>b f vs h k
theorem anf{R:Type}{P:Program}{p:FuncId->Bool}{a b:jW R}(ha:mg P a)(hb:mg P b):mg P (N4 p a b):=by
 intro f vs h k r e;unfold N4 at e;split at e
 .exact ha f vs h k r e
 .exact hb f vs h k r e
section
variable{R:Type}(P:Program)(sh:TypeId->Option Sh)(S:Kn)(E:Env)
def vZ:Nat->jW R
 |0=>Ew (Eu S)|d+1=>Ew (N4 (known S) (Eu S) fun f vs h k=>match E f with
  |some e=>match e.body with
   |some c=>match nc e.ntmps vs 0 .nil with
    |some T=>runK P sh (vZ d) (fun _ _ _=>none) e.ntmps c ⟨T,h⟩ fun x st=>match x with|.exit _=>none|_=>match pg P st e.results.toList with|some rs=>k true (sW rs) st.h|none=>none
    |none=>none
   |none=>none
  |none=>none)
end
theorem AQ{R:Type}{P:Program}(hm:P.follows .mixedOrders=true){sh:TypeId->Option Sh}{S:Kn}(hS:pU P S){E:Env}(hE:rW P E):∀d,mg P (vZ (R:=R) P sh S E d)
 |0=>aaU (aaV hS)|d+1=>by
  refine aaU (anf (aaV hS) ?_);intro f vs h k r e;dsimp only at e;split at e<;>try cases e
  rename_i en hen;obtain⟨hf,hname⟩:=hE f en hen;split at e<;>try cases e
  rename_i c hb;split at e<;>try cases e
  rename_i T hT;obtain⟨x,st,hk,Tk⟩:=AZ (G:=fun _=>True) hm (AQ hm hS hE d) (base:=h.next) c (fun x _ st k r q=>by cases q) _ _ r e;have main:(match pg P st en.results.toList with
      |some rs=>k true (sW rs) st.h|none=>none)=some r->(∀i,x≠.exit i)->∃ch v h',k ch v h'=some r/\(ch=false->gd h h')/\Es P f vs h v h':=by
   intro hk hx;split at hk<;>try cases hk
   rename_i rs hrs;refine⟨true,_,st.h,hk,(fun q=>by cases q),⟨en,c,hf,hname,hb⟩,?_⟩;intro X args hX H hR;subst hX;refine calls_of_wp hf hb ?_;refine Tk X X _ ⟨rfl,trivial⟩ H (bh.refl X) (AG H hT hR) _ ?_;intro X' a' R' E';obtain⟨Vs,g1,g2⟩:=Tn R' hrs;have fin:a'.defers=[]/\∃V,(results en a'.tmps).run P X'.w=.ok V X'.w/\∃X'' V',Ending.returned V=.returned V'/\X''.w=X'.w/\X''.h=st.h/\aV X''/\bh X X''/\Rel X'' (sW rs) V':=⟨R'.T.defers,_,g1,X',_,rfl,rfl,R'.h,R'.H,E',ET g2⟩;cases x with|exit i=>exact absurd rfl (hx i)|normal=>exact fin|ret=>exact fin
  grind
def uS{τs:List Sh}(P:Program)(sh:TypeId->Option Sh)(S:Kn)(E:Env)(dep:Nat)(loops:mY (TL τs))(e:Func)(c:Code)(σs:List Sh)(d:TL σs):Option (TL τs):=match nc e.ntmps (A5 σs d) 0 .nil with
 |some T=>runK P sh (vZ P sh S E dep) loops e.ntmps c ⟨T,⟨.nil,0⟩⟩ fun x st=>match x with
  |.exit _=>none|_=>match pg P st e.results.toList with
   |some rs=>match od true st.h τs rs with|some (x,_)=>some x|none=>none
   |none=>none
 |none=>none
variable{τs:List Sh}{σs:List Sh}{F:TL σs->Option (TL τs)}{f:FuncId}{e:Func}{loops:mY (TL τs)}{c:Code}
theorem amQ{P:Program}(hm:P.follows .mixedOrders=true){sh:TypeId->Option Sh}{S:Kn}(hS:pU P S){E:Env}(hE:rW P E){dep:Nat}(hl:∀x∈fV c,nC P Real 0 e.ntmps x (loops (kX x)))
  (hf:P.funcs[f]?=some e) (hname:(e.name == "runtime.NumGoroutine")=false) (hb:e.body=some c) 
  (h:∀d x,F d=some x->uS P sh S E dep loops e c σs d=some x):Comes P f σs τs F:=by
 refine⟨⟨e,c,hf,hname,hb⟩,?_⟩;intro d x hx w A args hA ha;have hr:=h d x hx;unfold uS at hr;split at hr<;>try cases hr
 rename_i T hT;obtain⟨y,st,hk,Tk⟩:=AZ (G:=Real) hm (AQ hm hS hE dep) (base:=0) c hl _ _ _ hr
 let X:Cx:=⟨fun _=>none,⟨.nil,0⟩,w,A⟩
 have out:∀b,X.out b->A b:=by
  rintro b (q|⟨i,o,c,h1,h2⟩)
  .exact q
  .simp[X,Tr.get]at h1
 have H:aV X:=⟨fun i o l h=>by grind,fun i j o o' b c c' h=>by simp[X,Tr.get]at h,fun i o h=>by simp[X,Tr.get]at h,fun i l h=>by simp[X]at h,hA,fun i o b c h=>by grind⟩;have ha':mG X.w X.out σs d args:=ha.bn (fun b o q r=>⟨r,fun s=>q (out b s)⟩);refine calls_of_wp hf hb ?_;refine Tk X X _ ⟨rfl,fun i hi=>absurd hi (arL i)⟩ H (bh.refl X) (AG H hT (AK ha')) _ ?_;intro X' a' R' E';have main:(match pg P st e.results.toList with
   |some rs=>match od true st.h τs rs with|some (x,_)=>some x|none=>none
   |none=>none)=some x->a'.defers=[]/\∃V,(results e a'.tmps).run P X'.w=.ok V X'.w/\∃vs,Ending.returned V=.returned (og vs)/\Below w.heap.size w X'.w/\mG X'.w A τs x vs:=by
  intro hk;split at hk<;>try cases hk
  rename_i rs hrs;split at hk<;>cases hk;rename_i h' hfz;obtain⟨Vs,g1,g2⟩:=Tn R' hrs;have hX:=R'.h;rw[<-hX]at hfz;obtain⟨Fz,hA'⟩:=yS R'.H hfz g2;refine⟨R'.T.defers,_,g1,Vs,rfl,⟨E'.os,E'.tape,E'.output,E'.size,fun b hb=>E'.frame b hb ?_⟩,?_⟩
  .rintro⟨i,o,c,h1,h2⟩;simp[X,Tr.get]at h1
  .refine hA'.bn (fun b o q r=>⟨r,fun s=>q (.inl ?_)⟩);show X'.A b;rw[E'.A];exact s
 cases y with
 |exit i=>simp only[]at hk;cases hk
 |normal=>exact main hk|ret=>exact main hk
def zQ{outs:List (Ex×ai)}(P:Program)(sh:TypeId->Option Sh)(S:Kn)(E:Env)(dep:Nat)(loops:mY (Out outs))(e:Func)(c:Code)(np nr:Nat)(lay:ai)(d:TL lay.σs):Option (Out outs):=match lay.put np d with
 |some st=>match oQ st.T np 0 with
  |some vs=>match nc e.ntmps vs 0 .nil with
   |some T=>runK P sh (vZ P sh S E dep) loops e.ntmps c ⟨T,st.h⟩ fun x st=>match x with
    |.exit _=>none|_=>match pg P st e.results.toList with
     |some rs=>match Nat.beq (wJ rs) nr,nc nr rs 0 .nil with|true,some T=>qP lay.nx nr outs .ret ⟨T,st.h⟩|_,_=>none
     |none=>none
   |none=>none
  |none=>none
 |none=>none
variable{s:mZ}
theorem amx{P:Program}(hm:P.follows .mixedOrders=true){sh:TypeId->Option Sh}{S:Kn}(hS:pU P S){E:Env}(hE:rW P E){dep:Nat}{loops:mY (Out s.outs)}(hl:∀x∈fV c,nC P Real s.lay.nx e.ntmps x (loops (kX x)))
  (hf:P.funcs[f]?=some e) (hname:(e.name == "runtime.NumGoroutine")=false) (hb:e.body=some c)
  (h:∀d o,s.F d=some o->zQ P sh S E dep loops e c s.np s.nr s.lay d=some o):jD P f s:=by
 refine⟨⟨e,c,hf,hname,hb⟩,?_⟩;intro d o ho st ex st' hp hs X vs args hX H hr hv hR;have hrun:=h d o ho;unfold zQ at hrun;rw[hp]at hrun;dsimp only at hrun;rw[hv]at hrun;dsimp only at hrun;split at hrun<;>try cases hrun
 rename_i T hT;have hn:st.h.next=s.lay.nx:=by
  unfold ai.put at hp
  grind
 rw[<-hX]at hrun;obtain⟨y,avM,hk,Tk⟩:=AZ (G:=Real) hm (AQ hm hS hE dep) (base:=s.lay.nx) c hl _ _ _ hrun;refine calls_of_wp hf hb ?_;refine Tk X X _ ⟨by grind,hr⟩ H (bh.refl X) (AG H hT hR) _ ?_;intro X' a' R' E';have main:(match pg P avM e.results.toList with
   |some rs=>match Nat.beq (wJ rs) s.nr,nc s.nr rs 0 .nil with|true,some T=>qP s.lay.nx s.nr s.outs .ret ⟨T,avM.h⟩|_,_=>none
   |none=>none)=some o->a'.defers=[]/\∃V,(results e a'.tmps).run P X'.w=.ok V X'.w/\∃X'' Vs,Ending.returned V=.returned (og Vs)/\X''.w=X'.w/\X''.h=st'.h/\aV X''/\bh X X''/\∀us,oQ st'.T s.nr 0=some us->bT X'' us Vs:=by
  intro hk;split at hk<;>try cases hk
  rename_i rs hrs;split at hk<;>try cases hk
  rename_i auD hlen auV;have hlen:=cB hlen;rw[N8]at hlen;obtain⟨Vs,g1,g2⟩:=Tn R' hrs;have hVl:Vs.length=s.nr:=by rw[g2.length];exact hlen
  have auw:=AG R'.H auV g2;rw[R'.h]at auw;obtain⟨X'',w'',auy,aug⟩:=(TS hk hs).2 ⟨by grind,hr⟩ H E' auw;refine⟨R'.T.defers,_,g1,X'',Vs,rfl,w'',auy.h,auy.H,aug,fun us hus=>TA auy.T hus hVl (fun t ht=>?_)⟩
  grind
 cases y with
 |exit i=>simp only[]at hk;cases hk
 |normal=>exact main hk|ret=>exact main hk
structure Zm where
 lay:ai
 own:List (Tmp×Sh×TypeId)
 outs:List (Ex×ai)
 L:be lay outs
def yP{R:Type}(base n:Nat)(s:Zm)(st:St)(k:Ex->St->Option R):Option R:=match enter base n s.lay s.own st with|some d=>az (s.L d) fun o=>uP n s.outs o k|none=>none
def zP(P:Program)(sh:TypeId->Option Sh)(S:Kn)(E:Env)(dep base n:Nat)(lay:ai)(outs:List (Ex×ai))(loops:mY (TL lay.σs⊕Out outs))(x:Code)(d:TL lay.σs):am lay outs:=match lay.put n d with
 |some st=>runK P sh (vZ P sh S E dep) loops n x st fun e st=>match e with
  |.normal=>match enter base n lay [] st with|some d=>atY d|none=>none
  |.exit i=>match qP base n outs (.exit i) st with|some o=>atZ o|none=>none
  |.ret=>match qP base n outs .ret st with|some o=>atZ o|none=>none
 |none=>none
def bp{D O:Type}(B:D->Option (D⊕O)):Nat->D->Option O
 |0,_=>none|m+1,d=>match B d with
  |some r=>match r with|.inl d=>bp B m d|.inr o=>some o
  |none=>none
variable{base:Nat}{x:Code}
theorem Zby{R:Type}{P:Program}(hm:P.follows .mixedOrders=true){sh:TypeId->Option Sh}{S:Kn}(hS:pU P S){E:Env}(hE:rW P E){dep n:Nat}{s:Zm}{loops:mY (TL s.lay.σs⊕Out s.outs)}
  (hl:∀y∈fV x,nC P Real base n y (loops (kX y))) (h:∀d o,s.L d=some o->∃m,bp (zP P sh S E dep base n s.lay s.outs loops x) m d=some o):nC P Real base n x (yP (R:=R) base n s):=by
 intro st k r e;unfold yP at e;split at e<;>try cases e
 rename_i d hd;obtain⟨o,ho,hk⟩:=zg e;obtain⟨ex,st',hs,hk⟩:=N3 hk;obtain⟨m,hmm⟩:=h d o ho;have key:∀m d,bp (zP P sh S E dep base n s.lay s.outs loops x) m d=some o->∃st,s.lay.put n d=some st/\∀X₀ X a,(X₀.h.next=base/\Real X₀)->aV X₀->bh X₀ X->RF X n st a->∀Q:Exit->Act->World->Prop,
   (∀X' a',RF X' n st' a'->bh X₀ X'->Q ex.to a' X'.w)->Code.rounds P x Q m a X.w:=by
  intro m
  induction m with
  |zero=>intro d e;cases e
  |succ m ih=>
   intro d e;simp only[bp]at e;split at e<;>try cases e
   rename_i rr hB;unfold zP at hB;split at hB<;>try cases hB
   rename_i avL hp;refine⟨avL,hp,?_⟩;obtain⟨auR,avM,avg,Tk⟩:=AZ (G:=Real) hm (AQ hm hS hE dep) (base:=base) x hl _ _ _ hB;intro X₀ X a hb aun hE RR Q hQ;rw[rounds_succ];refine Tk X₀ X a hb aun hE RR _ ?_;intro X' a' R' E';have out:∀i o',qP base n s.outs i avM=some o'->some (Sum.inr o')=some rr->Q i.to a' X'.w:=by
    intro i o' ho' avg;cases avg;simp only[cM]at e;subst e;obtain⟨q1,q2⟩:=TS ho' hs
    grind
   cases auR with
   |normal=>simp only[]at avg;split at avg<;>cases avg;rename_i d' hd';simp only[]at e;obtain⟨avN,avj,rest⟩:=ih d' e;obtain⟨X'',hw,R'',E''⟩:=JL hd' avj hb aun E' R';have:=rest X₀ X'' a' hb aun E'' R'' Q hQ;rw[hw]at this;exact this
   |exit i=>
    simp only[]at avg;split at avg<;>try cases avg
    rename_i o' ho';exact out (.exit i) o' ho' rfl
   |ret=>
    simp only[]at avg;split at avg<;>try cases avg
    rename_i o' ho';exact out .ret o' ho' rfl
 obtain⟨avL,hp,S'⟩:=key m d hmm;refine⟨ex,st',hk,?_⟩;intro X₀ X a hb aun hE RR Q hQ;obtain⟨X₁,awf,auv,aue⟩:=JL hd hp hb aun hE RR;have:=S' X₀ X₁ a hb aun aue auv Q hQ;rw[awf]at this;exact wp_loop_rounds m this
def shL(f:TypeId->Option Sh):List Field->Option (List Sh)
 |[]=>some []|x::l=>match f x.type with
  |some s=>match shL f l with|some r=>some (s::r)|none=>none
  |none=>none
def qg(P:Program):Nat->TypeId->Option Sh
 |0,_=>none|k+1,t=>match P.underlying t with
  |some d=>match d with
   |.bool=>some .bool|.int k=>some (.int k)|.string=>some .str|.slice e=>match qg P k e with|some s=>some (.sl s)|none=>none
   |.struct fs=>match shL (qg P k) fs.toList with|some l=>some (.agg l)|none=>none
   |_=>none
  |none=>none
def bu(f:Func):Code:=match f.body with|some c=>c|none=>.skip
def cj:mt->Code->Code
 |[],c=>c|i::l,c=>match Ev.nth (fV c) i with|some x=>cj l x|none=>.skip
def EH:List (Nat×Spec)->yF
 |[],_=>none|p::l,f=>match Nat.beq p.1 f with|true=>some p.2|false=>EH l f
def yV:List (Nat×mZ)->OC
 |[],_=>[]|p::l,f=>match Nat.beq p.1 f with|true=>p.2::yV l f|false=>yV l f
def oc:List (Nat×Func)->Env
 |[],_=>none|p::l,f=>match Nat.beq p.1 f with|true=>some p.2|false=>oc l f
theorem w7{P:Program}:∀{l:List (Nat×Func)},(∀p∈l,P.funcs[p.1]?=some p.2/\(p.2.name == "runtime.NumGoroutine")=false)->rW P (oc l)
 |[],_,f,e,h=>by cases h
 |p::l,hC,f,e,h=>by
  simp only[oc]at h;split at h
  .rename_i q
   simp_all
  .exact w7 (fun p' hp=>hC p' (by simp[hp])) f e h
def kn(l:List (Nat×Spec))(q:List (Nat×mZ)):Kn:=⟨EH l,yV q⟩
theorem aay{P:Program}:∀{l:List (Nat×Spec)},(∀p∈l,Comes P p.1 p.2.σs p.2.τs p.2.F)->Oc P (EH l)
 |[],_,f,s,h=>by cases h
 |p::l,hC,f,s,h=>by
  simp only[EH]at h;split at h
  .rename_i q;cases h
   simp_all
  .exact aay (fun p' hp=>hC p' (by simp[hp])) f s h
theorem TC{P:Program}:∀{l:List (Nat×mZ)},(∀p∈l,jD P p.1 p.2)->aaX P (yV l)
 |[],_,f,s,h=>by cases h
 |p::l,hC,f,s,h=>by
  simp only[yV]at h;split at h
  .rename_i q;have q:=cB q;rcases GE.1 h with rfl|h
   .rw[<-q];exact hC p atQ
   .exact TC (fun p' hp=>hC p' (by simp[hp])) f s h
  .exact TC (fun p' hp=>hC p' (by simp[hp])) f s h
theorem al4{P:Program}{l:List (Nat×Spec)}{q:List (Nat×mZ)}(h1:∀p∈l,Comes P p.1 p.2.σs p.2.τs p.2.F)(h2:∀p∈q,jD P p.1 p.2):pU P (kn l q):=⟨aay h1,TC h2⟩
set_option maxRecDepth 100000
abbrev iL(a b:Int):Bool:=@decide _ (Int.decLt a b)
abbrev iE(a b:Int):Bool:=@decide _ (Int.decLe a b)
abbrev iQ(a b:Int):Bool:=@decide _ (Int.instDecidableEq a b)
abbrev bQ(a b:Bool):Bool:=@decide _ (instDecidableEqBool a b)
abbrev nQ(a b:Nat):Bool:=@decide _ (instDecidableEqNat a b)
section
variable{a1 a2 a3 a4 a5 a6 a7 a8 a9 a10 a11 a12 a13 a14 a15 a16 a17 a18 a19 a20 a21 a22 a23 a24 z r:Type}
abbrev u1(f:a1->r)(d:a1×z):r:=f d.1
abbrev u2(f:a1->a2->r)(d:a1×a2×z):r:=f d.1 d.2.1
abbrev u3(f:a1->a2->a3->r)(d:a1×a2×a3×z):r:=f d.1 d.2.1 d.2.2.1
abbrev u4(f:a1->a2->a3->a4->r)(d:a1×a2×a3×a4×z):r:=f d.1 d.2.1 d.2.2.1 d.2.2.2.1
abbrev u5(f:a1->a2->a3->a4->a5->r)(d:a1×a2×a3×a4×a5×z):r:=f d.1 d.2.1 d.2.2.1 d.2.2.2.1 d.2.2.2.2.1
abbrev u6(f:a1->a2->a3->a4->a5->a6->r)(d:a1×a2×a3×a4×a5×a6×z):r:=f d.1 d.2.1 d.2.2.1 d.2.2.2.1 d.2.2.2.2.1 d.2.2.2.2.2.1
abbrev u7(f:a1->a2->a3->a4->a5->a6->a7->r)(d:a1×a2×a3×a4×a5×a6×a7×z):r:=f d.1 d.2.1 d.2.2.1 d.2.2.2.1 d.2.2.2.2.1 d.2.2.2.2.2.1 d.2.2.2.2.2.2.1
abbrev u8(f:a1->a2->a3->a4->a5->a6->a7->a8->r)(d:a1×a2×a3×a4×a5×a6×a7×a8×z):r:=f d.1 d.2.1 d.2.2.1 d.2.2.2.1 d.2.2.2.2.1 d.2.2.2.2.2.1 d.2.2.2.2.2.2.1 d.2.2.2.2.2.2.2.1
abbrev u9(f:a1->a2->a3->a4->a5->a6->a7->a8->a9->r)(d:a1×a2×a3×a4×a5×a6×a7×a8×a9×z):r:=f d.1 d.2.1 d.2.2.1 d.2.2.2.1 d.2.2.2.2.1 d.2.2.2.2.2.1 d.2.2.2.2.2.2.1 d.2.2.2.2.2.2.2.1 d.2.2.2.2.2.2.2.2.1
abbrev vl(f:a1->a2->a3->a4->a5->a6->a7->a8->a9->a10->r)(d:a1×a2×a3×a4×a5×a6×a7×a8×a9×a10×z):r:=f d.1 d.2.1 d.2.2.1 d.2.2.2.1 d.2.2.2.2.1 d.2.2.2.2.2.1 d.2.2.2.2.2.2.1 d.2.2.2.2.2.2.2.1 d.2.2.2.2.2.2.2.2.1 d.2.2.2.2.2.2.2.2.2.1
abbrev vm(f:a1->a2->a3->a4->a5->a6->a7->a8->a9->a10->a11->r)(d:a1×a2×a3×a4×a5×a6×a7×a8×a9×a10×a11×z):r:=f d.1 d.2.1 d.2.2.1 d.2.2.2.1 d.2.2.2.2.1 d.2.2.2.2.2.1 d.2.2.2.2.2.2.1 d.2.2.2.2.2.2.2.1 d.2.2.2.2.2.2.2.2.1 d.2.2.2.2.2.2.2.2.2.1 d.2.2.2.2.2.2.2.2.2.2.1
abbrev bM(f:a1->a2->a3->a4->a5->a6->a7->a8->a9->a10->a11->a12->r)(d:a1×a2×a3×a4×a5×a6×a7×a8×a9×a10×a11×a12×z):r:=f d.1 d.2.1 d.2.2.1 d.2.2.2.1 d.2.2.2.2.1 d.2.2.2.2.2.1 d.2.2.2.2.2.2.1 d.2.2.2.2.2.2.2.1 d.2.2.2.2.2.2.2.2.1 d.2.2.2.2.2.2.2.2.2.1 d.2.2.2.2.2.2.2.2.2.2.1 d.2.2.2.2.2.2.2.2.2.2.2.1
abbrev bX(d:a1×a2×a3×a4×a5×a6×a7×a8×a9×a10×a11×a12×z):z:=d.2.2.2.2.2.2.2.2.2.2.2.2
abbrev kI(f:a1->a2->a3->a4->a5->a6->a7->a8->a9->a10->a11->a12->a13->r)(d:a1×a2×a3×a4×a5×a6×a7×a8×a9×a10×a11×a12×a13×z):r:=u1 (bM f d) (bX d)
abbrev iC(f:a1->a2->a3->a4->a5->a6->a7->a8->a9->a10->a11->a12->a13->a14->r)(d:a1×a2×a3×a4×a5×a6×a7×a8×a9×a10×a11×a12×a13×a14×z):r:=u2 (bM f d) (bX d)
abbrev gm(f:a1->a2->a3->a4->a5->a6->a7->a8->a9->a10->a11->a12->a13->a14->a15->r)(d:a1×a2×a3×a4×a5×a6×a7×a8×a9×a10×a11×a12×a13×a14×a15×z):r:=u3 (bM f d) (bX d)
abbrev u16(f:a1->a2->a3->a4->a5->a6->a7->a8->a9->a10->a11->a12->a13->a14->a15->a16->r)(d:a1×a2×a3×a4×a5×a6×a7×a8×a9×a10×a11×a12×a13×a14×a15×a16×z):r:=u4 (bM f d) (bX d)
abbrev jv(f:a1->a2->a3->a4->a5->a6->a7->a8->a9->a10->a11->a12->a13->a14->a15->a16->a17->r)(d:a1×a2×a3×a4×a5×a6×a7×a8×a9×a10×a11×a12×a13×a14×a15×a16×a17×z):r:=u5 (bM f d) (bX d)
abbrev JT(f:a1->a2->a3->a4->a5->a6->a7->a8->a9->a10->a11->a12->a13->a14->a15->a16->a17->a18->r)(d:a1×a2×a3×a4×a5×a6×a7×a8×a9×a10×a11×a12×a13×a14×a15×a16×a17×a18×z):r:=u6 (bM f d) (bX d)
abbrev rN(f:a1->a2->a3->a4->a5->a6->a7->a8->a9->a10->a11->a12->a13->a14->a15->a16->a17->a18->a19->r)(d:a1×a2×a3×a4×a5×a6×a7×a8×a9×a10×a11×a12×a13×a14×a15×a16×a17×a18×a19×z):r:=u7 (bM f d) (bX d)
abbrev l9(f:a1->a2->a3->a4->a5->a6->a7->a8->a9->a10->a11->a12->a13->a14->a15->a16->a17->a18->a19->a20->r)(d:a1×a2×a3×a4×a5×a6×a7×a8×a9×a10×a11×a12×a13×a14×a15×a16×a17×a18×a19×a20×z):r:=u8 (bM f d) (bX d)
abbrev T8(f:a1->a2->a3->a4->a5->a6->a7->a8->a9->a10->a11->a12->a13->a14->a15->a16->a17->a18->a19->a20->a21->r)(d:a1×a2×a3×a4×a5×a6×a7×a8×a9×a10×a11×a12×a13×a14×a15×a16×a17×a18×a19×a20×a21×z):r:=u9 (bM f d) (bX d)
abbrev mw(f:a1->a2->a3->a4->a5->a6->a7->a8->a9->a10->a11->a12->a13->a14->a15->a16->a17->a18->a19->a20->a21->a22->r)(d:a1×a2×a3×a4×a5×a6×a7×a8×a9×a10×a11×a12×a13×a14×a15×a16×a17×a18×a19×a20×a21×a22×z):r:=vl (bM f d) (bX d)
abbrev rO(f:a1->a2->a3->a4->a5->a6->a7->a8->a9->a10->a11->a12->a13->a14->a15->a16->a17->a18->a19->a20->a21->a22->a23->r)(d:a1×a2×a3×a4×a5×a6×a7×a8×a9×a10×a11×a12×a13×a14×a15×a16×a17×a18×a19×a20×a21×a22×a23×z):r:=vm (bM f d) (bX d)
abbrev qA(f:a1->a2->a3->a4->a5->a6->a7->a8->a9->a10->a11->a12->a13->a14->a15->a16->a17->a18->a19->a20->a21->a22->a23->a24->r)(d:a1×a2×a3×a4×a5×a6×a7×a8×a9×a10×a11×a12×a13×a14×a15×a16×a17×a18×a19×a20×a21×a22×a23×a24×z):r:=bM (bM f d) (bX d)
end
abbrev ap{α:Type}(a b:List α):List α:=a++b
def gt(σ:Sh)(L:List σ.T)(i:Int):σ.T:=List.getD L i.toNat σ.zero
def NN:Nat:=10000000000000000000000000000000000000000
theorem zY:Tryz.prog.follows .mixedOrders=true:=atP
theorem aab{D O:Type}{B B':D->Option (D⊕O)}(h:∀d,B d=B' d):∀m d,bp B m d=bp B' m d
 |0,d=>rfl|m+1,d=>by
  simp only[bp,h d];split
  .split
   .exact aab h m _
   .rfl
  .rfl
variable{O:Type}{D:Type}{B:D->Option (D⊕O)}
theorem al7{B':D->Option (D⊕O)}(h:∀d,B d=B' d):∀d o,bp B' NN d=some o->∃m,bp B m d=some o:=fun d o e=>⟨NN,by rw[aab h];exact e⟩
theorem Su{F G:D->Option O}(h:∀d,F d=G d):∀d o,G d=some o->F d=some o:=by grind
theorem Zi0{P:Program}(hf:P.funcs[f]?=some e)(hname:(e.name == "runtime.NumGoroutine")=false)(hb:e.body=some c)(hm:P.follows .mixedOrders=true){sh:TypeId->Option Sh}{S:Kn}(hS:pU P S){E:Env}(hE:rW P E){dep:Nat}
  {loops:mY (Out s.outs)}(base n:Nat) (h1:s.lay.nx=base) (h2:e.ntmps=n) (hl:∀x∈fV c,nC P Real base n x (loops (kX x))) (h:∀d o,s.F d=some o->zQ P sh S E dep loops e c s.np s.nr s.lay d=some o):jD P f s:=by
 subst h1;subst h2;exact amx hm hS hE hl hf hname hb h
theorem Zd1{P:Program}(hf:P.funcs[f]?=some e)(hname:(e.name == "runtime.NumGoroutine")=false)(hb:e.body=some c)(hm:P.follows .mixedOrders=true){sh:TypeId->Option Sh}{S:Kn}(hS:pU P S){E:Env}(hE:rW P E){dep:Nat}
  (n:Nat) (h2:e.ntmps=n) (hl:∀x∈fV c,nC P Real 0 n x (loops (kX x))) (h:∀d x,F d=some x->uS P sh S E dep loops e c σs d=some x):Comes P f σs τs F:=by
 subst h2;exact amQ hm hS hE hl hf hname hb h
variable{lay:ai}{outs:List (Ev.Ex×ai)}{nr:Nat}{np:Nat}
theorem am4{P:Program}(hf:P.funcs[f]?=some e)(hname:(e.name == "runtime.NumGoroutine")=false)(hb:e.body=some c):jD P f ⟨np,lay,nr,outs,fun _=>none⟩:=⟨⟨e,c,hf,hname,hb⟩,fun d o h=>by cases h⟩
variable{τ:Sh}
theorem ara{P:Program}{F':TL [.bool,.sl τ]->Option (Out outs)}(hC:jD P f ⟨1,⟨[(0,.fJ τ)],[],0⟩,nr,outs,F'⟩)
  (h0:F' (true,[],())=F' (false,[],())):jD P f ⟨1,⟨[(0,.fz τ)],[],0⟩,nr,outs,fun d=>F' (false,d)⟩:=by
 refine⟨hC.1,?_⟩;rintro⟨L,u⟩ o ho st e st' hput hs X vs args hX H hr hv R;have e1:st=⟨.node (some (.fz τ L)) .nil .nil,⟨.nil,0⟩⟩:=by
  have:ai.put 1 (⟨[(0,.fz τ)],[],0⟩:ai) (L,u)=some ⟨.node (some (.fz τ L)) .nil .nil,⟨.nil,0⟩⟩:=rfl
  grind
 subst e1;have hv':some [AV.fz τ L]=some vs:=hv;cases hv';obtain⟨V,r,rfl,h1,h2⟩:=R;have:r=[]:=h2;subst this;have h1':=h1;obtain⟨a,len,cap,q1,q2,q3,q4⟩:=h1;simp only[asH,asY]at q1;have hz:a.isNone=true->L=[]:=by grind
 have hF:F' (a.isNone,L,u)=some o:=by cases hn:a.isNone with|false=>exact ho|true=>have:=hz hn;subst this;rw[<-ho];exact h0
 exact hC.2 (a.isNone,L,u) o hF ⟨.node (some (.fJ τ a.isNone L)) .nil .nil,⟨.nil,0⟩⟩ e st' rfl hs X [.fJ τ a.isNone L] [V] hX H hr rfl ⟨V,[],rfl,⟨h1',a,len,cap,q1,rfl⟩,rfl⟩
section
variable{R:Type}(P:Program)(sh:TypeId->Option Sh)(S:Kn)(E:Env)(dep n:Nat)
def zU(loops:mY R)(x:Code):Nat->St->(Ex->St->Option R)->Option R
 |0,_,_=>none|m+1,st,k=>runK P sh (vZ P sh S E dep) loops n x st fun e st=>match e with|.normal=>zU loops x m st k|.exit i=>k (.exit i) st|.ret=>k .ret st
end
theorem akU{R:Type}{P:Program}(hm:P.follows .mixedOrders=true){sh:TypeId->Option Sh}{S:Kn}(hS:pU P S){E:Env}(hE:rW P E){dep n:Nat}{loops:mY R}
  (hl:∀y∈fV x,nC P Real base n y (loops (kX y))) (m:Nat):nC P Real base n x (zU P sh S E dep n loops x m):=by
 have key:∀m st k r,zU P sh S E dep n loops x m st k=some r->∃e st',k e st'=some r/\∀X₀ X a,(X₀.h.next=base/\Real X₀)->aV X₀->bh X₀ X->RF X n st a->∀Q:Exit->Act->World->Prop,
   (∀X' a',RF X' n st' a'->bh X₀ X'->Q e.to a' X'.w)->Code.rounds P x Q m a X.w:=by
  intro m
  induction m with
  |zero=>intro st k r e;cases e
  |succ m ih=>
   intro st k r e;simp only[zU]at e;obtain⟨auR,avM,avg,Tk⟩:=AZ (G:=Real) hm (AQ hm hS hE dep) (base:=base) x hl _ _ _ e;cases auR with
   |normal=>simp only[]at avg;obtain⟨auS,avN,avh,rest⟩:=ih _ _ _ avg;refine⟨auS,avN,avh,?_⟩;intro X₀ X a hb aun hE' RR Q hQ;rw[rounds_succ];refine Tk X₀ X a hb aun hE' RR _ ?_;intro X' a' R' E';exact rest X₀ X' a' hb aun E' R' Q hQ
   |exit i=>simp only[]at avg;refine⟨_,_,avg,?_⟩;intro X₀ X a hb aun hE' RR Q hQ;rw[rounds_succ];refine Tk X₀ X a hb aun hE' RR _ ?_;intro X' a' R' E';exact hQ X' a' R' E'|ret=>simp only[]at avg;refine⟨_,_,avg,?_⟩;intro X₀ X a hb aun hE' RR Q hQ;rw[rounds_succ];refine Tk X₀ X a hb aun hE' RR _ ?_;intro X' a' R' E';exact hQ X' a' R' E'
 intro st k r e;obtain⟨auQ,avL,hk,T⟩:=key m st k r e;refine⟨auQ,avL,hk,?_⟩;intro X₀ X a hb aun hE' RR Q hQ;exact wp_loop_rounds m (T X₀ X a hb aun hE' RR Q hQ)
structure Kd(f:FuncId)(σs τs:List Sh) where
 F:TL σs->Option (TL τs)
 ok:Comes Tryz.prog f σs τs F
structure Kb(f:FuncId)(np:Nat)(lay:ai)(nr:Nat)(outs:List (Ev.Ex×ai)) where
 F:be lay outs
 ok:jD Tryz.prog f ⟨np,lay,nr,outs,F⟩
structure Ld(base n:Nat)(x:Code)(lay:ai)(outs:List (Ev.Ex×ai)) where
 L:be lay outs
 ok:∀{R:Type},nC Tryz.prog Real base n x (yP (R:=R) base n ⟨lay,[],outs,L⟩)
structure KN where
 l:List (Nat×Spec)
 q:List (Nat×mZ)
 h1:∀p∈l,Comes Tryz.prog p.1 p.2.σs p.2.τs p.2.F
 h2:∀p∈q,jD Tryz.prog p.1 p.2
def k0:KN:=⟨[],[],atz _,atz _⟩
def kD{f:FuncId}{σs τs:List Sh}(k:Kd f σs τs)(s:KN):KN:=⟨(f,⟨σs,τs,k.F⟩)::s.l,s.q,List.forall_mem_cons.2 ⟨k.ok,s.h1⟩,s.h2⟩
def kB{f np:Nat}{lay:ai}{nr:Nat}{outs:List (Ev.Ex×ai)}(k:Kb f np lay nr outs)(s:KN):KN:=⟨s.l,(f,⟨np,lay,nr,outs,k.F⟩)::s.q,s.h1,List.forall_mem_cons.2 ⟨k.ok,s.h2⟩⟩
def KN.kn(s:KN):Kn:=V.kn s.l s.q
theorem KN.ok(s:KN):pU Tryz.prog s.kn:=al4 s.h1 s.h2
structure EN where
 l:List (Nat×Func)
 h:∀p∈l,Tryz.prog.funcs[p.1]?=some p.2/\(p.2.name == "runtime.NumGoroutine")=false
def e0:EN:=⟨[],atz _⟩
def eC{f:FuncId}{e:Func}(h:Tryz.prog.funcs[f]?=some e)(h2:(e.name == "runtime.NumGoroutine")=false)(s:EN):EN:=⟨(f,e)::s.l,List.forall_mem_cons.2 ⟨⟨h,h2⟩,s.h⟩⟩
abbrev jK:=(R:Type)->mY R
def LN(base n:Nat)(cs:List Code)(tab:jK):Prop:=∀R,∀y∈cs,nC Tryz.prog Real base n y (tab R (kX y))
def arE:jK:=fun R _ _ _=>none
theorem l0{n:Nat}:LN base n [] arE:=fun _=>atz _
def other(x:Code):List Code->Bool
 |[]=>true|y::l=>match Nat.beq (kX x) (kX y)with|true=>false|false=>other x l
theorem aeS{x:Code}:∀{l:List Code},other x l=true->∀y∈l,Nat.beq (kX x) (kX y)=false
 |[],_,y,h=>by cases h
 |z::l,h,y,hy=>by
  simp only[other]at h;split at h
  .cases h
  rename_i q;rcases GE.1 hy with rfl|hy
  .exact q
  .exact aeS h y hy
def Ie(x:Code)(g:(R:Type)->St->(Ev.Ex->St->Option R)->Option R)(t:jK):jK:=fun R i st k=>match Nat.beq (kX x) i with|true=>g R st k|false=>t R i st k
variable{t:jK}{cs:List Code}
theorem lX{n:Nat}{g:(R:Type)->St->(Ev.Ex->St->Option R)->Option R}(hg:∀R,nC Tryz.prog Real base n x (g R))(s:LN base n cs t)(h:other x cs=true):LN base n (x::cs) (Ie x g t):=by
 intro R y hy;unfold Ie;rcases GE.1 hy with rfl|hy
 .simp only[Nat.beq_refl];exact hg R
 .simp only[aeS h y hy];exact s R y hy
def afm{base n:Nat}{x:Code}{lay:ai}{outs:List (Ev.Ex×ai)}(k:Ld base n x lay outs)(t:jK):jK:=Ie x (fun R=>yP base n ⟨lay,[],outs,k.L⟩) t
theorem lC{n:Nat}(k:Ld base n x lay outs)(s:LN base n cs t)(h:other x cs=true):LN base n (x::cs) (afm k t):=lX (fun R=>k.ok) s h
theorem lU{n:Nat}(x:Code)(m:Nat)(K:KN)(E:EN)(dep:Nat){cs':List Code}{u:jK}(T:LN base n cs' u)(hl:fV x=cs')(s:LN base n cs t)(h:other x cs=true):LN base n (x::cs) (Ie x (fun R st k=>zU Tryz.prog (qg Tryz.prog 20) K.kn (oc E.l) dep n (u R) x m st k) t):=lX (fun R=>akU zY K.ok (w7 E.h) (by rw[hl];exact T R) m) s h
def LB(base n:Nat)(x:Code)(lay:ai)(outs:List (Ev.Ex×ai))(B:TL lay.σs->am lay outs):Prop:=∀{R:Type},nC Tryz.prog Real base n x (yP (R:=R) base n ⟨lay,[],outs,bp B NN⟩)
theorem prL{n:Nat}(K:KN)(E:EN)(dep:Nat)(T:LN base n cs t)(hl:fV x=cs){B:TL lay.σs->am lay outs}
  (h:∀d,zP Tryz.prog (qg Tryz.prog 20) K.kn (oc E.l) dep base n lay outs (t _) x d=B d):LB base n x lay outs B:=
 fun{R}=>Zby (s:=⟨lay,[],outs,bp B NN⟩) zY K.ok (w7 E.h) (by rw[hl];exact T _) (al7 h)
def cu{base n:Nat}{x:Code}{lay:ai}{outs:List (Ev.Ex×ai)}(B:TL lay.σs->am lay outs)(h:LB base n x lay outs B):Ld base n x lay outs:=⟨bp B NN,h⟩
theorem prD(hf:Tryz.prog.funcs[f]?=some e)(n:Nat)(K:KN)(E:EN)(dep:Nat)(T:LN 0 n (fV (bu e)) t)(hn:(e.name == "runtime.NumGoroutine")=false)(hb:e.body=some (bu e))(hm:e.ntmps=n)
  (h:∀d,uS Tryz.prog (qg Tryz.prog 20) K.kn (oc E.l) dep (t _) e (bu e) σs d=F d):Comes Tryz.prog f σs τs F:=
 Zd1 hf hn hb zY K.ok (w7 E.h) n hm (T _) (Su h)
def shZ(P:Program)(t:TypeId):Option Sh:=match Nat.beq t 1000000000 with|true=>some .bool|false=>qg P 20 t
theorem arC(hf:Tryz.prog.funcs[f]?=some e)(n:Nat)(K:KN)(E:EN)(dep:Nat)(T:LN 0 n (fV (bu e)) t)(hn:(e.name == "runtime.NumGoroutine")=false)(hb:e.body=some (bu e))(hm:e.ntmps=n)
  (h:∀d,uS Tryz.prog (shZ Tryz.prog) K.kn (oc E.l) dep (t _) e (bu e) σs d=F d):Comes Tryz.prog f σs τs F:=
 Zd1 hf hn hb zY K.ok (w7 E.h) n hm (T _) (Su h)
theorem prB(hf:Tryz.prog.funcs[f]?=some e)(n:Nat)(K:KN)(E:EN)(dep:Nat)(T:LN lay.nx n (fV (bu e)) t)(hn:(e.name == "runtime.NumGoroutine")=false)(hb:e.body=some (bu e))(hm:e.ntmps=n){F:be lay outs}
  (h:∀d,zQ Tryz.prog (qg Tryz.prog 20) K.kn (oc E.l) dep (t _) e (bu e) np nr lay d=F d):jD Tryz.prog f ⟨np,lay,nr,outs,F⟩:=
 Zi0 (s:=⟨np,lay,nr,outs,F⟩) hf hn hb zY K.ok (w7 E.h) lay.nx n rfl hm (T _) (Su h)
theorem lS{n:Nat}(T:LN base n cs t)(hl:fV c=cs):LN base n (fV c) t:=by grind
theorem pL{n:Nat}(K:KN)(E:EN)(dep:Nat)(T:LN base n cs t){B:TL lay.σs->am lay outs}
  (h:∀d,zP Tryz.prog (qg Tryz.prog 20) K.kn (oc E.l) dep base n lay outs (t _) x d=B d) (hl:fV x=cs:=by kernel_rfl):LB base n x lay outs B:=prL K E dep T hl h
theorem pD(hf:Tryz.prog.funcs[f]?=some e)(n:Nat)(K:KN)(E:EN)(dep:Nat)(T:LN 0 n (fV (bu e)) t)
  (h:∀d,uS Tryz.prog (qg Tryz.prog 20) K.kn (oc E.l) dep (t _) e (bu e) σs d=F d) (hn:(e.name == "runtime.NumGoroutine")=false:=by kernel_rfl) (hb:e.body=some (bu e):=by kernel_rfl) (hm:e.ntmps=n:=by kernel_rfl):Comes Tryz.prog f σs τs F:=prD hf n K E dep T hn hb hm h
theorem pZ(hf:Tryz.prog.funcs[f]?=some e)(n:Nat)(K:KN)(E:EN)(dep:Nat)(T:LN 0 n (fV (bu e)) t)
  (h:∀d,uS Tryz.prog (shZ Tryz.prog) K.kn (oc E.l) dep (t _) e (bu e) σs d=F d) (hn:(e.name == "runtime.NumGoroutine")=false:=by kernel_rfl) (hb:e.body=some (bu e):=by kernel_rfl) (hm:e.ntmps=n:=by kernel_rfl):Comes Tryz.prog f σs τs F:=arC hf n K E dep T hn hb hm h
theorem pB(hf:Tryz.prog.funcs[f]?=some e)(n:Nat)(K:KN)(E:EN)(dep:Nat)(T:LN lay.nx n (fV (bu e)) t){F:be lay outs}
  (h:∀d,zQ Tryz.prog (qg Tryz.prog 20) K.kn (oc E.l) dep (t _) e (bu e) np nr lay d=F d) (hn:(e.name == "runtime.NumGoroutine")=false:=by kernel_rfl) (hb:e.body=some (bu e):=by kernel_rfl) (hm:e.ntmps=n:=by kernel_rfl):jD Tryz.prog f ⟨np,lay,nr,outs,F⟩:=prB hf n K E dep T hn hb hm h
theorem sS{n:Nat}(T:LN base n cs t)(hl:fV c=cs:=by kernel_rfl):LN base n (fV c) t:=lS T hl
theorem sC{n:Nat}(k:Ld base n x lay outs)(s:LN base n cs t)(h:other x cs=true:=by kernel_rfl):LN base n (x::cs) (afm k t):=lC k s h
def T4{f:FuncId}{e:Func}{np:Nat}{lay:ai}{nr:Nat}{outs:List (Ev.Ex×ai)}(hf:Tryz.prog.funcs[f]?=some e)(hn:(e.name == "runtime.NumGoroutine")=false)(hb:e.body=some (bu e)):Kb f np lay nr outs:=⟨fun _=>none,am4 hf hn hb⟩
def JP{f:FuncId}{τ:Sh}{nr:Nat}{outs:List (Ev.Ex×ai)}(k:Kb f 1 ⟨[(0,.fJ τ)],[],0⟩ nr outs)(h0:k.F (true,[],())=k.F (false,[],())):Kb f 1 ⟨[(0,.fz τ)],[],0⟩ nr outs:=⟨fun d=>k.F (false,d),ara k.ok h0⟩
variable{a:Nat}
theorem GX{P:Program}{F':TL [.bool,.sl τ]->Option (Out [(Ev.Ex.ret,⟨[(0,.hd 0 τ)],[(0,.arr τ ty)],1⟩)])}(hC:jD P f ⟨1,⟨[(0,.fJ τ)],[],0⟩,1,[(Ev.Ex.ret,⟨[(0,.hd 0 τ)],[(0,.arr τ ty)],1⟩)],F'⟩)
  (h0:F' (true,[],())=some ([],())) (h1:∀L:List τ.T,F' (false,L,())=au (room a L.length) (some (L,())))
  (hz:∀L:List τ.T,∃st h',nh 1 [(Ev.Ex.ret,(⟨[(0,.hd 0 τ)],[(0,.arr τ ty)],1⟩:ai))] (L,())=some (.ret,st)/\oQ st.T 1 0=some [.hd 0 τ]/\od true st.h [.sl τ] [.hd 0 τ]=some ((L,()),h')):Comes P f [.sl τ] [.sl τ] (fun d=>au (room a (List.length d.1)) (some (d.1,()))):=by
 refine⟨hC.1,?_⟩;rintro⟨L,u⟩ x hx w A args hA ha;obtain⟨hroom,hx⟩:=rG hx;have hx:(L,())=x:=Do hx;subst hx
 let X:Cx:=⟨fun _=>none,⟨.nil,0⟩,w,A⟩
 have out:∀b,X.out b->A b:=by
  rintro b (q|⟨i,o,c,h1,h2⟩)
  .exact q
  .simp[X,Ev.Tr.get]at h1
 have H:aV X:=⟨fun i o l h=>by simp[X,Ev.Tr.get]at h,fun i j o o' b c c' h=>by grind,fun i o h=>by simp[X,Ev.Tr.get]at h,fun i l h=>by simp[X]at h,hA,fun i o b c h=>by grind⟩;have ha':mG X.w X.out [.sl τ] (L,u) args:=ha.bn (fun b o q r=>⟨r,fun s=>q (out b s)⟩);obtain⟨V,r,rfl,h1',h2'⟩:=AK ha';have:r=[]:=h2';subst this;have h1s:=h1';obtain⟨ad,len,cap,q1,q2,q3,q4⟩:=h1';simp only[asH,asY]at q1;have hF:F' (ad.isNone,L,())=some (L,()):=by
  cases hn:ad.isNone with
  |false=>exact(h1 L).trans (by have hr:room a L.length=true:=hroom;rw[hr];rfl)|true=>
   have hL:L=[]:=by grind
   subst hL;exact h0
 obtain⟨st,avc,z1,z2,z3⟩:=hz L;refine(hC.2 (ad.isNone,L,()) (L,()) hF ⟨.node (some (.fJ τ ad.isNone L)) .nil .nil,⟨.nil,0⟩⟩ .ret st rfl z1 X [.fJ τ ad.isNone L] [V] rfl H (fun i hi=>absurd hi (arL i)) rfl ⟨V,[],rfl,⟨h1s,ad,len,cap,q1,rfl⟩,rfl⟩).mono ?_;rintro e w' ⟨X',Vs,rfl,rfl,hh,H',E',R'⟩;obtain⟨Fz,hA'⟩:=yS (kl:=true) (l:=[.sl τ]) (d:=(L,())) H' (vs:=[.hd 0 τ]) (by rw[hh];exact z3) (R' [.hd 0 τ] z2);refine⟨Vs,rfl,⟨E'.os,E'.tape,E'.output,E'.size,fun b hb=>E'.frame b hb ?_⟩,?_⟩
 .rintro⟨i,o,c,h1,h2⟩;simp[X,Ev.Tr.get]at h1
 .refine hA'.bn (fun b o q r=>⟨r,fun s=>q (.inl ?_)⟩);show X'.A b;rw[E'.A];exact s
variable{i:Nat}{α:Type}
theorem arh{l:List α}{x:α}(h:l[i]?=some x):i<l.length:=by grind
theorem aq0{P:Program}(hpl:plain τ=true){F:TL [.sl τ]->Option (Out [(Ev.Ex.ret,⟨[(0,.hd 0 τ)],[(0,.arr τ ty)],1⟩)])}
  (hC:jD P f ⟨1,⟨[(0,.fz τ)],[],0⟩,1,[(Ev.Ex.ret,⟨[(0,.hd 0 τ)],[(0,.arr τ ty)],1⟩)],F⟩) :
  jD P f ⟨1,⟨[(0,.hd 0 τ)],[(0,.arr τ ty)],1⟩,1,[(Ev.Ex.ret,⟨[(0,.hd 1 τ)],[(0,.arr τ ty),(1,.arr τ ty)],2⟩)],fun d=>az (F (d.1,())) fun x=>some (d.1,x.1,())⟩:=by
 refine⟨hC.1,?_⟩;rintro⟨L,u⟩ o ho st e st' hput hs X vs args hX H hr hv R;obtain⟨⟨L',u'⟩,hF,ho⟩:=zg ho;have ho:(L,L',())=o:=Do ho;subst ho;have e1:st=⟨.node (some (.hd 0 τ)) .nil .nil,⟨.node (some (.arr τ L ty)) .nil .nil,1⟩⟩:=by have:ai.put 1 (⟨[(0,.hd 0 τ)],[(0,.arr τ ty)],1⟩:ai) (L,u)=some ⟨.node (some (.hd 0 τ)) .nil .nil,⟨.node (some (.arr τ L ty)) .nil .nil,1⟩⟩:=rfl;exact(Do (this.symm.trans hput)).symm
 subst e1;have e2:(e,st')=(.ret,⟨.node (some (.hd 1 τ)) .nil .nil,⟨.node (some (.arr τ L ty)) (.node (some (.arr τ L' ty)) .nil .nil) .nil,2⟩⟩):=by have:nh 1 [(Ev.Ex.ret,(⟨[(0,.hd 1 τ)],[(0,.arr τ ty),(1,.arr τ ty)],2⟩:ai))] (L,L',())=some (.ret,⟨.node (some (.hd 1 τ)) .nil .nil,⟨.node (some (.arr τ L ty)) (.node (some (.arr τ L' ty)) .nil .nil) .nil,2⟩⟩):=rfl;exact(Do (this.symm.trans hs)).symm
 cases e2;have hv':some [AV.hd 0 τ]=some vs:=hv;cases hv';obtain⟨V,r,rfl,⟨l,hl,hc1,hV⟩,hr2⟩:=R;have:r=[]:=hr2;subst this;have g0:X.h.tr.get 0=some (.arr τ L ty):=by rw[hX];rfl
 have gi:∀i o,X.h.tr.get i=some o->i=0:=by
  intro i o h;have:=H.lt i o h;have e:X.h.next=1:=by rw[hX]
  omega
 have hV:V=l.slice L.length:=hV _ (je g0);have hO:=H.obj 0 _ l g0 hl
 let Y:Cx:=⟨fun _=>none,⟨.nil,0⟩,X.w,X.A⟩
 have yout:∀b,Y.out b->X.A b:=by
  rintro b (q|⟨i,o,c,h1,h2⟩)
  .exact q
  .simp[Y,Ev.Tr.get]at h1
 have HY:aV Y:=⟨fun i o l h=>by simp[Y,Ev.Tr.get]at h,fun i j o o' b c c' h=>by simp[Y,Ev.Tr.get]at h,fun i o h=>by simp[Y,Ev.Tr.get]at h,fun i l h=>by simp[Y]at h,H.alt,fun i o b c h=>by simp[Y,Ev.Tr.get]at h⟩;have RY:Rel Y (.fz τ L) V:=by
  subst hV;cases l with
  |nil=>have:L=[]:=hO;subst this;exact⟨none,0,0,rfl,rfl,rt _,fun q=>absurd rfl q⟩|«at» b c=>obtain⟨cs,tail,h1,h2,h3,h4⟩:=hO;refine⟨_,_,_,rfl,rfl,h4,fun _=>⟨b,0,cs,rfl,fun q=>H.loc 0 _ _ b g0 hl rfl (yout b q),h2.mono (fun x d q=>EV hpl q),_,_,_,h1,?_⟩⟩;intro j v hj;rw[ase];simp only[Or];rw[Pi (arh hj)];exact hj
  |dE b c m=>exact hO.elim
 refine(hC.2 (L,()) (L',u') hF ⟨.node (some (.fz τ L)) .nil .nil,⟨.nil,0⟩⟩ .ret ⟨.node (some (.hd 0 τ)) .nil .nil,⟨.node (some (.arr τ L' ty)) .nil .nil,1⟩⟩ rfl rfl Y [.fz τ L] [V] rfl HY (fun i hi=>absurd hi (arL i)) rfl ⟨V,[],rfl,RY,rfl⟩).mono ?_;rintro e w' ⟨Y',Vs,rfl,rfl,hh,H',E',R'⟩;obtain⟨V',r',rfl,⟨l',hl',hc2,hV'⟩,hr3⟩:=R' [.hd 0 τ] rfl;have:r'=[]:=hr3;subst this;have g0':Y'.h.tr.get 0=some (.arr τ L' ty):=by rw[hh];rfl
 have fr:∀b,b<X.w.heap.size->Y'.w.heap[b]?=X.w.heap[b]?:=fun b hb=>E'.frame b hb (by rintro⟨i,o,c,h1,h2⟩;simp[Y,Ev.Tr.get]at h1);have nw:∀b,l'.own b->X.w.heap.size<=b:=by
  intro b hb;rcases E'.da b ⟨0,_,l',g0',hl',hb⟩with⟨i,o,c,h1,h2⟩|q
  .simp[Y,Ev.Tr.get]at h1
  .exact q
 let X':Cx:=⟨fun i=>match i with|1=>some l'|_=>X.s i,⟨.node (some (.arr τ L ty)) (.node (some (.arr τ L' ty)) .nil .nil) .nil,2⟩,Y'.w,X.A⟩
 have gX:∀i o,X'.h.tr.get i=some o->(i=0/\o=.arr τ L ty)\/(i=1/\o=.arr τ L' ty):=by
  intro i o h;have h:Ev.Tr.get (.node (some (.arr τ L ty)) (.node (some (.arr τ L' ty)) .nil .nil) .nil) i=some o:=h;rcases i with _|_|i
  .left;refine⟨rfl,?_⟩;have h:some (bC.arr τ L ty)=some o:=h;cases h;rfl
  .right;refine⟨rfl,?_⟩;have h:some (bC.arr τ L' ty)=some o:=h;cases h;rfl
  .exfalso;rw[Ev.Tr.vd]at h;split at h
   .obtain⟨k,hk⟩:∃k,(i+1) / 2=k+1:=⟨(i+1) / 2-1,atO⟩;rw[hk,Ev.Tr.vd]at h;simp[Ev.Tr.get]at h
   .simp[Ev.Tr.get]at h
 have hl0:∀i l₁,i≠1->X'.s i=some l₁->X.s i=some l₁:=by
  intro i l₁ hi h;rcases i with _|_|i
  .exact h
  .exact absurd rfl hi
  .exact h
 have hl1:∀l₁,X'.s 1=some l₁->l₁=l':=fun l₁ h=>by have h:some l'=some l₁:=h;cases h;rfl
 have im:∀b,X'.da b->X.da b\/X.w.heap.size<=b:=by
  rintro b ⟨i,o,l₁,h1,h2,h3⟩;rcases gX i o h1 with⟨rfl,rfl⟩|⟨rfl,rfl⟩
  .exact .inl ⟨0,_,l₁,g0,hl0 0 l₁ atS h2,h3⟩
  .have:=hl1 l₁ h2;subst this;exact .inr (nw b h3)
 have E:bh X X':=by
  refine⟨E'.os,E'.tape,E'.output,E'.size,?_,?_,by rw[hX];exact(by decide:1<=2),fun b hb _=>fr b hb,im,?_,?_,rfl⟩
  .intro i l₁ h;have hi:=H.dM i l₁ h;have e:X.h.next=1:=by rw[hX]
   have:i=0:=atO
   subst this;exact h
  .intro i l₁ hi h;have e:X.h.next=1:=by rw[hX]
   exact hl0 i l₁ atO h
  .intro j n hj q;have e:X.h.next=1:=by rw[hX]
   have:j=0:=atO
   subst this;have q:some L.length=some n:=q;rw[je g0];exact q
  .intro i hi _;have e:X.h.next=1:=by rw[hX]
   have:i=0:=atO
   subst this;exact g0.symm
 have hH:aV X':=by
  refine⟨?_,?_,?_,?_,fun b hb=>WP (H.alt b hb) E'.size,?_⟩
  .intro i o l₁ h1 h2;rcases gX i o h1 with⟨rfl,rfl⟩|⟨rfl,rfl⟩
   .have e:=hl0 0 l₁ atS h2;exact(H.obj 0 _ l₁ g0 e).ext (E.fG H) (fun b hb=>fr b (H.ju g0 e hb))
   .have:=hl1 l₁ h2;subst this;have q:=H'.obj 0 _ l₁ g0' hl';cases l₁ with
    |nil=>exact q|«at» b c=>obtain⟨cs,tail,q1,q2,q3,q4⟩:=q;exact⟨cs,tail,q1,q2.mono (fun x d q=>EV hpl q),q3,q4⟩
    |dE b c m=>exact q.elim
  .intro i j o o' l₁ avy b h1 h2 h3 h4 h5 h6;rcases gX i o h1 with⟨rfl,rfl⟩|⟨rfl,rfl⟩<;>rcases gX j o' h2 with⟨rfl,rfl⟩|⟨rfl,rfl⟩
   .rfl
   .have a:=H.ju g0 (hl0 0 l₁ atS h3) h5;have:=hl1 avy h4;subst this;have:=nw b h6;omega
   .have a:=H.ju g0 (hl0 0 avy atS h4) h6;have:=hl1 l₁ h3;subst this;have:=nw b h5;omega
   .rfl
  .intro i o h1;rcases gX i o h1 with⟨rfl,_⟩|⟨rfl,_⟩
   .exact(by decide:0<2)
   .exact(by decide:1<2)
  .intro i l₁ h;rcases i with _|_|i
   .exact(by decide:0<2)
   .exact(by decide:1<2)
   .have:=H.dM (i+2) l₁ h;have e:X.h.next=1:=by rw[hX]
    omega
  .intro i o l₁ b h1 h2 h3 h4;have h4:X.A b:=h4;rcases gX i o h1 with⟨rfl,rfl⟩|⟨rfl,rfl⟩
   .exact H.loc 0 _ l₁ b g0 (hl0 0 l₁ atS h2) h3 h4
   .have:=hl1 l₁ h2;subst this;have a:=nw b h3;have:=H.alt b h4;omega
 refine⟨X',[V'],rfl,rfl,rfl,hH,E,?_⟩;intro us hus;have hus:some [AV.hd 1 τ]=some us:=hus;cases hus;refine⟨V',[],rfl,⟨l',rfl,hc2,fun n q=>?_⟩,rfl⟩;have q:some L'.length=some n:=q;cases q;exact hV' _ (je g0')
variable{b:Bool}
theorem dc{R:Type}{x y:Option R}(h:b=true):br b x y=x:=by rw[h];rfl
theorem cE{R:Type}{x y:Option R}(h:b=false):br b x y=y:=by rw[h];rfl
theorem bH{R:Type}{x:Option R}(h:b=true):au b x=x:=by rw[h];rfl
theorem bS{R:Type}{x:Option α}{a:α}{k:α->Option R}(h:x=some a):az x k=k a:=by rw[h];rfl
theorem aR{R:Type}{x y z:Option R}(h:b=true)(e:x=z):br b x y=z:=(dc h).trans e
theorem ax{R:Type}{x y z:Option R}(h:b=false)(e:y=z):br b x y=z:=(cE h).trans e
theorem aS{R:Type}{x z:Option R}(h:b=true)(e:x=z):au b x=z:=(bH h).trans e
theorem aB{R:Type}{x:Option α}{a:α}{k:α->Option R}{z:Option R}(h:x=some a)(e:k a=z):az x k=z:=(bS h).trans e
theorem aU{i:Int}{n:Nat}(h:0<=i/\i<(n:Int)):aw i n=true:=by simp[aw,h.1,h.2]
theorem atT{i:Int}{n:Nat}(h:0<=i/\i<(n:Int):=by omega):aw i n=true:=aU h
theorem uE{n:Nat}(h:(2*n+192)*a<=281474976710656)(h2:n<=1099511627776):room a n=true:=by simp[room,both,h,h2]
theorem RK:bP false true b=b:=rfl
theorem qQ(h:b=false):Bool.not b=true:=by rw[h];rfl
theorem ED(h:b=true):Bool.not b=false:=by rw[h];rfl
variable{p:Prop}
theorem aD{i:Decidable p}(h:p):@decide p i=true:=dt h
theorem atW{i:Decidable p}(h:p:=by omega):@decide p i=true:=aD h
theorem aF{i:Decidable p}(h:¬p):@decide p i=false:=eY h
theorem atV{i:Decidable p}(h:¬p:=by omega):@decide p i=false:=aF h
theorem cH{x:Int}(h:-9223372036854775808<=x/\x<=9223372036854775807):qr x=x:=IntWalk.i64_in _ atO
theorem atX{x:Int}(h:-9223372036854775808<=x/\x<=9223372036854775807:=by omega):qr x=x:=cH h
theorem bI{σ:Sh}{L:List σ.T}{x:σ.T}(h:L[i]?=some x):gt σ L (i:Int)=x:=by
 unfold gt
 grind
theorem AY(f:Nat->D)(n:Nat){o:O}(hs:∀i,i<n->B (f i)=atY (f (i+1)))(he:B (f n)=atZ o):∀N,n<N->bp B N (f 0)=some o:=by
 have main:∀k i,i+k=n->∀N,k<N->bp B N (f i)=some o:=by
  intro k
  induction k with
  |zero=>
   intro i hi N hN;obtain⟨M,rfl⟩:∃M,N=M+1:=⟨N-1,atO⟩;have:i=n:=atO
   subst this;simp only[bp,he]
  |succ k ih=>
   intro i hi N hN;obtain⟨M,rfl⟩:∃M,N=M+1:=⟨N-1,atO⟩;simp only[bp,hs i atO]
   grind
 grind
theorem d9(f:Nat->D)(n:Nat){d:D}{o:O}(hd:d=f 0)(hs:∀i,i<n->B (f i)=atY (f (i+1)))(he:B (f n)=atZ o){N:Nat}(hN:n<N):bp B N d=some o:=by subst hd;exact AY f n hs he N hN
theorem lM{L:List α}{x:α}(h:L.length<=100000000)(ha:a<=1000):room a (List.length (L++(x::[])))=true:=by
 have h3:List.length (L++(x::[]))=L.length+1:=by grind
 have h2:(2*(L.length+1)+192)*a<=(2*(L.length+1)+192)*1000:=Nat.mul_le_mul_left _ ha;rw[h3];exact uE atO atO
theorem kp(I:D->Prop)(Q:O->Prop)(μ:D->Nat)(h:∀d,I d->(∃o,B d=atZ o/\Q o)\/∃d',B d=atY d'/\I d'/\μ d'<μ d):∀N d,I d->μ d<N->∃o,bp B N d=some o/\Q o:=by
 intro N
 induction N with
 |zero=>intro d _ h;omega|succ N ih=>
  intro d hI hN;rcases h d hI with⟨o,h1,h2⟩|⟨d',h1,h2,h3⟩
  .exact⟨o,by simp only[bp,h1],h2⟩
  .obtain⟨o,g1,g2⟩:=ih d' h2 atO;exact⟨o,by simp only[bp,h1];exact g1,g2⟩
theorem cp{n:Nat}(h:n<=1000000000000000000):n<NN:=by unfold NN;omega
theorem atU{n:Nat}(h:n<=1000000000000000000:=by omega):n<NN:=cp h
abbrev kO:Sh:=(.agg [(.sl .bool),.bool])
abbrev bk:Sh:=(.agg [(.int .u64),(.int .u64)])
abbrev ii:=List (Sh.T bk)
abbrev cF:Sh:=(.agg [.I,(.sl .I)])
abbrev ip:=List (Sh.T cF)
abbrev an:Sh:=(.agg [.bool,.I,.I])
abbrev eq:=List (Sh.T an)
abbrev af:Sh:=(.agg [.I,.I,.I])
abbrev bv:=List (Sh.T af)
abbrev bD:Sh:=(.agg [.I,(.sl .I),(.sl .I)])
abbrev io:=List (Sh.T bD)
abbrev oi:Sh:=(.agg [(.sl .bool),(.sl (.sl bk))])
abbrev Za2:Sh:=(.agg [.bool,.I,.I,(.sl .I),(.sl .I)])
abbrev nm:Sh:=(.agg [oi,(.sl (.sl .bool)),.I])
abbrev ah:Sh:=(.agg [.I,.I,.bool,(.sl cF),(.sl bD)])
abbrev ce:=List (Sh.T ah)
abbrev cA:Sh:=(.agg [.I,(.sl .I),(.sl af),(.sl .I),(.sl .I),(.sl .I),(.sl ah),(.sl af)])
abbrev fR:List LA:=[.I,.fz .I,.fz af,.fz .I,.fz .I,.fz .I,.fz ah,.fz af]
open Go.ChangeShapes Go.WideShapes Go.ChangeAt Go.Deep
def Of:Sh->TypeDesc->Bool
 |.bool,d=>match d with|.bool=>true|_=>false
 |.str,d=>match d with|.string=>true|_=>false
 |.int k,d=>match d with|.int k'=>Nat.beq (Ev.IntKind.num k) (Ev.IntKind.num k')|_=>false
 |_,_=>false
def Hs(P:Program)(f:TypeId->Sh->Bool):List Field->List Sh->Nat->Bool
 |[],l,_=>match l with|[]=>true|_=>false
 |x::fs,l,o=>match l with|[]=>false|s::l=>match Nat.beq x.offset o,Nat.beq (P.cellsOf x.type) s.size,f x.type s with|true,true,true=>Hs P f fs l (o+s.size)|_,_,_=>false
def wF(P:Program):Nat->TypeId->Sh->Bool
 |0,_,_=>false|k+1,t,σ=>match P.underlying t with
  |none=>false|some d=>match d with
   |.slice e=>match σ with
    |.sl s=>match Nat.blt 0 s.size,Nat.beq (P.cellsOf e) s.size with|true,true=>wF P k e s|_,_=>false
    |_=>false
   |.struct fs=>match σ with
    |.agg l=>match Nat.beq (P.cellsOf t) (uA l)with|true=>Hs P (wF P k) fs.toList l 0|false=>false
    |_=>false
   |d=>Of σ d
def ng{α:Type}(Q:α->Prop)(L:List α):Prop:=∀x∈L,Q x
mutual
def nG:(σ:Sh)->σ.T->Prop
 |.int k,n=>(Lit.int k n).wf=true|.bool,_=>True|.str,s=>ByteArray.size s<=maxLen|.agg l,d=>RG l d|.sl s,L=>List.length L<=maxLen/\ng (nG s) L
termination_by structural x=>x
def RG:(l:List Sh)->TL l->Prop
 |[],_=>True|s::l,d=>nG s d.1/\RG l d.2
termination_by structural x=>x
end
section
variable{H:Type}{enc:TypeId×Value->H}{P:Program}{W:World}
theorem Zyr{α:Type}{R:α->pi->Prop}:∀(l:List (α×pi)),(∀p∈l,R p.1 p.2)->bK R (l.map (·.1)) (l.flatMap (·.2))
 |[],_=>rfl|p::l,h=>⟨p.2,l.flatMap (·.2),by grind,h p atQ,Zyr l fun q hq=>h q (by simp[hq])⟩
theorem aaO{α:Type}{C:Nat}(hC:0<C):∀(l:List (α×pi)),(∀p∈l,p.2.length=C)->∀k,(l.flatMap (·.2))[k]?=l[k / C]?.bind fun x=>x.2[k % C]?
 |[],_,k=>by simp|p::l,h,k=>by
  have hp:=h p atQ;rw[AT];rcases arm k C with q|q
  .rw[Pi atO,Nat.div_eq_of_lt q,atJ q];rfl
  .rw[WF atO,aaO hC l (fun q hq=>h q (by simp[hq])),hp];have e1:k / C=(k-C) / C+1:=by rw[Nat.div_eq_sub_div hC q]
   have e2:(k-C) % C=k % C:=by rw[<-Nat.mod_eq_sub_mod q]
   rw[e1,e2];simp
theorem an5{a:Addr}{u:Value}(h:W.cell? (a.add 0)=some u):a.spot=none:=by
 have e:a.add 0=a:=by unfold Addr.add;simp
 rw[e]at h;unfold World.cell? at h;split at h
 .split at h
  .cases h
  simp_all
 .cases h
theorem aao{b o j:Nat}{u:Value}(h:W.cell? ((⟨b,o,none⟩:Addr).add j)=some u):∃c ty fr,W.heap[b]?=some (.cells c ty fr)/\c[o+j]?=some u:=by
 rw[Ev.ji]at h;unfold World.cell? at h
 grind
theorem Zz1{f:TypeId->Sh->Bool}{n:Nat}{cs:pi}(hf:∀t s,f t s=true->∀n cs y,DataW.trod enc P W 0 (fun _=>true) true n t cs=some y->∃d,Cs W (fun _=>False) s d cs/\nG s d) :
  ∀(fs:List Field) (l:List Sh) (o:Nat),Hs P f fs l o=true->o+uA l=cs.length->(∀(i:Nat) (g:Field),fs[i]?=some g->∃y,DataW.trod enc P W 0 (fun _=>true) true n g.type ((cs.drop g.offset).take (P.cellsOf g.type))=some y) ->
   ∃d,jh W (fun _=>False) l d (cs.drop o)/\RG l d
 |[],l,o,h,hl,_=>by cases l with|nil=>exact⟨(),by show cs.drop o=[];rw[aso];simp only[uA]at hl;omega,trivial⟩|cons s l=>cases h
 |x::fs,l,o,h,hl,hx=>by
  cases l with
  |nil=>cases h
  |cons s l=>
   simp only[Hs]at h;split at h<;>try cases h
   rename_i q1 q2 q3;have q1:=cB q1;have q2:=cB q2;obtain⟨y,hy⟩:=hx 0 x rfl;obtain⟨d,h1,h2⟩:=hf _ _ q3 _ _ _ hy;rw[uA]at hl;obtain⟨e,h3,h4⟩:=Zz1 hf fs l (o+s.size) h atO (fun i g hg=>hx (i+1) g (by grind));refine⟨(d,e),⟨(cs.drop o).take s.size,cs.drop (o+s.size),?_,?_,h3⟩,h2,h4⟩
   .rw[<-atx,LT]
   .rw[q1,q2]at h1;exact h1
theorem TK:∀(k:Nat) (t:TypeId) (σ:Sh),wF P k t σ=true->∀n cs y,DataW.trod enc P W 0 (fun _=>true) true n t cs=some y->∃d,Cs W (fun _=>False) σ d cs/\nG σ d
 |0,_,_,h=>by cases h
 |k+1,t,σ,h=>by
  intro n cs y hy;simp only[wF]at h;split at h
  .cases h
  rename_i d hu;split at h
  .rename_i e;split at h<;>try cases h
   rename_i s;split at h<;>try cases h
   rename_i q1 q2;rw[atA]at q1;have q2:=cB q2;rcases open_slice hu hy with⟨rfl,_⟩|⟨a,len,cap,m,n',D,Pl,rfl,_,hl,hm,hmm,_,hi⟩
   .exact⟨[],⟨none,0,0,rfl,rfl,rt _,fun q=>absurd rfl q⟩,GT _,fun x hx=>by cases hx⟩
   have hmm':m=cap:=by simpa using hmm
   subst hmm';obtain⟨l,hll,hp⟩:=aat (α:=s.T×pi) (p:=fun i x=>Cs W (fun _=>False) s x.1 x.2/\nG s x.1/\∀j,j<s.size->W.cell? (a.add (i*s.size+j))=x.2[j]?) len (fun i hi0=>by obtain⟨cs',h1,h2⟩:=hi i atO;obtain⟨x,hx1,hx2⟩:=TK k e s h _ _ _ h2;refine⟨(x,cs'),hx1,hx2,fun j hj=>?_⟩;rw[q2]at h1;obtain⟨_,_,hat⟩:=World.cells?_some h1;rw[<-Zuk,hat j hj]);have hlen:∀p∈l,p.2.length=s.size:=by intro p hpm;obtain⟨i,hi⟩:=Fr hpm;exact Cs.length (hp i p hi).1
   have hcell:∀j u,(l.flatMap (·.2))[j]?=some u->W.cell? (a.add j)=some u:=by
    intro j u hu;rw[aaO q1 l hlen]at hu;rcases hx:l[j / s.size]? with _|x
    .rw[hx]at hu;cases hu
    .rw[hx]at hu;have hu:x.2[j % s.size]?=some u:=hu;have:=(hp _ x hx).2.2 (j % s.size) (Nat.mod_lt _ q1);rw[Nat.div_add_mod' j s.size]at this;rw[this,hu]
   refine⟨l.map (·.1),⟨some a,len,m,rfl,by simp[hll],hl,fun hne=>?_⟩,by simpa[hll]using IS hl hm,?_⟩
   .have hflat:bK (Cs W (fun _=>False) s) (l.map (·.1)) (l.flatMap (·.2)):=Zyr l (fun p hpm=>by obtain⟨i,hi⟩:=Fr hpm;exact(hp i p hi).1);have hfl:(l.flatMap (·.2)).length=l.length*s.size:=by have:=bK.length (fun x c=>Cs.length) hflat;simpa using this
    have hl0:0<l.length:=by cases l with|nil=>exact absurd rfl hne|cons _ _=>simp
    have h0:0<(l.flatMap (·.2)).length:=by rw[hfl];exact Nat.mul_pos hl0 q1
    have hsp:=an5 (hcell 0 _ (ba h0));obtain⟨b,o,sp⟩:=a;have hsp:sp=none:=hsp;subst hsp;obtain⟨c,ty,fr,hc,_⟩:=aao (hcell 0 _ (ba h0));refine⟨b,o,l.flatMap (·.2),rfl,fun h=>h,hflat,c,ty,fr,hc,?_⟩;intro j u hu;obtain⟨c',ty',fr',hc',hj⟩:=aao (hcell j u hu);rw[hc]at hc';cases hc';exact hj
   .intro x hx;obtain⟨p,hpm,rfl⟩:=ro.1 hx;obtain⟨i,hi⟩:=Fr hpm;exact(hp i p hi).2.1
  .rename_i fs;split at h<;>try cases h
   rename_i l;split at h<;>try cases h
   rename_i q1;have q1:=cB q1;obtain⟨xs,n',rfl,_,hlen,hxl,hx⟩:=DataW.trod_struct hu hy;obtain⟨d,h1,h2⟩:=Zz1 (n:=n') (cs:=cs) (TK k) fs.toList l 0 h (by rw[hlen,q1];omega) (fun i g hg=>by grind);rw[List.drop_zero]at h1;exact⟨d,h1,h2⟩
  .unfold Of at h;split at h
   .split at h<;>try cases h
    obtain⟨b,rfl,_⟩:=DataW.trod_bool hu hy;exact⟨b,rfl,trivial⟩
   .split at h<;>try cases h
    obtain⟨s,rfl,_,hs⟩:=DataW.trod_string hu hy;exact⟨s,rfl,hs⟩
   .split at h<;>try cases h
    rename_i avt avu;have:=Ev.IntKind.xp (cB h);subst this;obtain⟨m,rfl,_,hw⟩:=DataW.trod_int hu hy;exact⟨m,rfl,hw⟩
   .cases h
theorem YP{k:Nat}{t:TypeId}{σ:Sh}{v:Value}{d:DataW H}{ps:List MemPlace}{r:Reach}{b0:Nat}(h:wF P k t σ=true)(hv:Value.okWide P W r b0 t v)(hd:DataW.Trod enc P W 0 (fun _=>true) true t v d ps) :
  ∃x,iz W (fun _=>False) σ x v/\nG σ x:=by
 obtain⟨fuel,hf⟩:=hd;obtain⟨x,h1,h2⟩:=TK k t σ h _ _ _ hf;refine⟨x,⟨h1,?_⟩,h2⟩;cases k with
 |zero=>cases h
 |succ k=>
  simp only[wF]at h;split at h
  .cases h
  rename_i d' hu;split at h
  .split at h<;>try cases h
   obtain⟨a,l,c,rfl⟩:=okWide_slice hu hv;rfl
  .split at h<;>try cases h
   obtain⟨cs,rfl,_⟩:=okWide_struct hu hv;rfl
  .unfold Of at h;split at h
   .split at h<;>try cases h
    obtain⟨b,rfl⟩:=okWide_bool hu hv;rfl
   .split at h<;>try cases h
    obtain⟨b,rfl⟩:=okWide_string hu hv;rfl
   .split at h<;>try cases h
    obtain⟨b,rfl⟩:=okWide_int hu hv;rfl
   .cases h
