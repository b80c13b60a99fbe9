import Derived.Test.YtjflbmpepamfjaaGreatKSa
set_option linter.all false
section
namespace Go.Proofs.YtjflbmpepamfjaaGreat.V
open Go Go.RowKit
theorem MV{D O:Type}{B:D->Option (D⊕O)}(f:Nat->D)(p:Nat->Bool){bad good:O}(n:Nat)(hs:∀i,i<n->p i=true->B (f i)=aGt (f (i+1)))(hf:∀i,i<n->p i=false->B (f i)=aGu bad)
  (he:B (f n)=aGu good) {d:D}(hd:d=f 0) {N:Nat}(hN:n<N):bu B N d=some (match(List.range n).all p with|true=>good|false=>bad):=by
 subst hd;have hall:((List.range n).all p=true↔∀i,i<n->p i=true):=by simp[aEY]
 have main:∀k i,i+k=n->(∀j,j<i->p j=true)->∀N,k<N->bu B N (f i)=some (match(List.range n).all p with|true=>good|false=>bad):=by
  intro k
  induction k with
  |zero=>
   intro i hi hp N hN;have:i=n:=aGl
   subst this;obtain⟨N,rfl⟩:∃M,N=M+1:=⟨N-1,aGl⟩;rw[hall.2 hp];simp only[bu,he]
  |succ k ih=>
   intro i hi hp N hN;obtain⟨N,rfl⟩:∃M,N=M+1:=⟨N-1,aGl⟩;cases hq:p i with
   |true=>
    simp only[bu,hs i aGl hq]
    grind
   |false=>
    have hz:(List.range n).all p=false:=by grind
    simp only[bu,hf i aGl hq,hz]
 grind
def nx{α:Type}(d:bD.T)(r:α):Int×io×List ag.T×io×io×io×List aj.T×List ag.T×α:=(d.1,d.2.1,d.2.2.1,d.2.2.2.1,d.2.2.2.2.1,d.2.2.2.2.2.1,d.2.2.2.2.2.2.1,d.2.2.2.2.2.2.2.1,r)
def zS(R:List bW.T)(i:Int):Nat:=List.length (gt bW R i).2.1
def rP(R:List bW.T)(i:Int):Int:=(gt bW R i).1
def ry(R:List bW.T)(i:Nat):Bool:=decide (zS R (i:Int)<=100)&&decide (rP R (i:Int)<=1099511627776)&&decide (-1099511627776<=rP R (i:Int))
def Ae(R:List bA.T)(i:Int):Nat:=List.length (gt bA R i).2.1
def z7(R:List bA.T)(i:Int):Nat:=List.length (gt bA R i).2.2.1
def rz(R:List bA.T)(i:Nat):Bool:=decide (Ae R (i:Int)<=100)&&decide (z7 R (i:Int)<=100)
theorem Wm(d:bD.T)(t a w:Int)(y:Bool)(R:List bW.T)(W:List bA.T)(hR:R.length<=100000) :
  Md (t,(0:Int),nx d (a,w,y,R,W,()))=some (match(List.range R.length).all (ry R)with|true=>.inr (t,nx d (a,w,y,R,W,()))|false=>.inl (false,())):=by
 unfold Md;delta iO u3 eJ fe;refine MV (fun i:Nat=>(t,(i:Int),nx d (a,w,y,R,W,()))) (ry R) R.length ?_ ?_ ?_ rfl aGp
 .intro i hi hp;unfold ry at hp;simp only[aFf,In]at hp;obtain⟨⟨h1,h2⟩,h3⟩:=hp;have aU:ar (i:Int) R.length=true:=aGq;unfold nx
  try dsimp only
  unfold xH;have e:∀p q:Int,p=q->(aGt (t,p,nx d (a,w,y,R,W,())):am CO CL)=aGt (t,q,nx d (a,w,y,R,W,())):=by rintro _ _ rfl;rfl
  exact aD (aA (show(i:Int)<(R.length:Int) by omega)) (au aU (aw (ax (show ¬(100:Int)<((zS R (i:Int):Nat):Int) by omega)) (au aU (aw (ax (show ¬(1099511627776:Int)<rP R (i:Int) by omega)) (au aU (aw (ax (show ¬rP R (i:Int)<Int.negSucc 1099511627775 by omega)) (e _ _ (cT (x:=(i:Int)+1) aGl))))))))
 .intro i hi hp;have aU:ar (i:Int) R.length=true:=aGq;unfold nx
  try dsimp only
  unfold xH;refine aD (aA (show(i:Int)<(R.length:Int) by omega)) (au aU ?_);by_cases h1:(100:Int)<((zS R (i:Int):Nat):Int)
  .exact aD (aA h1) rfl
  refine aw (ax h1) (au aU ?_);by_cases h2:(1099511627776:Int)<rP R (i:Int)
  .exact aD (aA h2) rfl
  refine aw (ax h2) (au aU ?_);by_cases h3:rP R (i:Int)<Int.negSucc 1099511627775
  .exact aD (aA h3) rfl
  unfold ry at hp
  grind
 .unfold nx
  try dsimp only
  unfold xH;exact aw (ax (show ¬(R.length:Int)<(R.length:Int) by omega)) rfl
theorem Wl(d:bD.T)(t a w:Int)(y:Bool)(R:List bW.T)(W:List bA.T)(hW:W.length<=100000) :
  Mc (t,(0:Int),nx d (a,w,y,R,W,()))=some (match(List.range W.length).all (rz W)with|true=>.inr (t,nx d ())|false=>.inl (false,())):=by
 unfold Mc;delta iO u3 eJ fe;refine MV (fun i:Nat=>(t,(i:Int),nx d (a,w,y,R,W,()))) (rz W) W.length ?_ ?_ ?_ rfl aGp
 .intro i hi hp;unfold rz at hp;simp only[aFf,In]at hp;obtain⟨h1,h2⟩:=hp;have aU:ar (i:Int) W.length=true:=aGq;unfold nx
  try dsimp only
  unfold xG;have e:∀p q:Int,p=q->(aGt (t,p,nx d (a,w,y,R,W,())):am CN CK)=aGt (t,q,nx d (a,w,y,R,W,())):=by intros;subst_vars;rfl
  exact aD (aA (show(i:Int)<(W.length:Int) by omega)) (au aU (aw (ax (show ¬(100:Int)<((Ae W (i:Int):Nat):Int) by omega)) (au aU (aw (ax (show ¬(100:Int)<((z7 W (i:Int):Nat):Int) by omega)) (e _ _ (cT (x:=(i:Int)+1) aGl))))))
 .intro i hi hp;have aU:ar (i:Int) W.length=true:=aGq;unfold nx
  try dsimp only
  unfold xG;refine aD (aA (show(i:Int)<(W.length:Int) by omega)) (au aU ?_);by_cases h1:(100:Int)<((Ae W (i:Int):Nat):Int)
  .exact aD (aA h1) rfl
  refine aw (ax h1) (au aU ?_);by_cases h2:(100:Int)<((z7 W (i:Int):Nat):Int)
  .exact aD (aA h2) rfl
  unfold rz at hp
  grind
 .unfold nx
  try dsimp only
  unfold xG;exact aw (ax (show ¬(W.length:Int)<(W.length:Int) by omega)) rfl
def mE(T:List aj.T)(i:Int):List bW.T:=(gt aj T i).2.2.2.1
def mF(T:List aj.T)(i:Int):List bA.T:=(gt aj T i).2.2.2.2.1
def qk(T:List aj.T)(i:Int):Int:=(gt aj T i).2.1
def p4(T:List aj.T)(i:Nat):Bool:=decide ((mE T (i:Int)).length<=6)&&decide ((mF T (i:Int)).length<=6)&&decide (qk T (i:Int)<=100) &&
 (List.range (mE T (i:Int)).length).all (ry (mE T (i:Int)))&&(List.range (mF T (i:Int)).length).all (rz (mF T (i:Int)))
theorem ahC(d:bD.T)(hT:d.2.2.2.2.2.2.1.length<=100000) :
  QA ((0:Int),nx d ())=some (match(List.range d.2.2.2.2.2.2.1.length).all (p4 d.2.2.2.2.2.2.1)with|true=>.inr ()|false=>.inl (false,())):=by
 unfold QA;delta u9;refine MV (fun i:Nat=>((i:Int),nx d ())) (p4 d.2.2.2.2.2.2.1) d.2.2.2.2.2.2.1.length ?_ ?_ ?_ rfl aGp
 .intro i hi hp;unfold p4 at hp;simp only[aFf,In]at hp;obtain⟨⟨⟨⟨h1,h2⟩,h3⟩,h4⟩,h5⟩:=hp;have aU:ar (i:Int) (List.length d.2.2.2.2.2.2.1)=true:=aGq;have e10:=Wm d (i:Int) (gt aj d.2.2.2.2.2.2.1 (i:Int)).1 (qk d.2.2.2.2.2.2.1 (i:Int)) (gt aj d.2.2.2.2.2.2.1 (i:Int)).2.2.1 (mE d.2.2.2.2.2.2.1 (i:Int)) (mF d.2.2.2.2.2.2.1 (i:Int)) aGl;have e15:=Wl d (i:Int) (gt aj d.2.2.2.2.2.2.1 (i:Int)).1 (qk d.2.2.2.2.2.2.1 (i:Int)) (gt aj d.2.2.2.2.2.2.1 (i:Int)).2.2.1 (mE d.2.2.2.2.2.2.1 (i:Int)) (mF d.2.2.2.2.2.2.1 (i:Int)) aGl;rw[h4]at e10;rw[h5]at e15;unfold nx at e10 e15 |-
  try dsimp only
  unfold xI;have e:∀p q:Int,p=q->(aGt (p,nx d ()):am C0 CW)=aGt (q,nx d ()):=by rintro _ _ rfl;rfl
  exact aD (aA (show(i:Int)<(d.2.2.2.2.2.2.1.length:Int) by omega)) (au aU (aw (ax (show ¬(6:Int)<(((mE d.2.2.2.2.2.2.1 (i:Int)).length:Nat):Int) by omega)) (aw (ax (show ¬(6:Int)<(((mF d.2.2.2.2.2.2.1 (i:Int)).length:Nat):Int) by omega)) (aw (ax (show ¬(100:Int)<qk d.2.2.2.2.2.2.1 (i:Int) by omega)) ((cM e10).trans ((cM e15).trans (e _ _ (cT (x:=(i:Int)+1) aGl))))))))
 .intro i hi hp;have aU:ar (i:Int) (List.length d.2.2.2.2.2.2.1)=true:=aGq;unfold nx
  try dsimp only
  unfold xI;refine aD (aA (show(i:Int)<(d.2.2.2.2.2.2.1.length:Int) by omega)) (au aU ?_);by_cases h1:(6:Int)<(((mE d.2.2.2.2.2.2.1 (i:Int)).length:Nat):Int)
  .exact aD (aA h1) rfl
  refine aw (ax h1) ?_;by_cases h2:(6:Int)<(((mF d.2.2.2.2.2.2.1 (i:Int)).length:Nat):Int)
  .exact aD (aA h2) rfl
  refine aw (ax h2) ?_;by_cases h3:(100:Int)<qk d.2.2.2.2.2.2.1 (i:Int)
  .exact aD (aA h3) rfl
  refine aw (ax h3) ?_;have e10:=Wm d (i:Int) (gt aj d.2.2.2.2.2.2.1 (i:Int)).1 (qk d.2.2.2.2.2.2.1 (i:Int)) (gt aj d.2.2.2.2.2.2.1 (i:Int)).2.2.1 (mE d.2.2.2.2.2.2.1 (i:Int)) (mF d.2.2.2.2.2.2.1 (i:Int)) aGl;have e15:=Wl d (i:Int) (gt aj d.2.2.2.2.2.2.1 (i:Int)).1 (qk d.2.2.2.2.2.2.1 (i:Int)) (gt aj d.2.2.2.2.2.2.1 (i:Int)).2.2.1 (mE d.2.2.2.2.2.2.1 (i:Int)) (mF d.2.2.2.2.2.2.1 (i:Int)) aGl;refine(cM e10).trans ?_;cases h4:(List.range (mE d.2.2.2.2.2.2.1 (i:Int)).length).all (ry (mE d.2.2.2.2.2.2.1 (i:Int)))with
  |false=>rfl|true=>
   refine(cM e15).trans ?_;cases h5:(List.range (mF d.2.2.2.2.2.2.1 (i:Int)).length).all (rz (mF d.2.2.2.2.2.2.1 (i:Int)))with
   |false=>rfl|true=>
    unfold p4 at hp
    grind
 .unfold nx
  try dsimp only
  unfold xI;exact aw (ax (show ¬(d.2.2.2.2.2.2.1.length:Int)<(d.2.2.2.2.2.2.1.length:Int) by omega)) rfl
def sZ(d:bD.T):Prop:=List.length d.2.1<=2100/\List.length d.2.2.1<=2100/\List.length d.2.2.2.2.2.2.2.1<=2100/\List.length d.2.2.2.1<=1100/\List.length d.2.2.2.2.1<=1100/\List.length d.2.2.2.2.2.1<=1100/\List.length d.2.2.2.2.2.2.1<=6 /\
 (List.range d.2.2.2.2.2.2.1.length).all (p4 d.2.2.2.2.2.2.1)=true
theorem aso(d:bD.T):∃b,Mo (d,())=some (b,())/\(b=true->sZ d):=by
 have key:∀{b:Bool},(b=true->sZ d)->Mo (d,())=some (b,())->∃b,Mo (d,())=some (b,())/\(b=true->sZ d):=fun h e=>⟨_,e,h⟩;by_cases h1:(2100:Int)<((List.length d.2.1:Nat):Int)
 .exact key (fun h=>by cases h) (aD (aA h1) rfl)
 by_cases h2:(2100:Int)<((List.length d.2.2.1:Nat):Int)
 .exact key (fun h=>by cases h) (aw (ax h1) (aD (aA h2) rfl))
 by_cases h3:(2100:Int)<((List.length d.2.2.2.2.2.2.2.1:Nat):Int)
 .exact key (fun h=>by cases h) (aw (ax h1) (aw (ax h2) (aD (aA h3) rfl)))
 by_cases h4:(1100:Int)<((List.length d.2.2.2.1:Nat):Int)
 .exact key (fun h=>by cases h) (aw (ax h1) (aw (ax h2) (aw (ax h3) (aD (aA h4) rfl))))
 by_cases h5:(1100:Int)<((List.length d.2.2.2.2.1:Nat):Int)
 .exact key (fun h=>by cases h) (aw (ax h1) (aw (ax h2) (aw (ax h3) (aw (ax h4) (aD (aA h5) rfl)))))
 by_cases h6:(1100:Int)<((List.length d.2.2.2.2.2.1:Nat):Int)
 .exact key (fun h=>by cases h) (aw (ax h1) (aw (ax h2) (aw (ax h3) (aw (ax h4) (aw (ax h5) (aD (aA h6) rfl))))))
 by_cases h7:(6:Int)<((List.length d.2.2.2.2.2.2.1:Nat):Int)
 .exact key (fun h=>by cases h) (aw (ax h1) (aw (ax h2) (aw (ax h3) (aw (ax h4) (aw (ax h5) (aw (ax h6) (aD (aA h7) rfl)))))))
 have e4:=ahC d aGl;cases h8:(List.range d.2.2.2.2.2.2.1.length).all (p4 d.2.2.2.2.2.2.1)with
 |false=>rw[h8]at e4;exact key (fun h=>by cases h) (aw (ax h1) (aw (ax h2) (aw (ax h3) (aw (ax h4) (aw (ax h5) (aw (ax h6) (aw (ax h7) (aT e4 rfl))))))))
 |true=>rw[h8]at e4;exact key (fun _=>⟨aGl,aGl,aGl,aGl,aGl,aGl,aGl,h8⟩) (aw (ax h1) (aw (ax h2) (aw (ax h3) (aw (ax h4) (aw (ax h5) (aw (ax h6) (aw (ax h7) (aT e4 rfl))))))))
theorem asn(d:bD.T):∃b,Zcw (d,())=some (b,())/\(b=true->sZ d):=by
 obtain⟨b,e,h⟩:=aso d;cases b with
 |false=>exact⟨false,aT e rfl,fun q=>by cases q⟩
 |true=>
  by_cases h1:((List.length d.2.2.2.2.2.2.2.1:Nat):Int)<=100
  .by_cases h2:((List.length d.2.1:Nat):Int)<=100
   .by_cases h3:((List.length d.2.2.1:Nat):Int)<=100
    .exact⟨_,aT e (aD rfl (aD (aA h1) (aD (aA h2) (aD (aA h3) rfl)))),fun _=>h rfl⟩
    .exact⟨false,aT e (aD rfl (aD (aA h1) (aD (aA h2) (aw (ax h3) rfl)))),fun q=>by cases q⟩
   .exact⟨false,aT e (aD rfl (aD (aA h1) (aw (ax h2) rfl))),fun q=>by cases q⟩
  .exact⟨false,aT e (aD rfl (aw (ax h1) rfl)),fun q=>by cases q⟩
theorem wf_i64{n:Int}(h:(Lit.int .i64 n).wf=true):cE n:=by
 simp only[Lit.wf,aFf,In]at h;have h1:IntKind.i64.min = -9223372036854775808:=aGo
 have h2:IntKind.i64.max=9223372036854775807:=aGo
 rw[h1,h2]at h;exact h
theorem ta{L:io}(h:jO (.sl .I) L):∀x∈L,cE x:=fun x hx=>wf_i64 (h.2 x hx)
theorem vY{α β:Type}(f:α->β)(L:List α){n k:Nat}(h:L.length<=n)(hk:n<=k):(L.map f).length<=k:=by rw[aR];omega
theorem af7{m:aj.T}(h:jO aj m)(hr:List.length m.2.2.2.1<=6)(hw:List.length m.2.2.2.2.1<=6)(hword:@LE.le Int _ m.2.1 100)
  (Ey:kX (α:=bW.T) (fun r=>List.length r.2.1<=100/\@LE.le Int _ r.1 1099511627776/\@LE.le Int _ (-1099511627776) r.1) m.2.2.2.1) (Ez:kX (α:=bA.T) (fun r=>List.length r.2.1<=100/\List.length r.2.2.1<=100) m.2.2.2.2.1):qt (oi m):=by
 obtain⟨a1,a2,a3,a4,a5,_⟩:=h;refine⟨⟨wf_i64 a2,Int.le_trans hword aGo⟩,wf_i64 a1,?_,?_,?_,?_⟩
 .exact vY rQ _ hr aGo
 .exact vY s9 _ hw aGo
 .intro r hr;obtain⟨r',hr',rfl⟩:=IN.1 hr;obtain⟨b1,b2,b3⟩:=Ey r' hr';have hk:=a4.2 r' hr';exact⟨rt b1 aGo,b3,b2,ta hk.2.1⟩
 .intro r hr;obtain⟨r',hr',rfl⟩:=IN.1 hr;obtain⟨b1,b2⟩:=Ez r' hr';have hk:=a5.2 r' hr';exact⟨rt b1 aGo,rt b2 aGo,wf_i64 hk.1,ta hk.2.1,ta hk.2.2.1⟩
theorem Im{α:Type}{σ:Sh}{L:List σ.T}{p:Nat->Bool}{Q:σ.T->Prop}(h:(List.range L.length).all p=true)(hq:∀i x,L[i]?=some x->p i=true->Q x):kX Q L:=by
 have h':∀i,i<L.length->p i=true:=by simpa[aEY]using h
 intro x hx;obtain⟨i,hi⟩:=aFd hx;exact hq i x hi (h' i (avz hi))
theorem ahj{d:bD.T}(h:jO bD d)(hl:sZ d):Fit (kI d):=by
 obtain⟨a1,a2,a3,a4,a5,a6,a7,a8,_⟩:=h;obtain⟨b1,b2,b3,b4,b5,b6,b7,b8⟩:=hl;have lat3:kX (α:=ag.T) (fun x=>cE x.1/\cE x.2.1/\cE x.2.2.1) d.2.2.1:=fun x hx=>by have:=a3.2 x hx;exact⟨wf_i64 this.1,wf_i64 this.2.1,wf_i64 this.2.2.1⟩
 have and3:kX (α:=ag.T) (fun x=>cE x.1/\cE x.2.1/\cE x.2.2.1) d.2.2.2.2.2.2.2.1:=fun x hx=>by have:=a8.2 x hx;exact⟨wf_i64 this.1,wf_i64 this.2.1,wf_i64 this.2.2.1⟩
 refine⟨wf_i64 a1,⟨rt b1 aGo,ta a2⟩,⟨?_,?_⟩,⟨rt b4 aGo,ta a4⟩,⟨rt b5 aGo,ta a5⟩,⟨rt b6 aGo,ta a6⟩,⟨?_,?_⟩,⟨?_,?_⟩⟩
 .exact vY mh _ b2 aGo
 .intro l hl;obtain⟨x,hx,rfl⟩:=IN.1 hl;exact lat3 x hx
 .exact vY oi _ b7 aGo
 .intro m hm;obtain⟨x,hx,rfl⟩:=IN.1 hm;have hQ:=Im (α:=Unit) (σ:=aj) (Q:=fun x=>List.length x.2.2.2.1<=6/\List.length x.2.2.2.2.1<=6/\@LE.le Int _ x.2.1 100/\(List.range (List.length x.2.2.2.1)).all (ry x.2.2.2.1)=true/\(List.range (List.length x.2.2.2.2.1)).all (rz x.2.2.2.2.1)=true) b8 (fun i x hi hp=>by unfold p4 mE mF qk at hp;rw[bP (σ:=aj) hi]at hp;simp only[aFf,In]at hp;exact⟨hp.1.1.1.1,hp.1.1.1.2,hp.1.1.2,hp.1.2,hp.2⟩) x hx;obtain⟨c1,c2,c3,c4,c5⟩:=hQ;refine af7 (a7.2 x hx) c1 c2 c3 ?_ ?_
  .exact Im (α:=Unit) (σ:=bW) c4 (fun i r hi hp=>by unfold ry zS rP at hp;rw[bP (σ:=bW) hi]at hp;simp only[aFf,In]at hp;exact⟨hp.1.1,hp.1.2,hp.2⟩)
  .exact Im (α:=Unit) (σ:=bA) c5 (fun i r hi hp=>by unfold rz Ae z7 at hp;rw[bP (σ:=bA) hi]at hp;simp only[aFf,In]at hp;exact hp)
 .exact vY n9 _ b3 aGo
 .intro l hl;obtain⟨x,hx,rfl⟩:=IN.1 hl;exact and3 x hx
