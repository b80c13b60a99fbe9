import Derived.Test.YtmkbdfidnfmgmaaGreatKSa
import Derived.Test.YtmkbdfidnfmgmaaGreatKNe
set_option linter.all false
section
namespace Go.Proofs.YtmkbdfidnfmgmaaGreat.V
open Go Go.RowKit
theorem TB{D O:Type}{B:D->Option (D⊕O)}(f:Nat->D)(p:Nat->Bool){fe good:O}(n:Nat)(hs:∀i,i<n->p i=true->B (f i)=aul (f (i+1)))(hf:∀i,i<n->p i=false->B (f i)=aum fe)
  (he:B (f n)=aum good) {d:D}(hd:d=f 0) {N:Nat}(hN:n<N):bj B N d=some (match(List.range n).all p with|true=>good|false=>fe):=by
 subst hd;have hall:((List.range n).all p=true↔∀i,i<n->p i=true):=by simp[acl]
 have main:∀k i,i+k=n->(∀j,j<i->p j=true)->∀N,k<N->bj B N (f i)=some (match(List.range n).all p with|true=>good|false=>fe):=by
  intro k
  induction k with
  |zero=>
   intro i hi hp N hN;have:i=n:=auc
   subst this;obtain⟨N,rfl⟩:∃M,N=M+1:=⟨N-1,auc⟩;rw[hall.2 hp];simp only[bj,he]
  |succ k ih=>
   intro i hi hp N hN;obtain⟨N,rfl⟩:∃M,N=M+1:=⟨N-1,auc⟩;cases hq:p i with
   |true=>
    simp only[bj,hs i auc hq]
    grind
   |false=>
    have hz:(List.range n).all p=false:=by grind
    simp only[bj,hf i auc hq,hz]
 grind
theorem apk{α:Type}{l:List α}{i:Nat}{x:α}(h:l[i]?=some x):i<l.length:=by grind
def nx{α:Type}(d:cJ.T)(r:α):Int×jp×List ae.T×jp×jp×jp×List ai.T×List ae.T×α:=(d.1,d.2.1,d.2.2.1,d.2.2.2.1,d.2.2.2.2.1,d.2.2.2.2.2.1,d.2.2.2.2.2.2.1,d.2.2.2.2.2.2.2.1,r)
def xC(R:List bO.T)(i:Int):Nat:=List.length (gt bO R i).2.1
def pP(R:List bO.T)(i:Int):Int:=(gt bO R i).1
def se(R:List bO.T)(i:Nat):Bool:=decide (xC R (i:Int)<=100)&&decide (pP R (i:Int)<=1099511627776)&&decide (-1099511627776<=pP R (i:Int))
def xJ(R:List bu.T)(i:Int):Nat:=List.length (gt bu R i).2.1
def xI(R:List bu.T)(i:Int):Nat:=List.length (gt bu R i).2.2.1
def sf(R:List bu.T)(i:Nat):Bool:=decide (xJ R (i:Int)<=100)&&decide (xI R (i:Int)<=100)
theorem adU(d:cJ.T)(t a w:Int)(y:Bool)(R:List bO.T)(W:List bu.T)(hR:R.length<=100000) :
  SP (t,(0:Int),nx d (a,w,y,R,W,()))=some (match(List.range R.length).all (se R)with|true=>.inr (t,nx d (a,w,y,R,W,()))|false=>.inl (false,())):=by
 unfold SP;delta fW u3 bV cy;refine TB (fun i:Nat=>(t,(i:Int),nx d (a,w,y,R,W,()))) (se R) R.length ?_ ?_ ?_ rfl auh
 .intro i hi hp;unfold se at hp;simp only[asp,IS]at hp;obtain⟨⟨h1,h2⟩,h3⟩:=hp;have aS:an (i:Int) R.length=true:=aug;unfold nx
  try dsimp only
  unfold yM;have e:∀p q:Int,p=q->(aul (t,p,nx d (a,w,y,R,W,())):am IB Iy)=aul (t,q,nx d (a,w,y,R,W,())):=by rintro _ _ rfl;rfl
  exact ba (aF (show(i:Int)<(R.length:Int) by omega)) (aK aS (aN (aJ (show ¬(100:Int)<((xC R (i:Int):Nat):Int) by omega)) (aK aS (aN (aJ (show ¬(1099511627776:Int)<pP R (i:Int) by omega)) (aK aS (aN (aJ (show ¬pP R (i:Int)<Int.negSucc 1099511627775 by omega)) (e _ _ (bP (x:=(i:Int)+1) auc))))))))
 .intro i hi hp;have aS:an (i:Int) R.length=true:=aug;unfold nx
  try dsimp only
  unfold yM;refine ba (aF (show(i:Int)<(R.length:Int) by omega)) (aK aS ?_);by_cases h1:(100:Int)<((xC R (i:Int):Nat):Int)
  .exact ba (aF h1) rfl
  refine aN (aJ h1) (aK aS ?_);by_cases h2:(1099511627776:Int)<pP R (i:Int)
  .exact ba (aF h2) rfl
  refine aN (aJ h2) (aK aS ?_);by_cases h3:pP R (i:Int)<Int.negSucc 1099511627775
  .exact ba (aF h3) rfl
  unfold se at hp
  grind
 .unfold nx
  try dsimp only
  unfold yM;exact aN (aJ (show ¬(R.length:Int)<(R.length:Int) by omega)) rfl
theorem adT(d:cJ.T)(t a w:Int)(y:Bool)(R:List bO.T)(W:List bu.T)(hW:W.length<=100000) :
  SO (t,(0:Int),nx d (a,w,y,R,W,()))=some (match(List.range W.length).all (sf W)with|true=>.inr (t,nx d ())|false=>.inl (false,())):=by
 unfold SO;delta fW u3 bV cy;refine TB (fun i:Nat=>(t,(i:Int),nx d (a,w,y,R,W,()))) (sf W) W.length ?_ ?_ ?_ rfl auh
 .intro i hi hp;unfold sf at hp;simp only[asp,IS]at hp;obtain⟨h1,h2⟩:=hp;have aS:an (i:Int) W.length=true:=aug;unfold nx
  try dsimp only
  unfold yL;have e:∀p q:Int,p=q->(aul (t,p,nx d (a,w,y,R,W,())):am IA Ix)=aul (t,q,nx d (a,w,y,R,W,())):=by intros;subst_vars;rfl
  exact ba (aF (show(i:Int)<(W.length:Int) by omega)) (aK aS (aN (aJ (show ¬(100:Int)<((xJ W (i:Int):Nat):Int) by omega)) (aK aS (aN (aJ (show ¬(100:Int)<((xI W (i:Int):Nat):Int) by omega)) (e _ _ (bP (x:=(i:Int)+1) auc))))))
 .intro i hi hp;have aS:an (i:Int) W.length=true:=aug;unfold nx
  try dsimp only
  unfold yL;refine ba (aF (show(i:Int)<(W.length:Int) by omega)) (aK aS ?_);by_cases h1:(100:Int)<((xJ W (i:Int):Nat):Int)
  .exact ba (aF h1) rfl
  refine aN (aJ h1) (aK aS ?_);by_cases h2:(100:Int)<((xI W (i:Int):Nat):Int)
  .exact ba (aF h2) rfl
  unfold sf at hp
  grind
 .unfold nx
  try dsimp only
  unfold yL;exact aN (aJ (show ¬(W.length:Int)<(W.length:Int) by omega)) rfl
def mA(T:List ai.T)(i:Int):List bO.T:=(gt ai T i).2.2.2.1
def mB(T:List ai.T)(i:Int):List bu.T:=(gt ai T i).2.2.2.2.1
def pK(T:List ai.T)(i:Int):Int:=(gt ai T i).2.1
def p4(T:List ai.T)(i:Nat):Bool:=decide ((mA T (i:Int)).length<=6)&&decide ((mB T (i:Int)).length<=6)&&decide (pK T (i:Int)<=100) &&
 (List.range (mA T (i:Int)).length).all (se (mA T (i:Int)))&&(List.range (mB T (i:Int)).length).all (sf (mB T (i:Int)))
theorem anp(d:cJ.T)(hT:d.2.2.2.2.2.2.1.length<=100000) :
  Zen ((0:Int),nx d ())=some (match(List.range d.2.2.2.2.2.2.1.length).all (p4 d.2.2.2.2.2.2.1)with|true=>.inr ()|false=>.inl (false,())):=by
 unfold Zen;delta u9;refine TB (fun i:Nat=>((i:Int),nx d ())) (p4 d.2.2.2.2.2.2.1) d.2.2.2.2.2.2.1.length ?_ ?_ ?_ rfl auh
 .intro i hi hp;unfold p4 at hp;simp only[asp,IS]at hp;obtain⟨⟨⟨⟨h1,h2⟩,h3⟩,h4⟩,h5⟩:=hp;have aS:an (i:Int) (List.length d.2.2.2.2.2.2.1)=true:=aug;have e10:=adU d (i:Int) (gt ai d.2.2.2.2.2.2.1 (i:Int)).1 (pK d.2.2.2.2.2.2.1 (i:Int)) (gt ai d.2.2.2.2.2.2.1 (i:Int)).2.2.1 (mA d.2.2.2.2.2.2.1 (i:Int)) (mB d.2.2.2.2.2.2.1 (i:Int)) auc;have e15:=adT d (i:Int) (gt ai d.2.2.2.2.2.2.1 (i:Int)).1 (pK d.2.2.2.2.2.2.1 (i:Int)) (gt ai d.2.2.2.2.2.2.1 (i:Int)).2.2.1 (mA d.2.2.2.2.2.2.1 (i:Int)) (mB d.2.2.2.2.2.2.1 (i:Int)) auc;rw[h4]at e10;rw[h5]at e15;unfold nx at e10 e15 |-
  try dsimp only
  unfold yN;have e:∀p q:Int,p=q->(aul (p,nx d ()):am IU IL)=aul (q,nx d ()):=by rintro _ _ rfl;rfl
  exact ba (aF (show(i:Int)<(d.2.2.2.2.2.2.1.length:Int) by omega)) (aK aS (aN (aJ (show ¬(6:Int)<(((mA d.2.2.2.2.2.2.1 (i:Int)).length:Nat):Int) by omega)) (aN (aJ (show ¬(6:Int)<(((mB d.2.2.2.2.2.2.1 (i:Int)).length:Nat):Int) by omega)) (aN (aJ (show ¬(100:Int)<pK d.2.2.2.2.2.2.1 (i:Int) by omega)) ((bg e10).trans ((bg e15).trans (e _ _ (bP (x:=(i:Int)+1) auc))))))))
 .intro i hi hp;have aS:an (i:Int) (List.length d.2.2.2.2.2.2.1)=true:=aug;unfold nx
  try dsimp only
  unfold yN;refine ba (aF (show(i:Int)<(d.2.2.2.2.2.2.1.length:Int) by omega)) (aK aS ?_);by_cases h1:(6:Int)<(((mA d.2.2.2.2.2.2.1 (i:Int)).length:Nat):Int)
  .exact ba (aF h1) rfl
  refine aN (aJ h1) ?_;by_cases h2:(6:Int)<(((mB d.2.2.2.2.2.2.1 (i:Int)).length:Nat):Int)
  .exact ba (aF h2) rfl
  refine aN (aJ h2) ?_;by_cases h3:(100:Int)<pK d.2.2.2.2.2.2.1 (i:Int)
  .exact ba (aF h3) rfl
  refine aN (aJ h3) ?_;have e10:=adU d (i:Int) (gt ai d.2.2.2.2.2.2.1 (i:Int)).1 (pK d.2.2.2.2.2.2.1 (i:Int)) (gt ai d.2.2.2.2.2.2.1 (i:Int)).2.2.1 (mA d.2.2.2.2.2.2.1 (i:Int)) (mB d.2.2.2.2.2.2.1 (i:Int)) auc;have e15:=adT d (i:Int) (gt ai d.2.2.2.2.2.2.1 (i:Int)).1 (pK d.2.2.2.2.2.2.1 (i:Int)) (gt ai d.2.2.2.2.2.2.1 (i:Int)).2.2.1 (mA d.2.2.2.2.2.2.1 (i:Int)) (mB d.2.2.2.2.2.2.1 (i:Int)) auc;refine(bg e10).trans ?_;cases h4:(List.range (mA d.2.2.2.2.2.2.1 (i:Int)).length).all (se (mA d.2.2.2.2.2.2.1 (i:Int)))with
  |false=>rfl|true=>
   refine(bg e15).trans ?_;cases h5:(List.range (mB d.2.2.2.2.2.2.1 (i:Int)).length).all (sf (mB d.2.2.2.2.2.2.1 (i:Int)))with
   |false=>rfl|true=>
    unfold p4 at hp
    grind
 .unfold nx
  try dsimp only
  unfold yN;exact aN (aJ (show ¬(d.2.2.2.2.2.2.1.length:Int)<(d.2.2.2.2.2.2.1.length:Int) by omega)) rfl
def zg(d:cJ.T):Prop:=List.length d.2.1<=2100/\List.length d.2.2.1<=2100/\List.length d.2.2.2.2.2.2.2.1<=2100/\List.length d.2.2.2.1<=1100/\List.length d.2.2.2.2.1<=1100/\List.length d.2.2.2.2.2.1<=1100/\List.length d.2.2.2.2.2.2.1<=6 /\
 (List.range d.2.2.2.2.2.2.1.length).all (p4 d.2.2.2.2.2.2.1)=true
theorem apv(d:cJ.T):∃b,S1 (d,())=some (b,())/\(b=true->zg d):=by
 have key:∀{b:Bool},(b=true->zg d)->S1 (d,())=some (b,())->∃b,S1 (d,())=some (b,())/\(b=true->zg d):=fun h e=>⟨_,e,h⟩;by_cases h1:(2100:Int)<((List.length d.2.1:Nat):Int)
 .exact key (fun h=>by cases h) (ba (aF h1) rfl)
 by_cases h2:(2100:Int)<((List.length d.2.2.1:Nat):Int)
 .exact key (fun h=>by cases h) (aN (aJ h1) (ba (aF h2) rfl))
 by_cases h3:(2100:Int)<((List.length d.2.2.2.2.2.2.2.1:Nat):Int)
 .exact key (fun h=>by cases h) (aN (aJ h1) (aN (aJ h2) (ba (aF h3) rfl)))
 by_cases h4:(1100:Int)<((List.length d.2.2.2.1:Nat):Int)
 .exact key (fun h=>by cases h) (aN (aJ h1) (aN (aJ h2) (aN (aJ h3) (ba (aF h4) rfl))))
 by_cases h5:(1100:Int)<((List.length d.2.2.2.2.1:Nat):Int)
 .exact key (fun h=>by cases h) (aN (aJ h1) (aN (aJ h2) (aN (aJ h3) (aN (aJ h4) (ba (aF h5) rfl)))))
 by_cases h6:(1100:Int)<((List.length d.2.2.2.2.2.1:Nat):Int)
 .exact key (fun h=>by cases h) (aN (aJ h1) (aN (aJ h2) (aN (aJ h3) (aN (aJ h4) (aN (aJ h5) (ba (aF h6) rfl))))))
 by_cases h7:(6:Int)<((List.length d.2.2.2.2.2.2.1:Nat):Int)
 .exact key (fun h=>by cases h) (aN (aJ h1) (aN (aJ h2) (aN (aJ h3) (aN (aJ h4) (aN (aJ h5) (aN (aJ h6) (ba (aF h7) rfl)))))))
 have e4:=anp d auc;cases h8:(List.range d.2.2.2.2.2.2.1.length).all (p4 d.2.2.2.2.2.2.1)with
 |false=>rw[h8]at e4;exact key (fun h=>by cases h) (aN (aJ h1) (aN (aJ h2) (aN (aJ h3) (aN (aJ h4) (aN (aJ h5) (aN (aJ h6) (aN (aJ h7) (aZ e4 rfl))))))))
 |true=>rw[h8]at e4;exact key (fun _=>⟨auc,auc,auc,auc,auc,auc,auc,h8⟩) (aN (aJ h1) (aN (aJ h2) (aN (aJ h3) (aN (aJ h4) (aN (aJ h5) (aN (aJ h6) (aN (aJ h7) (aZ e4 rfl))))))))
theorem apu(d:cJ.T):∃b,SJ (d,())=some (b,())/\(b=true->zg d):=by
 obtain⟨b,e,h⟩:=apv d;cases b with
 |false=>exact⟨false,aZ e rfl,fun q=>by cases q⟩
 |true=>
  by_cases h1:((List.length d.2.2.2.2.2.2.2.1:Nat):Int)<=100
  .by_cases h2:((List.length d.2.1:Nat):Int)<=100
   .by_cases h3:((List.length d.2.2.1:Nat):Int)<=100
    .exact⟨_,aZ e (ba rfl (ba (aF h1) (ba (aF h2) (ba (aF h3) rfl)))),fun _=>h rfl⟩
    .exact⟨false,aZ e (ba rfl (ba (aF h1) (ba (aF h2) (aN (aJ h3) rfl)))),fun q=>by cases q⟩
   .exact⟨false,aZ e (ba rfl (ba (aF h1) (aN (aJ h2) rfl))),fun q=>by cases q⟩
  .exact⟨false,aZ e (ba rfl (aN (aJ h1) rfl)),fun q=>by cases q⟩
theorem wf_i64{n:Int}(h:(Lit.int .i64 n).wf=true):dZ n:=by
 simp only[Lit.wf,asp,IS]at h;have h1:IntKind.i64.min = -9223372036854775808:=auf
 have h2:IntKind.i64.max=9223372036854775807:=auf
 rw[h1,h2]at h;exact h
theorem tV{L:jp}(h:pa (.sl .I) L):∀x∈L,dZ x:=fun x hx=>wf_i64 (h.2 x hx)
theorem xP{α β:Type}(f:α->β)(L:List α){n k:Nat}(h:L.length<=n)(hk:n<=k):(L.map f).length<=k:=by rw[aG];omega
theorem alZ{m:ai.T}(h:pa ai m)(hr:List.length m.2.2.2.1<=6)(hw:List.length m.2.2.2.2.1<=6)(hword:@LE.le Int _ m.2.1 100)
  (h10:mi (α:=bO.T) (fun r=>List.length r.2.1<=100/\@LE.le Int _ r.1 1099511627776/\@LE.le Int _ (-1099511627776) r.1) m.2.2.2.1) (h15:mi (α:=bu.T) (fun r=>List.length r.2.1<=100/\List.length r.2.2.1<=100) m.2.2.2.2.1):rb (oI m):=by
 obtain⟨a1,a2,a3,a4,a5,_⟩:=h;refine⟨⟨wf_i64 a2,Int.le_trans hword auf⟩,wf_i64 a1,?_,?_,?_,?_⟩
 .exact xP ta _ hr auf
 .exact xP tU _ hw auf
 .intro r hr;obtain⟨r',hr',rfl⟩:=rt.1 hr;obtain⟨b1,b2,b3⟩:=h10 r' hr';have hk:=a4.2 r' hr';exact⟨EQ b1 auf,b3,b2,tV hk.2.1⟩
 .intro r hr;obtain⟨r',hr',rfl⟩:=rt.1 hr;obtain⟨b1,b2⟩:=h15 r' hr';have hk:=a5.2 r' hr';exact⟨EQ b1 auf,EQ b2 auf,wf_i64 hk.1,tV hk.2.1,tV hk.2.2.1⟩
theorem PY{α:Type}{σ:Sh}{L:List σ.T}{p:Nat->Bool}{Q:σ.T->Prop}(h:(List.range L.length).all p=true)(hq:∀i x,L[i]?=some x->p i=true->Q x):mi Q L:=by
 have h':∀i,i<L.length->p i=true:=by simpa[acl]using h
 intro x hx;obtain⟨i,hi⟩:=LT hx;exact hq i x hi (h' i (apk hi))
theorem ang{d:cJ.T}(h:pa cJ d)(hl:zg d):Fit (eH d):=by
 obtain⟨a1,a2,a3,a4,a5,a6,a7,a8,_⟩:=h;obtain⟨b1,b2,b3,b4,b5,b6,b7,b8⟩:=hl;have lat3:mi (α:=ae.T) (fun x=>dZ x.1/\dZ x.2.1/\dZ x.2.2.1) d.2.2.1:=fun x hx=>by have:=a3.2 x hx;exact⟨wf_i64 this.1,wf_i64 this.2.1,wf_i64 this.2.2.1⟩
 have and3:mi (α:=ae.T) (fun x=>dZ x.1/\dZ x.2.1/\dZ x.2.2.1) d.2.2.2.2.2.2.2.1:=fun x hx=>by have:=a8.2 x hx;exact⟨wf_i64 this.1,wf_i64 this.2.1,wf_i64 this.2.2.1⟩
 refine⟨wf_i64 a1,⟨EQ b1 auf,tV a2⟩,⟨?_,?_⟩,⟨EQ b4 auf,tV a4⟩,⟨EQ b5 auf,tV a5⟩,⟨EQ b6 auf,tV a6⟩,⟨?_,?_⟩,⟨?_,?_⟩⟩
 .exact xP mV _ b2 auf
 .intro l hl;obtain⟨x,hx,rfl⟩:=rt.1 hl;exact lat3 x hx
 .exact xP oI _ b7 auf
 .intro m hm;obtain⟨x,hx,rfl⟩:=rt.1 hm;have hQ:=PY (α:=Unit) (σ:=ai) (Q:=fun x=>List.length x.2.2.2.1<=6/\List.length x.2.2.2.2.1<=6/\@LE.le Int _ x.2.1 100/\(List.range (List.length x.2.2.2.1)).all (se x.2.2.2.1)=true/\(List.range (List.length x.2.2.2.2.1)).all (sf x.2.2.2.2.1)=true) b8 (fun i x hi hp=>by unfold p4 mA mB pK at hp;rw[bz (σ:=ai) hi]at hp;simp only[asp,IS]at hp;exact⟨hp.1.1.1.1,hp.1.1.1.2,hp.1.1.2,hp.1.2,hp.2⟩) x hx;obtain⟨c1,c2,c3,c4,c5⟩:=hQ;refine alZ (a7.2 x hx) c1 c2 c3 ?_ ?_
  .exact PY (α:=Unit) (σ:=bO) c4 (fun i r hi hp=>by unfold se xC pP at hp;rw[bz (σ:=bO) hi]at hp;simp only[asp,IS]at hp;exact⟨hp.1.1,hp.1.2,hp.2⟩)
  .exact PY (α:=Unit) (σ:=bu) c5 (fun i r hi hp=>by unfold sf xJ xI at hp;rw[bz (σ:=bu) hi]at hp;simp only[asp,IS]at hp;exact hp)
 .exact xP oF _ b3 auf
 .intro l hl;obtain⟨x,hx,rfl⟩:=rt.1 hl;exact and3 x hx
