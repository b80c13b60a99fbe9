import Derived.Test.YtbbhihkocghhaaaKSa
set_option linter.all false
section
namespace Go.Proofs.Ytbbhihkocghhaaa.V
open Go Go.RowKit
theorem Gt{D O:Type}{B:D->Option (D⊕O)}(f:Nat->D)(p:Nat->Bool){bad good:O}(n:Nat)(hs:∀i,i<n->p i=true->B (f i)=acB (f (i+1)))(hf:∀i,i<n->p i=false->B (f i)=acC bad)
  (he:B (f n)=acC good) {d:D}(hd:d=f 0) {N:Nat}(hN:n<N):bh B N d=some (match(List.range n).all p with|true=>good|false=>bad):=by
 subst hd;have hall:((List.range n).all p=true↔∀i,i<n->p i=true):=by simp[abs]
 have main:∀k i,i+k=n->(∀j,j<i->p j=true)->∀N,k<N->bh B N (f i)=some (match(List.range n).all p with|true=>good|false=>bad):=by
  intro k
  induction k with
  |zero=>
   intro i hi hp N hN;have:i=n:=acs
   subst this;obtain⟨N,rfl⟩:∃M,N=M+1:=⟨N-1,acs⟩;rw[hall.2 hp];simp only[bh,he]
  |succ k ih=>
   intro i hi hp N hN;obtain⟨N,rfl⟩:∃M,N=M+1:=⟨N-1,acs⟩;cases hq:p i with
   |true=>
    simp only[bh,hs i acs hq]
    grind
   |false=>
    have hz:(List.range n).all p=false:=by grind
    simp only[bh,hf i acs hq,hz]
 grind
def nx{α:Type}(d:bB.T)(r:α):Int×io×List ag.T×io×io×io×List aj.T×List ag.T×α:=(d.1,d.2.1,d.2.2.1,d.2.2.2.1,d.2.2.2.2.1,d.2.2.2.2.2.1,d.2.2.2.2.2.2.1,d.2.2.2.2.2.2.2.1,r)
def vB(R:List bK.T)(i:Int):Nat:=List.length (gt bK R i).2.1
def oi(R:List bK.T)(i:Int):Int:=(gt bK R i).1
def nY(R:List bK.T)(i:Nat):Bool:=decide (vB R (i:Int)<=100)&&decide (oi R (i:Int)<=1099511627776)&&decide (-1099511627776<=oi R (i:Int))
def vI(R:List bj.T)(i:Int):Nat:=List.length (gt bj R i).2.1
def vH(R:List bj.T)(i:Int):Nat:=List.length (gt bj R i).2.2.1
def nZ(R:List bj.T)(i:Nat):Bool:=decide (vI R (i:Int)<=100)&&decide (vH R (i:Int)<=100)
theorem Mj(d:bB.T)(t a w:Int)(y:Bool)(R:List bK.T)(W:List bj.T)(hR:R.length<=100000) :
  FC (t,(0:Int),nx d (a,w,y,R,W,()))=some (match(List.range R.length).all (nY R)with|true=>.inr (t,nx d (a,w,y,R,W,()))|false=>.inl (false,())):=by
 unfold FC;delta gH u3 dI dU;refine Gt (fun i:Nat=>(t,(i:Int),nx d (a,w,y,R,W,()))) (nY R) R.length ?_ ?_ ?_ rfl acx
 .intro i hi hp;unfold nY at hp;simp only[abn,FS]at hp;obtain⟨⟨h1,h2⟩,h3⟩:=hp;have aR:al (i:Int) R.length=true:=acy;unfold nx
  try dsimp only
  unfold te;have e:∀p q:Int,p=q->(acB (t,p,nx d (a,w,y,R,W,())):am yg yd)=acB (t,q,nx d (a,w,y,R,W,())):=by rintro _ _ rfl;rfl
  exact aA (au (show(i:Int)<(R.length:Int) by omega)) (an aR (ao (aq (show ¬(100:Int)<((vB R (i:Int):Nat):Int) by omega)) (an aR (ao (aq (show ¬(1099511627776:Int)<oi R (i:Int) by omega)) (an aR (ao (aq (show ¬oi R (i:Int)<Int.negSucc 1099511627775 by omega)) (e _ _ (cD (x:=(i:Int)+1) acs))))))))
 .intro i hi hp;have aR:al (i:Int) R.length=true:=acy;unfold nx
  try dsimp only
  unfold te;refine aA (au (show(i:Int)<(R.length:Int) by omega)) (an aR ?_);by_cases h1:(100:Int)<((vB R (i:Int):Nat):Int)
  .exact aA (au h1) rfl
  refine ao (aq h1) (an aR ?_);by_cases h2:(1099511627776:Int)<oi R (i:Int)
  .exact aA (au h2) rfl
  refine ao (aq h2) (an aR ?_);by_cases h3:oi R (i:Int)<Int.negSucc 1099511627775
  .exact aA (au h3) rfl
  unfold nY at hp
  grind
 .unfold nx
  try dsimp only
  unfold te;exact ao (aq (show ¬(R.length:Int)<(R.length:Int) by omega)) rfl
theorem Mi(d:bB.T)(t a w:Int)(y:Bool)(R:List bK.T)(W:List bj.T)(hW:W.length<=100000) :
  FB (t,(0:Int),nx d (a,w,y,R,W,()))=some (match(List.range W.length).all (nZ W)with|true=>.inr (t,nx d ())|false=>.inl (false,())):=by
 unfold FB;delta gH u3 dI dU;refine Gt (fun i:Nat=>(t,(i:Int),nx d (a,w,y,R,W,()))) (nZ W) W.length ?_ ?_ ?_ rfl acx
 .intro i hi hp;unfold nZ at hp;simp only[abn,FS]at hp;obtain⟨h1,h2⟩:=hp;have aR:al (i:Int) W.length=true:=acy;unfold nx
  try dsimp only
  unfold ta;have e:∀p q:Int,p=q->(acB (t,p,nx d (a,w,y,R,W,())):am yf yc)=acB (t,q,nx d (a,w,y,R,W,())):=by intros;subst_vars;rfl
  exact aA (au (show(i:Int)<(W.length:Int) by omega)) (an aR (ao (aq (show ¬(100:Int)<((vI W (i:Int):Nat):Int) by omega)) (an aR (ao (aq (show ¬(100:Int)<((vH W (i:Int):Nat):Int) by omega)) (e _ _ (cD (x:=(i:Int)+1) acs))))))
 .intro i hi hp;have aR:al (i:Int) W.length=true:=acy;unfold nx
  try dsimp only
  unfold ta;refine aA (au (show(i:Int)<(W.length:Int) by omega)) (an aR ?_);by_cases h1:(100:Int)<((vI W (i:Int):Nat):Int)
  .exact aA (au h1) rfl
  refine ao (aq h1) (an aR ?_);by_cases h2:(100:Int)<((vH W (i:Int):Nat):Int)
  .exact aA (au h2) rfl
  unfold nZ at hp
  grind
 .unfold nx
  try dsimp only
  unfold ta;exact ao (aq (show ¬(W.length:Int)<(W.length:Int) by omega)) rfl
def kh(T:List aj.T)(i:Int):List bK.T:=(gt aj T i).2.2.2.1
def kj(T:List aj.T)(i:Int):List bj.T:=(gt aj T i).2.2.2.2.1
def mY(T:List aj.T)(i:Int):Int:=(gt aj T i).2.1
def p4(T:List aj.T)(i:Nat):Bool:=decide ((kh T (i:Int)).length<=6)&&decide ((kj T (i:Int)).length<=6)&&decide (mY T (i:Int)<=100) &&
 (List.range (kh T (i:Int)).length).all (nY (kh T (i:Int)))&&(List.range (kj T (i:Int)).length).all (nZ (kj T (i:Int)))
theorem Vb(d:bB.T)(hT:d.2.2.2.2.2.2.1.length<=100000) :
  P4 ((0:Int),nx d ())=some (match(List.range d.2.2.2.2.2.2.1.length).all (p4 d.2.2.2.2.2.2.1)with|true=>.inr ()|false=>.inl (false,())):=by
 unfold P4;delta u9;refine Gt (fun i:Nat=>((i:Int),nx d ())) (p4 d.2.2.2.2.2.2.1) d.2.2.2.2.2.2.1.length ?_ ?_ ?_ rfl acx
 .intro i hi hp;unfold p4 at hp;simp only[abn,FS]at hp;obtain⟨⟨⟨⟨h1,h2⟩,h3⟩,h4⟩,h5⟩:=hp;have aR:al (i:Int) (List.length d.2.2.2.2.2.2.1)=true:=acy;have e10:=Mj d (i:Int) (gt aj d.2.2.2.2.2.2.1 (i:Int)).1 (mY d.2.2.2.2.2.2.1 (i:Int)) (gt aj d.2.2.2.2.2.2.1 (i:Int)).2.2.1 (kh d.2.2.2.2.2.2.1 (i:Int)) (kj d.2.2.2.2.2.2.1 (i:Int)) acs;have e15:=Mi d (i:Int) (gt aj d.2.2.2.2.2.2.1 (i:Int)).1 (mY d.2.2.2.2.2.2.1 (i:Int)) (gt aj d.2.2.2.2.2.2.1 (i:Int)).2.2.1 (kh d.2.2.2.2.2.2.1 (i:Int)) (kj d.2.2.2.2.2.2.1 (i:Int)) acs;rw[h4]at e10;rw[h5]at e15;unfold nx at e10 e15 |-
  try dsimp only
  unfold tf;have e:∀p q:Int,p=q->(acB (p,nx d ()):am yu yo)=acB (q,nx d ()):=by rintro _ _ rfl;rfl
  exact aA (au (show(i:Int)<(d.2.2.2.2.2.2.1.length:Int) by omega)) (an aR (ao (aq (show ¬(6:Int)<(((kh d.2.2.2.2.2.2.1 (i:Int)).length:Nat):Int) by omega)) (ao (aq (show ¬(6:Int)<(((kj d.2.2.2.2.2.2.1 (i:Int)).length:Nat):Int) by omega)) (ao (aq (show ¬(100:Int)<mY d.2.2.2.2.2.2.1 (i:Int) by omega)) ((cu e10).trans ((cu e15).trans (e _ _ (cD (x:=(i:Int)+1) acs))))))))
 .intro i hi hp;have aR:al (i:Int) (List.length d.2.2.2.2.2.2.1)=true:=acy;unfold nx
  try dsimp only
  unfold tf;refine aA (au (show(i:Int)<(d.2.2.2.2.2.2.1.length:Int) by omega)) (an aR ?_);by_cases h1:(6:Int)<(((kh d.2.2.2.2.2.2.1 (i:Int)).length:Nat):Int)
  .exact aA (au h1) rfl
  refine ao (aq h1) ?_;by_cases h2:(6:Int)<(((kj d.2.2.2.2.2.2.1 (i:Int)).length:Nat):Int)
  .exact aA (au h2) rfl
  refine ao (aq h2) ?_;by_cases h3:(100:Int)<mY d.2.2.2.2.2.2.1 (i:Int)
  .exact aA (au h3) rfl
  refine ao (aq h3) ?_;have e10:=Mj d (i:Int) (gt aj d.2.2.2.2.2.2.1 (i:Int)).1 (mY d.2.2.2.2.2.2.1 (i:Int)) (gt aj d.2.2.2.2.2.2.1 (i:Int)).2.2.1 (kh d.2.2.2.2.2.2.1 (i:Int)) (kj d.2.2.2.2.2.2.1 (i:Int)) acs;have e15:=Mi d (i:Int) (gt aj d.2.2.2.2.2.2.1 (i:Int)).1 (mY d.2.2.2.2.2.2.1 (i:Int)) (gt aj d.2.2.2.2.2.2.1 (i:Int)).2.2.1 (kh d.2.2.2.2.2.2.1 (i:Int)) (kj d.2.2.2.2.2.2.1 (i:Int)) acs;refine(cu e10).trans ?_;cases h4:(List.range (kh d.2.2.2.2.2.2.1 (i:Int)).length).all (nY (kh d.2.2.2.2.2.2.1 (i:Int)))with
  |false=>rfl|true=>
   refine(cu e15).trans ?_;cases h5:(List.range (kj d.2.2.2.2.2.2.1 (i:Int)).length).all (nZ (kj d.2.2.2.2.2.2.1 (i:Int)))with
   |false=>rfl|true=>
    unfold p4 at hp
    grind
 .unfold nx
  try dsimp only
  unfold tf;exact ao (aq (show ¬(d.2.2.2.2.2.2.1.length:Int)<(d.2.2.2.2.2.2.1.length:Int) by omega)) rfl
def qD(d:bB.T):Prop:=List.length d.2.1<=2100/\List.length d.2.2.1<=2100/\List.length d.2.2.2.2.2.2.2.1<=2100/\List.length d.2.2.2.1<=1100/\List.length d.2.2.2.2.1<=1100/\List.length d.2.2.2.2.2.1<=1100/\List.length d.2.2.2.2.2.2.1<=6 /\
 (List.range d.2.2.2.2.2.2.1.length).all (p4 d.2.2.2.2.2.2.1)=true
theorem Xk(d:bB.T):∃b,FO (d,())=some (b,())/\(b=true->qD d):=by
 have key:∀{b:Bool},(b=true->qD d)->FO (d,())=some (b,())->∃b,FO (d,())=some (b,())/\(b=true->qD d):=fun h e=>⟨_,e,h⟩;by_cases h1:(2100:Int)<((List.length d.2.1:Nat):Int)
 .exact key (fun h=>by cases h) (aA (au h1) rfl)
 by_cases h2:(2100:Int)<((List.length d.2.2.1:Nat):Int)
 .exact key (fun h=>by cases h) (ao (aq h1) (aA (au h2) rfl))
 by_cases h3:(2100:Int)<((List.length d.2.2.2.2.2.2.2.1:Nat):Int)
 .exact key (fun h=>by cases h) (ao (aq h1) (ao (aq h2) (aA (au h3) rfl)))
 by_cases h4:(1100:Int)<((List.length d.2.2.2.1:Nat):Int)
 .exact key (fun h=>by cases h) (ao (aq h1) (ao (aq h2) (ao (aq h3) (aA (au h4) rfl))))
 by_cases h5:(1100:Int)<((List.length d.2.2.2.2.1:Nat):Int)
 .exact key (fun h=>by cases h) (ao (aq h1) (ao (aq h2) (ao (aq h3) (ao (aq h4) (aA (au h5) rfl)))))
 by_cases h6:(1100:Int)<((List.length d.2.2.2.2.2.1:Nat):Int)
 .exact key (fun h=>by cases h) (ao (aq h1) (ao (aq h2) (ao (aq h3) (ao (aq h4) (ao (aq h5) (aA (au h6) rfl))))))
 by_cases h7:(6:Int)<((List.length d.2.2.2.2.2.2.1:Nat):Int)
 .exact key (fun h=>by cases h) (ao (aq h1) (ao (aq h2) (ao (aq h3) (ao (aq h4) (ao (aq h5) (ao (aq h6) (aA (au h7) rfl)))))))
 have e4:=Vb d acs;cases h8:(List.range d.2.2.2.2.2.2.1.length).all (p4 d.2.2.2.2.2.2.1)with
 |false=>rw[h8]at e4;exact key (fun h=>by cases h) (ao (aq h1) (ao (aq h2) (ao (aq h3) (ao (aq h4) (ao (aq h5) (ao (aq h6) (ao (aq h7) (aO e4 rfl))))))))
 |true=>rw[h8]at e4;exact key (fun _=>⟨acs,acs,acs,acs,acs,acs,acs,h8⟩) (ao (aq h1) (ao (aq h2) (ao (aq h3) (ao (aq h4) (ao (aq h5) (ao (aq h6) (ao (aq h7) (aO e4 rfl))))))))
theorem Xj(d:bB.T):∃b,Zcw (d,())=some (b,())/\(b=true->qD d):=by
 obtain⟨b,e,h⟩:=Xk d;cases b with
 |false=>exact⟨false,aO e rfl,fun q=>by cases q⟩
 |true=>
  by_cases h1:((List.length d.2.2.2.2.2.2.2.1:Nat):Int)<=100
  .by_cases h2:((List.length d.2.1:Nat):Int)<=100
   .by_cases h3:((List.length d.2.2.1:Nat):Int)<=100
    .exact⟨_,aO e (aA rfl (aA (au h1) (aA (au h2) (aA (au h3) rfl)))),fun _=>h rfl⟩
    .exact⟨false,aO e (aA rfl (aA (au h1) (aA (au h2) (ao (aq h3) rfl)))),fun q=>by cases q⟩
   .exact⟨false,aO e (aA rfl (aA (au h1) (ao (aq h2) rfl))),fun q=>by cases q⟩
  .exact⟨false,aO e (aA rfl (ao (aq h1) rfl)),fun q=>by cases q⟩
theorem wf_i64{n:Int}(h:(Lit.int .i64 n).wf=true):cB n:=by
 simp only[Lit.wf,abn,FS]at h;have h1:IntKind.i64.min = -9223372036854775808:=acw
 have h2:IntKind.i64.max=9223372036854775807:=acw
 rw[h1,h2]at h;exact h
theorem pj{L:io}(h:jR (.sl .I) L):∀x∈L,cB x:=fun x hx=>wf_i64 (h.2 x hx)
theorem rH{α β:Type}(f:α->β)(L:List α){n k:Nat}(h:L.length<=n)(hk:n<=k):(L.map f).length<=k:=by rw[aT];omega
theorem TX{m:aj.T}(h:jR aj m)(hr:List.length m.2.2.2.1<=6)(hw:List.length m.2.2.2.2.1<=6)(hword:@LE.le Int _ m.2.1 100)
  (h10:jD (α:=bK.T) (fun r=>List.length r.2.1<=100/\@LE.le Int _ r.1 1099511627776/\@LE.le Int _ (-1099511627776) r.1) m.2.2.2.1) (h15:jD (α:=bj.T) (fun r=>List.length r.2.1<=100/\List.length r.2.2.1<=100) m.2.2.2.2.1):oA (lx m):=by
 obtain⟨a1,a2,a3,a4,a5,_⟩:=h;refine⟨⟨wf_i64 a2,Int.le_trans hword acw⟩,wf_i64 a1,?_,?_,?_,?_⟩
 .exact rH om _ hr acw
 .exact rH ph _ hw acw
 .intro r hr;obtain⟨r',hr',rfl⟩:=IN.1 hr;obtain⟨b1,b2,b3⟩:=h10 r' hr';have hk:=a4.2 r' hr';exact⟨pp b1 acw,b3,b2,pj hk.2.1⟩
 .intro r hr;obtain⟨r',hr',rfl⟩:=IN.1 hr;obtain⟨b1,b2⟩:=h15 r' hr';have hk:=a5.2 r' hr';exact⟨pp b1 acw,pp b2 acw,wf_i64 hk.1,pj hk.2.1,pj hk.2.2.1⟩
theorem CA{α:Type}{σ:Sh}{L:List σ.T}{p:Nat->Bool}{Q:σ.T->Prop}(h:(List.range L.length).all p=true)(hq:∀i x,L[i]?=some x->p i=true->Q x):jD Q L:=by
 have h':∀i,i<L.length->p i=true:=by simpa[abs]using h
 intro x hx;obtain⟨i,hi⟩:=abb hx;exact hq i x hi (h' i (aaB hi))
theorem UT{d:bB.T}(h:jR bB d)(hl:qD d):Fit (kC d):=by
 obtain⟨a1,a2,a3,a4,a5,a6,a7,a8,_⟩:=h;obtain⟨b1,b2,b3,b4,b5,b6,b7,b8⟩:=hl;have lat3:jD (α:=ag.T) (fun x=>cB x.1/\cB x.2.1/\cB x.2.2.1) d.2.2.1:=fun x hx=>by have:=a3.2 x hx;exact⟨wf_i64 this.1,wf_i64 this.2.1,wf_i64 this.2.2.1⟩
 have and3:jD (α:=ag.T) (fun x=>cB x.1/\cB x.2.1/\cB x.2.2.1) d.2.2.2.2.2.2.2.1:=fun x hx=>by have:=a8.2 x hx;exact⟨wf_i64 this.1,wf_i64 this.2.1,wf_i64 this.2.2.1⟩
 refine⟨wf_i64 a1,⟨pp b1 acw,pj a2⟩,⟨?_,?_⟩,⟨pp b4 acw,pj a4⟩,⟨pp b5 acw,pj a5⟩,⟨pp b6 acw,pj a6⟩,⟨?_,?_⟩,⟨?_,?_⟩⟩
 .exact rH j7 _ b2 acw
 .intro l hl;obtain⟨x,hx,rfl⟩:=IN.1 hl;exact lat3 x hx
 .exact rH lx _ b7 acw
 .intro m hm;obtain⟨x,hx,rfl⟩:=IN.1 hm;have hQ:=CA (α:=Unit) (σ:=aj) (Q:=fun x=>List.length x.2.2.2.1<=6/\List.length x.2.2.2.2.1<=6/\@LE.le Int _ x.2.1 100/\(List.range (List.length x.2.2.2.1)).all (nY x.2.2.2.1)=true/\(List.range (List.length x.2.2.2.2.1)).all (nZ x.2.2.2.2.1)=true) b8 (fun i x hi hp=>by unfold p4 kh kj mY at hp;rw[bG (σ:=aj) hi]at hp;simp only[abn,FS]at hp;exact⟨hp.1.1.1.1,hp.1.1.1.2,hp.1.1.2,hp.1.2,hp.2⟩) x hx;obtain⟨c1,c2,c3,c4,c5⟩:=hQ;refine TX (a7.2 x hx) c1 c2 c3 ?_ ?_
  .exact CA (α:=Unit) (σ:=bK) c4 (fun i r hi hp=>by unfold nY vB oi at hp;rw[bG (σ:=bK) hi]at hp;simp only[abn,FS]at hp;exact⟨hp.1.1,hp.1.2,hp.2⟩)
  .exact CA (α:=Unit) (σ:=bj) c5 (fun i r hi hp=>by unfold nZ vI vH at hp;rw[bG (σ:=bj) hi]at hp;simp only[abn,FS]at hp;exact hp)
 .exact rH lf _ b3 acw
 .intro l hl;obtain⟨x,hx,rfl⟩:=IN.1 hl;exact and3 x hx
