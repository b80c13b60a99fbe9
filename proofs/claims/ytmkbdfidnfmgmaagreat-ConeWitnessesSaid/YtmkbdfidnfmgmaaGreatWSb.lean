import Derived.Test.YtmkbdfidnfmgmaaGreatWSa
import Derived.Test.YtmkbdfidnfmgmaaGreatWNe
set_option linter.all false
section
namespace Go.Proofs.YtmkbdfidnfmgmaaGreat.V
open Go Go.RowKit
theorem rC{D O:Type}{B:D->Option (D⊕O)}(f:Nat->D)(p:Nat->Bool){bad good:O}(n:Nat)(hs:∀i,i<n->p i=true->B (f i)=atY (f (i+1)))(hf:∀i,i<n->p i=false->B (f i)=atZ bad)
  (he:B (f n)=atZ good) {d:D}(hd:d=f 0) {N:Nat}(hN:n<N):bp B N d=some (match(List.range n).all p with|true=>good|false=>bad):=by
 subst hd;have hall:((List.range n).all p=true↔∀i,i<n->p i=true):=by simp[In]
 have main:∀k i,i+k=n->(∀j,j<i->p j=true)->∀N,k<N->bp B N (f i)=some (match(List.range n).all p with|true=>good|false=>bad):=by
  intro k
  induction k with
  |zero=>
   intro i hi hp N hN;have:i=n:=atO
   subst this;obtain⟨N,rfl⟩:∃M,N=M+1:=⟨N-1,atO⟩;rw[hall.2 hp];simp only[bp,he]
  |succ k ih=>
   intro i hi hp N hN;obtain⟨N,rfl⟩:∃M,N=M+1:=⟨N-1,atO⟩;cases hq:p i with
   |true=>
    simp only[bp,hs i atO hq]
    grind
   |false=>
    have hz:(List.range n).all p=false:=by grind
    simp only[bp,hf i atO hq,hz]
 grind
def nM(v w:Int):Bool:=decide (v / 2^w.toNat=0)
variable{w:Int}
theorem xu{v:Int}(hw:0<=w/\w<=64):I6 (v,w,())=some (nM v w,()):=by
 have hb:Jd (w,())=some (w,()):=by
  show Ax w=_;unfold Ax;have h1:ed (decide ((64:Int)<w)) (64:Int) w=w:=by unfold ed;grind
  have h2:ed (decide (w<(0:Int))) (0:Int) w=w:=by unfold ed;rw[eY atO]
  show some (ed (decide (ed (decide ((64:Int)<w)) (64:Int) w<0)) 0 (ed (decide ((64:Int)<w)) (64:Int) w),())=_;rw[h1,h2]
 show Tf Jd v w=_;unfold Tf;refine(bS hb).trans (aS (aD hw.1) ?_);unfold nM;have hm:min w.toNat 64=w.toNat:=atO
 show some (decide (Int.fdiv v (2^(min w.toNat 64))=0),())=_
 grind
theorem RO{x:Int}(h:0<=x/\x<=18446744073709551615):IntKind.wrap (.u64:IntKind) x=x:=by unfold IntKind.wrap;simp[IntKind.bits,IntKind.signed];omega
def jT(L:List bk.T)(i:Int):Int:=(gt bk L i).1
def m9(L:List bk.T)(i:Int):Int:=(gt bk L i).2.1
def na(a w:Int)(L:List bk.T)(i:Nat):Bool:=!decide (m9 L (i:Int)=0)&&nM (jT L (i:Int)) a&&nM (m9 L (i:Int)) w&&(decide (i=0)||decide (jT L ((i:Int)-1)<jT L (i:Int)))
def nF(a w:Int)(L:List bk.T):Bool:=decide (1<=a)&&decide (a<=62)&&decide (1<=w)&&decide (w<=64)&&decide (L.length<=4096)&&(List.range L.length).all (na a w L)
variable{a:Int}
theorem Zzj(ha:1<=a/\a<=62)(hw:1<=w/\w<=64)(L:List bk.T)(hl:L.length<=4096) :
  SQ (a,w,L,L,(L.length:Int),(0:Int),())=some (match(List.range L.length).all (na a w L)with|true=>.inr ()|false=>.inl (false,())):=by
 unfold SQ;delta u6;refine rC (fun i:Nat=>(a,w,L,L,(L.length:Int),(i:Int),())) (na a w L) L.length ?_ ?_ ?_ rfl atU
 .intro i hi hp;unfold na at hp;simp only[act,atH,ate]at hp;obtain⟨⟨⟨h1,h2⟩,h3⟩,h4⟩:=hp;have e1:=xu (v:=jT L (i:Int)) (w:=a) ⟨atO,atO⟩;have e2:=xu (v:=m9 L (i:Int)) (w:=w) ⟨atO,atO⟩
  try dsimp only
  unfold Au;refine aR (aD (show(i:Int)<(L.length:Int) by omega)) (aS atT (ax (aF h1) ((bS e1).trans (ax (by rw[h2];rfl) ((bS e2).trans (ax (by rw[h3];rfl) ?_))))));have e:∀p q:Int,p=q->(atY (a,w,L,L,(L.length:Int),p,()):am IW IM)=atY (a,w,L,L,(L.length:Int),q,()):=by rintro _ _ rfl;rfl
  by_cases h0:i=0
  .exact ax (aF (show ¬(0:Int)<(i:Int) by omega)) (e _ _ (cH (x:=(i:Int)+1) atO))
  .have hm:qr ((i:Int)-1)=(i:Int)-1:=atX;rw[hm];simp only[Bool.or_eq_true,IR]at h4;refine aR (aD (show(0:Int)<(i:Int) by omega)) (aS atT (ax (aF (show ¬jT L (i:Int)<=jT L ((i:Int)-1) by omega)) (e _ _ (cH (x:=(i:Int)+1) atO))))
 .intro i hi hp
  try dsimp only
  unfold Au;refine aR (aD (show(i:Int)<(L.length:Int) by omega)) (aS atT ?_);by_cases h1:m9 L (i:Int)=0
  .exact aR (aD h1) rfl
  refine ax (aF h1) ?_;have e1:=xu (v:=jT L (i:Int)) (w:=a) ⟨atO,atO⟩;have e2:=xu (v:=m9 L (i:Int)) (w:=w) ⟨atO,atO⟩;refine(bS e1).trans ?_;cases h2:nM (jT L (i:Int)) a with|false=>exact aR rfl rfl|true=>refine ax rfl ((bS e2).trans ?_);cases h3:nM (m9 L (i:Int)) w with|false=>exact aR rfl rfl|true=>refine ax rfl ?_;unfold na at hp;rw[eY h1,h2,h3]at hp;simp only[Bool.not_false,Bool.and_self,Bool.true_and,asM,ate]at hp;have hm:qr ((i:Int)-1)=(i:Int)-1:=atX;rw[hm];exact aR (aD (show(0:Int)<(i:Int) by omega)) (aS atT (aR (aD (show jT L (i:Int)<=jT L ((i:Int)-1) by omega)) rfl))
 .try dsimp only
  unfold Au;exact ax (aF (show ¬(L.length:Int)<(L.length:Int) by omega)) rfl
theorem amT(a w:Int)(L:List bk.T):Zj4 (a,w,L,())=some (nF a w L,()):=by
 show S9 I6 SQ a w L=_;unfold S9 nF;by_cases h1:a<1
 .rw[eY (show ¬1<=a by omega)];exact aR (aD h1) rfl
 rw[dt (show 1<=a by omega)];refine ax (aF h1) ?_;by_cases h2:62<a
 .rw[eY (show ¬a<=62 by omega)];exact aR (aD h2) rfl
 rw[dt (show a<=62 by omega)];refine ax (aF h2) ?_;by_cases h3:w<1
 .rw[eY (show ¬1<=w by omega)];exact aR (aD h3) rfl
 rw[dt (show 1<=w by omega)];refine ax (aF h3) ?_;by_cases h4:64<w
 .rw[eY (show ¬w<=64 by omega)];exact aR (aD h4) rfl
 rw[dt (show w<=64 by omega)];refine ax (aF h4) ?_;by_cases h5:(4096:Int)<(L.length:Int)
 .rw[eY (show ¬L.length<=4096 by omega)];exact aR (aD h5) rfl
 rw[dt (show L.length<=4096 by omega)];refine ax (aF h5) ((bS (Zzj ⟨atO,atO⟩ ⟨atO,atO⟩ L atO)).trans ?_);cases(List.range L.length).all (na a w L)<;>rfl
def T5(L:List bk.T):Prop:=∀i:Nat,i<L.length->(0<=jT L (i:Int)/\jT L (i:Int)<=18446744073709551615)/\(0<=m9 L (i:Int)/\m9 L (i:Int)<=18446744073709551615)
variable{i:Nat}{α:Type}{l:List α}{x:α}
theorem aaz(h:l[i]?=some x):i<l.length:=by grind
theorem anb(h:l[i]?=some x):l.take (i+1)=l.take i++[x]:=by rw[List.take_add_one,h];rfl
theorem Z9{σ:Sh}{k:Int}{v:σ.T}:∀{M:fl σ},(∀p∈M,p.1<k)->fF k v M=M++[(k,v,())]
 |[],_=>rfl|p::M,h=>by have hp:=h p atQ;rw[fF,eY (show ¬k<p.1 by omega),eY (show ¬p.1=k by omega)];simp only[];rw[Z9 (fun q hq=>h q (by simp[hq]))];rfl
theorem aam{L:List bk.T}(h:(List.range L.length).all (na a w L)=true):∀i,i<L.length->∀j,j<i->jT L (j:Int)<jT L (i:Int):=by
 have h':∀i,i<L.length->na a w L i=true:=by grind
 intro i
 induction i with
 |zero=>intro _ j hj;omega|succ i ih=>
  intro hi j hj;have hc:=h' (i+1) hi;unfold na at hc
  grind
theorem Zyb(a w:Int)(L:List bk.T):SP (a,w,L,())=some (match nF a w L with|true=>.inr ((0:Int),a,w,L,())|false=>.inl ((14:Int),())):=by
 have e1:=amT a w L;show Th Zj4 SS a w L=_;unfold Th;refine(bS e1).trans ?_;cases hr:nF a w L with
 |false=>exact aR rfl rfl|true=>
  refine ax rfl ?_;unfold nF at hr;simp only[act,IR]at hr;obtain⟨⟨_,hl⟩,hall⟩:=hr;have hs:=aam hall;have eL:SS (L,(L.length:Int),(0:Int),a,w,[],())=some (a,w,L,()):=by
   unfold SS;delta u6;refine d9 (fun i:Nat=>(L,(L.length:Int),(i:Int),a,w,L.take i,())) L.length rfl ?_ ?_ atU
   .intro i hi;have hc:=ba hi
    try dsimp only
    unfold Jp;refine aR (aD (show(i:Int)<(L.length:Int) by omega)) (aS atT ?_);have e:∀(p q:Int) (M M':fl (.int .u64)),p=q->M=M'->(atY (L,(L.length:Int),p,a,w,M,()):am I5 IX)=atY (L,(L.length:Int),q,a,w,M',()):=by rintro _ _ _ _ rfl rfl;rfl
    refine e _ _ _ _ (cH (x:=(i:Int)+1) atO) ?_;rw[bI (σ:=bk) hc];have hlast:=Z9 (σ:=.int .u64) (k:=L[i].1) (v:=L[i].2.1) (M:=L.take i) (fun p hp=>by
     obtain⟨j,hj⟩:=Fr hp;have hjl:j<i:=WP (aaz hj) (List.length_take_le i L);have hj:(L:List bk.T)[j]?=some p:=by rw[<-hj];exact(List.getElem?_take_of_lt hjl).symm
     have:=hs i hi j hjl;unfold jT at this;rw[bI (σ:=bk) hj,bI (σ:=bk) hc]at this;exact this)
    refine hlast.trans ?_;exact(anb hc).symm
   .try dsimp only
    unfold Jp;refine ax (aF (show ¬(L.length:Int)<(L.length:Int) by omega)) ?_;rw[eX];rfl
  exact aB eL rfl
def sc(T:List ah.T)(cs:List (List bk.T))(i:Nat):Bool:=nF (gt ah T (i:Int)).1 (gt ah T (i:Int)).2.1 (gt (.sl bk) cs (i:Int))
def ZE(T:List ah.T)(cs:List (List bk.T))(i:Nat):fD:=pS (gt ah T (i:Int)).1 (gt ah T (i:Int)).2.1 (gt (.sl bk) cs (i:Int))
def mD(T:List ah.T)(cs:List (List bk.T))(k:Nat):List fD:=(List.range k).map (ZE T cs)
theorem anM(T:List ah.T)(aJ:md)(cs:List (List bk.T))(hT:T.length<=100000)(hc:cs.length=T.length) :
  SR (T,(T.length:Int),(0:Int),aJ,cs,[],())=some (match(List.range T.length).all (sc T cs)with|true=>.inr (mD T cs T.length,())|false=>.inl ((14:Int),())):=by
 unfold SR;delta u6;refine rC (fun i:Nat=>(T,(T.length:Int),(i:Int),aJ,cs,mD T cs i,())) (sc T cs) T.length ?_ ?_ ?_ rfl atU
 .intro i hi hp;have e1:=Zyb (gt ah T (i:Int)).1 (gt ah T (i:Int)).2.1 (gt (.sl bk) cs (i:Int));have hp':nF (gt ah T (i:Int)).1 (gt ah T (i:Int)).2.1 (gt (.sl bk) cs (i:Int))=true:=hp;rw[hp']at e1;have hlen:(mD T cs i).length=i:=by unfold mD;simp
  try dsimp only
  unfold Ay;refine aR (aD (show(i:Int)<(T.length:Int) by omega)) (aS atT (aS atT ((bS e1).trans (ax rfl (aS (lM (L:=mD T cs i) (by rw[hlen];omega) atS) ?_)))));have e:∀(p q:Int) (M M':List fD),p=q->M=M'->(atY (T,(T.length:Int),p,aJ,cs,M,()):am I4 IU)=atY (T,(T.length:Int),q,aJ,cs,M',()):=by intros;subst_vars;rfl
  refine e _ _ _ _ (cH (x:=(i:Int)+1) atO) ?_;show mD T cs i++[ZE T cs i]=mD T cs (i+1);unfold mD;rw[asg,d7];rfl
 .intro i hi hp;have e1:=Zyb (gt ah T (i:Int)).1 (gt ah T (i:Int)).2.1 (gt (.sl bk) cs (i:Int));have hp':nF (gt ah T (i:Int)).1 (gt ah T (i:Int)).2.1 (gt (.sl bk) cs (i:Int))=false:=hp;rw[hp']at e1
  try dsimp only
  unfold Ay;exact aR (aD (show(i:Int)<(T.length:Int) by omega)) (aS atT (aS atT ((bS e1).trans (aS rfl rfl))))
 .try dsimp only
  unfold Ay;exact ax (aF (show ¬(T.length:Int)<(T.length:Int) by omega)) rfl
def lu(d:cA.T)(s:oi.T):Bool:=decide (s.1.length=d.2.2.1.length)&&decide (s.2.1.length=d.2.2.2.2.2.2.1.length)&&(List.range d.2.2.2.2.2.2.1.length).all (sc d.2.2.2.2.2.2.1 s.2.1)
theorem ae3(d:cA.T)(s:oi.T)(hT:d.2.2.2.2.2.2.1.length<=100000) :
  Zq8 (d.1,d.2.1,d.2.2.1,d.2.2.2.1,d.2.2.2.2.1,d.2.2.2.2.2.1,d.2.2.2.2.2.2.1,d.2.2.2.2.2.2.2.1,s.1,s.2.1,()) =
   some (match lu d s with|true=>((0:Int),mD d.2.2.2.2.2.2.1 s.2.1 d.2.2.2.2.2.2.1.length,())|false=>((14:Int),[],())):=by
 show Tg SP SR d.1 d.2.1 d.2.2.1 d.2.2.2.1 d.2.2.2.2.1 d.2.2.2.2.2.1 d.2.2.2.2.2.2.1 d.2.2.2.2.2.2.2.1 s.1 s.2.1=_;unfold Tg lu;by_cases h1:s.1.length=d.2.2.1.length
 .rw[dt h1];have q1:Bool.not (decide (Int.ofNat (List.length s.1)=Int.ofNat (List.length d.2.2.1)))=false:=by rw[dt (by rw[h1])];rfl
  refine ax q1 ?_;by_cases h2:s.2.1.length=d.2.2.2.2.2.2.1.length
  .rw[dt h2];have q2:Bool.not (decide (Int.ofNat (List.length s.2.1)=Int.ofNat (List.length d.2.2.2.2.2.2.1)))=false:=by rw[dt (by rw[h2])];rfl
   refine ax q2 ((bS (anM d.2.2.2.2.2.2.1 s.1 s.2.1 hT h2)).trans ?_)
   grind
  .rw[eY h2];have q2:Bool.not (decide (Int.ofNat (List.length s.2.1)=Int.ofNat (List.length d.2.2.2.2.2.2.1)))=true:=by rw[eY (fun e=>h2 (Int.ofNat.inj e))];rfl
   exact aR q2 rfl
 .rw[eY h1];have q1:Bool.not (decide (Int.ofNat (List.length s.1)=Int.ofNat (List.length d.2.2.1)))=true:=by grind
  exact aR q1 rfl
def jG(d:cA.T)(s:oi.T):Int:=if Pl.eZ (d8 d)≠0 then Pl.eZ (d8 d)else match lu d s with|true=>0|false=>14
theorem TN(d:cA.T)(s:oi.T)(ft:Fit (d8 d))(hT:d.2.2.2.2.2.2.1.length<=100000):Zhp (d,s,())=some (jG d s,()):=by
 have e1:=th ft;rw[Jr]at e1;have e2:=ae3 d s hT;unfold jG;by_cases h:Pl.eZ (d8 d)=0
 .rw[BT atO];refine aB e1 (ax (by rw[h];rfl) (aB e2 ?_));cases lu d s<;>rfl
 .rw[IO h];exact aB e1 (aR (by simp[h]) rfl)
def tF(cs:List (List bk.T)):Prop:=∀c∈cs,T5 c
def mb(d:List af.T)(i:Int):Int:=(gt af d i).2.2.1
def qx(d:List af.T)(k:Nat):md:=(List.range k).map fun i=>decide (mb d ((i:Nat):Int)=1)
theorem am6(d:List af.T)(k:Nat):qx d (k+1)=qx d k++[decide (mb d (k:Int)=1)]:=by unfold qx;rw[asg,d7];rfl
theorem JE(d:List af.T)(k:Nat):(qx d k).length=k:=by unfold qx;simp
def nx{α:Type}(d:cA.T)(r:α):Int×jp×List af.T×jp×jp×jp×List ah.T×List af.T×α:=(d.1,d.2.1,d.2.2.1,d.2.2.2.1,d.2.2.2.2.1,d.2.2.2.2.2.1,d.2.2.2.2.2.2.1,d.2.2.2.2.2.2.2.1,r)
variable{n:Nat}
theorem arz(h:n<=100000):both (decide ((0:Int)<=(n:Int))) (both (decide ((n:Int)<=(n:Int))) (decide ((24:Int)*(n:Int)<=281474976710656)))=true:=by rw[dt atO,dt atO,dt atO];rfl
def EG(R:List cF.T)(i:Int):Nat:=List.length (gt cF R i).2.1
def uy(R:List cF.T)(i:Int):Int:=(gt cF R i).1
def tG(R:List cF.T)(i:Nat):Bool:=decide (EG R (i:Int)<=100)&&decide (uy R (i:Int)<=1099511627776)&&decide (-1099511627776<=uy R (i:Int))
def EK(R:List bD.T)(i:Int):Nat:=List.length (gt bD R i).2.1
def EJ(R:List bD.T)(i:Int):Nat:=List.length (gt bD R i).2.2.1
def tH(R:List bD.T)(i:Nat):Bool:=decide (EK R (i:Int)<=100)&&decide (EJ R (i:Int)<=100)
theorem abd(d:cA.T)(t a w:Int)(y:Bool)(R:List cF.T)(W:List bD.T)(hR:R.length<=100000) :
  Se (t,(0:Int),nx d (a,w,y,R,W,()))=some (match(List.range R.length).all (tG R)with|true=>.inr (t,nx d (a,w,y,R,W,()))|false=>.inl (false,())):=by
 unfold Se;delta gm u3 bM bX;refine rC (fun i:Nat=>(t,(i:Int),nx d (a,w,y,R,W,()))) (tG R) R.length ?_ ?_ ?_ rfl atU
 .intro i hi hp;unfold tG at hp;simp only[act,IR]at hp;obtain⟨⟨h1,h2⟩,h3⟩:=hp;have bz:aw (i:Int) R.length=true:=atT;unfold nx
  try dsimp only
  unfold z9;have e:∀p q:Int,p=q->(atY (t,p,nx d (a,w,y,R,W,())):am Iy Iw)=atY (t,q,nx d (a,w,y,R,W,())):=by rintro _ _ rfl;rfl
  exact aR (aD (show(i:Int)<(R.length:Int) by omega)) (aS bz (ax (aF (show ¬(100:Int)<((EG R (i:Int):Nat):Int) by omega)) (aS bz (ax (aF (show ¬(1099511627776:Int)<uy R (i:Int) by omega)) (aS bz (ax (aF (show ¬uy R (i:Int)<Int.negSucc 1099511627775 by omega)) (e _ _ (cH (x:=(i:Int)+1) atO))))))))
 .intro i hi hp;have bz:aw (i:Int) R.length=true:=atT;unfold nx
  try dsimp only
  unfold z9;refine aR (aD (show(i:Int)<(R.length:Int) by omega)) (aS bz ?_);by_cases h1:(100:Int)<((EG R (i:Int):Nat):Int)
  .exact aR (aD h1) rfl
  refine ax (aF h1) (aS bz ?_);by_cases h2:(1099511627776:Int)<uy R (i:Int)
  .exact aR (aD h2) rfl
  refine ax (aF h2) (aS bz ?_);by_cases h3:uy R (i:Int)<Int.negSucc 1099511627775
  .exact aR (aD h3) rfl
  unfold tG at hp
  grind
 .unfold nx
  try dsimp only
  unfold z9;exact ax (aF (show ¬(R.length:Int)<(R.length:Int) by omega)) rfl
theorem abc(d:cA.T)(t a w:Int)(y:Bool)(R:List cF.T)(W:List bD.T)(hW:W.length<=100000) :
  Sd (t,(0:Int),nx d (a,w,y,R,W,()))=some (match(List.range W.length).all (tH W)with|true=>.inr (t,nx d ())|false=>.inl (false,())):=by
 unfold Sd;delta gm u3 bM bX;refine rC (fun i:Nat=>(t,(i:Int),nx d (a,w,y,R,W,()))) (tH W) W.length ?_ ?_ ?_ rfl atU
 .intro i hi hp;unfold tH at hp;simp only[act,IR]at hp;obtain⟨h1,h2⟩:=hp;have bz:aw (i:Int) W.length=true:=atT;unfold nx
  try dsimp only
  unfold z8;have e:∀p q:Int,p=q->(atY (t,p,nx d (a,w,y,R,W,())):am Ix Iv)=atY (t,q,nx d (a,w,y,R,W,())):=by intros;subst_vars;rfl
  exact aR (aD (show(i:Int)<(W.length:Int) by omega)) (aS bz (ax (aF (show ¬(100:Int)<((EK W (i:Int):Nat):Int) by omega)) (aS bz (ax (aF (show ¬(100:Int)<((EJ W (i:Int):Nat):Int) by omega)) (e _ _ (cH (x:=(i:Int)+1) atO))))))
 .intro i hi hp;have bz:aw (i:Int) W.length=true:=atT;unfold nx
  try dsimp only
  unfold z8;refine aR (aD (show(i:Int)<(W.length:Int) by omega)) (aS bz ?_);by_cases h1:(100:Int)<((EK W (i:Int):Nat):Int)
  .exact aR (aD h1) rfl
  refine ax (aF h1) (aS bz ?_);by_cases h2:(100:Int)<((EJ W (i:Int):Nat):Int)
  .exact aR (aD h2) rfl
  unfold tH at hp
  grind
 .unfold nx
  try dsimp only
  unfold z8;exact ax (aF (show ¬(W.length:Int)<(W.length:Int) by omega)) rfl
def oD(T:List ah.T)(i:Int):List cF.T:=(gt ah T i).2.2.2.1
def oE(T:List ah.T)(i:Int):List bD.T:=(gt ah T i).2.2.2.2.1
def sd(T:List ah.T)(i:Int):Int:=(gt ah T i).2.1
def p4(T:List ah.T)(i:Nat):Bool:=decide ((oD T (i:Int)).length<=6)&&decide ((oE T (i:Int)).length<=6)&&decide (sd T (i:Int)<=100) &&
 (List.range (oD T (i:Int)).length).all (tG (oD T (i:Int)))&&(List.range (oE T (i:Int)).length).all (tH (oE T (i:Int)))
theorem ali(d:cA.T)(hT:d.2.2.2.2.2.2.1.length<=100000) :
  Zen ((0:Int),nx d ())=some (match(List.range d.2.2.2.2.2.2.1.length).all (p4 d.2.2.2.2.2.2.1)with|true=>.inr ()|false=>.inl (false,())):=by
 unfold Zen;delta u9;refine rC (fun i:Nat=>((i:Int),nx d ())) (p4 d.2.2.2.2.2.2.1) d.2.2.2.2.2.2.1.length ?_ ?_ ?_ rfl atU
 .intro i hi hp;unfold p4 at hp;simp only[act,IR]at hp;obtain⟨⟨⟨⟨h1,h2⟩,h3⟩,h4⟩,h5⟩:=hp;have bz:aw (i:Int) (List.length d.2.2.2.2.2.2.1)=true:=atT;have e10:=abd d (i:Int) (gt ah d.2.2.2.2.2.2.1 (i:Int)).1 (sd d.2.2.2.2.2.2.1 (i:Int)) (gt ah d.2.2.2.2.2.2.1 (i:Int)).2.2.1 (oD d.2.2.2.2.2.2.1 (i:Int)) (oE d.2.2.2.2.2.2.1 (i:Int)) atO;have e15:=abc d (i:Int) (gt ah d.2.2.2.2.2.2.1 (i:Int)).1 (sd d.2.2.2.2.2.2.1 (i:Int)) (gt ah d.2.2.2.2.2.2.1 (i:Int)).2.2.1 (oD d.2.2.2.2.2.2.1 (i:Int)) (oE d.2.2.2.2.2.2.1 (i:Int)) atO;rw[h4]at e10;rw[h5]at e15;unfold nx at e10 e15 |-
  try dsimp only
  unfold Ag;have e:∀p q:Int,p=q->(atY (p,nx d ()):am IG IC)=atY (q,nx d ()):=by rintro _ _ rfl;rfl
  exact aR (aD (show(i:Int)<(d.2.2.2.2.2.2.1.length:Int) by omega)) (aS bz (ax (aF (show ¬(6:Int)<(((oD d.2.2.2.2.2.2.1 (i:Int)).length:Nat):Int) by omega)) (ax (aF (show ¬(6:Int)<(((oE d.2.2.2.2.2.2.1 (i:Int)).length:Nat):Int) by omega)) (ax (aF (show ¬(100:Int)<sd d.2.2.2.2.2.2.1 (i:Int) by omega)) ((bS e10).trans ((bS e15).trans (e _ _ (cH (x:=(i:Int)+1) atO))))))))
 .intro i hi hp;have bz:aw (i:Int) (List.length d.2.2.2.2.2.2.1)=true:=atT;unfold nx
  try dsimp only
  unfold Ag;refine aR (aD (show(i:Int)<(d.2.2.2.2.2.2.1.length:Int) by omega)) (aS bz ?_);by_cases h1:(6:Int)<(((oD d.2.2.2.2.2.2.1 (i:Int)).length:Nat):Int)
  .exact aR (aD h1) rfl
  refine ax (aF h1) ?_;by_cases h2:(6:Int)<(((oE d.2.2.2.2.2.2.1 (i:Int)).length:Nat):Int)
  .exact aR (aD h2) rfl
  refine ax (aF h2) ?_;by_cases h3:(100:Int)<sd d.2.2.2.2.2.2.1 (i:Int)
  .exact aR (aD h3) rfl
  refine ax (aF h3) ?_;have e10:=abd d (i:Int) (gt ah d.2.2.2.2.2.2.1 (i:Int)).1 (sd d.2.2.2.2.2.2.1 (i:Int)) (gt ah d.2.2.2.2.2.2.1 (i:Int)).2.2.1 (oD d.2.2.2.2.2.2.1 (i:Int)) (oE d.2.2.2.2.2.2.1 (i:Int)) atO;have e15:=abc d (i:Int) (gt ah d.2.2.2.2.2.2.1 (i:Int)).1 (sd d.2.2.2.2.2.2.1 (i:Int)) (gt ah d.2.2.2.2.2.2.1 (i:Int)).2.2.1 (oD d.2.2.2.2.2.2.1 (i:Int)) (oE d.2.2.2.2.2.2.1 (i:Int)) atO;refine(bS e10).trans ?_;cases h4:(List.range (oD d.2.2.2.2.2.2.1 (i:Int)).length).all (tG (oD d.2.2.2.2.2.2.1 (i:Int)))with
  |false=>rfl|true=>
   refine(bS e15).trans ?_;cases h5:(List.range (oE d.2.2.2.2.2.2.1 (i:Int)).length).all (tH (oE d.2.2.2.2.2.2.1 (i:Int)))with
   |false=>rfl|true=>
    unfold p4 at hp
    grind
 .unfold nx
  try dsimp only
  unfold Ag;exact ax (aF (show ¬(d.2.2.2.2.2.2.1.length:Int)<(d.2.2.2.2.2.2.1.length:Int) by omega)) rfl
def xq(d:cA.T):Prop:=List.length d.2.1<=2100/\List.length d.2.2.1<=2100/\List.length d.2.2.2.2.2.2.2.1<=2100/\List.length d.2.2.2.1<=1100/\List.length d.2.2.2.2.1<=1100/\List.length d.2.2.2.2.2.1<=1100/\List.length d.2.2.2.2.2.2.1<=6 /\
 (List.range d.2.2.2.2.2.2.1.length).all (p4 d.2.2.2.2.2.2.1)=true
theorem anj(d:cA.T):∃b,Sq (d,())=some (b,())/\(b=true->xq d):=by
 have key:∀{b:Bool},(b=true->xq d)->Sq (d,())=some (b,())->∃b,Sq (d,())=some (b,())/\(b=true->xq d):=fun h e=>⟨_,e,h⟩;by_cases h1:(2100:Int)<((List.length d.2.1:Nat):Int)
 .exact key (fun h=>by cases h) (aR (aD h1) rfl)
 by_cases h2:(2100:Int)<((List.length d.2.2.1:Nat):Int)
 .exact key (fun h=>by cases h) (ax (aF h1) (aR (aD h2) rfl))
 by_cases h3:(2100:Int)<((List.length d.2.2.2.2.2.2.2.1:Nat):Int)
 .exact key (fun h=>by cases h) (ax (aF h1) (ax (aF h2) (aR (aD h3) rfl)))
 by_cases h4:(1100:Int)<((List.length d.2.2.2.1:Nat):Int)
 .exact key (fun h=>by cases h) (ax (aF h1) (ax (aF h2) (ax (aF h3) (aR (aD h4) rfl))))
 by_cases h5:(1100:Int)<((List.length d.2.2.2.2.1:Nat):Int)
 .exact key (fun h=>by cases h) (ax (aF h1) (ax (aF h2) (ax (aF h3) (ax (aF h4) (aR (aD h5) rfl)))))
 by_cases h6:(1100:Int)<((List.length d.2.2.2.2.2.1:Nat):Int)
 .exact key (fun h=>by cases h) (ax (aF h1) (ax (aF h2) (ax (aF h3) (ax (aF h4) (ax (aF h5) (aR (aD h6) rfl))))))
 by_cases h7:(6:Int)<((List.length d.2.2.2.2.2.2.1:Nat):Int)
 .exact key (fun h=>by cases h) (ax (aF h1) (ax (aF h2) (ax (aF h3) (ax (aF h4) (ax (aF h5) (ax (aF h6) (aR (aD h7) rfl)))))))
 have e4:=ali d atO;cases h8:(List.range d.2.2.2.2.2.2.1.length).all (p4 d.2.2.2.2.2.2.1)with
 |false=>rw[h8]at e4;exact key (fun h=>by cases h) (ax (aF h1) (ax (aF h2) (ax (aF h3) (ax (aF h4) (ax (aF h5) (ax (aF h6) (ax (aF h7) (aB e4 rfl))))))))
 |true=>rw[h8]at e4;exact key (fun _=>⟨atO,atO,atO,atO,atO,atO,atO,h8⟩) (ax (aF h1) (ax (aF h2) (ax (aF h3) (ax (aF h4) (ax (aF h5) (ax (aF h6) (ax (aF h7) (aB e4 rfl))))))))
theorem ani(d:cA.T):∃b,Zcw (d,())=some (b,())/\(b=true->xq d):=by
 obtain⟨b,e,h⟩:=anj d;cases b with
 |false=>exact⟨false,aB e rfl,fun q=>by cases q⟩
 |true=>
  by_cases h1:((List.length d.2.2.2.2.2.2.2.1:Nat):Int)<=100
  .by_cases h2:((List.length d.2.1:Nat):Int)<=100
   .by_cases h3:((List.length d.2.2.1:Nat):Int)<=100
    .exact⟨_,aB e (aR rfl (aR (aD h1) (aR (aD h2) (aR (aD h3) rfl)))),fun _=>h rfl⟩
    .exact⟨false,aB e (aR rfl (aR (aD h1) (aR (aD h2) (ax (aF h3) rfl)))),fun q=>by cases q⟩
   .exact⟨false,aB e (aR rfl (aR (aD h1) (ax (aF h2) rfl))),fun q=>by cases q⟩
  .exact⟨false,aB e (aR rfl (ax (aF h1) rfl)),fun q=>by cases q⟩
def n9(C:List (List bk.T))(i:Int):Nat:=List.length (gt (.sl bk) C i)
def uN(I:List md)(i:Int):Nat:=List.length (gt (.sl .bool) I i)
theorem anO(aJ:md)(C:List (List bk.T))(I:List md)(hC:C.length<=100000) :
  Zek (I,(0:Int),aJ,C,())=some (match(List.range C.length).all (fun i=>decide (n9 C ((i:Nat):Int)<=100))with|true=>.inr (I,())|false=>.inl (false,())):=by
 unfold Zek;delta u4;refine rC (fun i:Nat=>(I,(i:Int),aJ,C,())) (fun i=>decide (n9 C ((i:Nat):Int)<=100)) C.length ?_ ?_ ?_ rfl atU
 .intro i hi hp;have hp:=aig hp
  try dsimp only
  unfold Af;have e:∀p q:Int,p=q->(atY (I,p,aJ,C,()):am IF IB)=atY (I,q,aJ,C,()):=by rintro _ _ rfl;rfl
  exact aR (aD (show(i:Int)<(C.length:Int) by omega)) (aS atT (ax (aF (show ¬(100:Int)<((n9 C (i:Int):Nat):Int) by omega)) (e _ _ (cH (x:=(i:Int)+1) atO))))
 .intro i hi hp;have hp:=asK hp
  try dsimp only
  unfold Af;exact aR (aD (show(i:Int)<(C.length:Int) by omega)) (aS atT (aR (aD (show(100:Int)<((n9 C (i:Int):Nat):Int) by omega)) rfl))
 .try dsimp only
  unfold Af;exact ax (aF (show ¬(C.length:Int)<(C.length:Int) by omega)) rfl
theorem anN(I:List md)(hI:I.length<=100000) :
  Zej (I,(0:Int),())=some (match(List.range I.length).all (fun i=>decide (uN I ((i:Nat):Int)<=200))with|true=>.inr ()|false=>.inl (false,())):=by
 unfold Zej;delta u2;refine rC (fun i:Nat=>(I,(i:Int),())) (fun i=>decide (uN I ((i:Nat):Int)<=200)) I.length ?_ ?_ ?_ rfl atU
 .intro i hi hp;have hp:=aig hp
  try dsimp only
  unfold Ae;have e:∀p q:Int,p=q->(atY (I,p,()):am IE IA)=atY (I,q,()):=by rintro _ _ rfl;rfl
  exact aR (aD (show(i:Int)<(I.length:Int) by omega)) (aS atT (ax (aF (show ¬(200:Int)<((uN I (i:Int):Nat):Int) by omega)) (e _ _ (cH (x:=(i:Int)+1) atO))))
 .intro i hi hp;have hp:=asK hp
  try dsimp only
  unfold Ae;exact aR (aD (show(i:Int)<(I.length:Int) by omega)) (aS atT (aR (aD (show(200:Int)<((uN I (i:Int):Nat):Int) by omega)) rfl))
 .try dsimp only
  unfold Ae;exact ax (aF (show ¬(I.length:Int)<(I.length:Int) by omega)) rfl
def YY(aJ:md)(C:List (List bk.T))(I:List md):Prop:=aJ.length<=200/\C.length<=10/\I.length<=40/\(∀i:Nat,i<C.length->n9 C (i:Int)<=100)/\∀i:Nat,i<I.length->uN I (i:Int)<=200
theorem anh(d:cA.T)(aJ:md)(C:List (List bk.T))(I:List md):∃b,Zfz (d,(aJ,C,()),I,())=some (b,())/\(b=true->xq d/\YY aJ C I):=by
 obtain⟨b,e,h⟩:=ani d;cases b with
 |false=>exact⟨false,aB e (aR rfl rfl),fun q=>by cases q⟩
 |true=>
  by_cases h1:(200:Int)<((aJ.length:Nat):Int)
  .exact⟨false,aB e (ax rfl (aR (aD h1) rfl)),fun q=>by cases q⟩
  by_cases h2:(10:Int)<((C.length:Nat):Int)
  .exact⟨false,aB e (ax rfl (ax (aF h1) (aR (aD h2) rfl))),fun q=>by cases q⟩
  by_cases h3:(40:Int)<((I.length:Nat):Int)
  .exact⟨false,aB e (ax rfl (ax (aF h1) (ax (aF h2) (aR (aD h3) rfl)))),fun q=>by cases q⟩
  have e4:=anO aJ C I atO;have e9:=anN I atO;cases h4:(List.range C.length).all (fun i=>decide (n9 C ((i:Nat):Int)<=100))with
  |false=>rw[h4]at e4;exact⟨false,aB e (ax rfl (ax (aF h1) (ax (aF h2) (ax (aF h3) (aB e4 rfl))))),fun q=>by cases q⟩
  |true=>
   rw[h4]at e4;cases h5:(List.range I.length).all (fun i=>decide (uN I ((i:Nat):Int)<=200))with
   |false=>rw[h5]at e9;exact⟨false,aB e (ax rfl (ax (aF h1) (ax (aF h2) (ax (aF h3) (aB e4 (aB e9 rfl)))))),fun q=>by cases q⟩
   |true=>
    rw[h5]at e9;have h4':∀i:Nat,i<C.length->n9 C (i:Int)<=100:=by simpa[In]using h4
    have h5':∀i:Nat,i<I.length->uN I (i:Int)<=200:=by simpa[In]using h5
    exact⟨true,aB e (ax rfl (ax (aF h1) (ax (aF h2) (ax (aF h3) (aB e4 (aB e9 rfl)))))),fun _=>⟨h rfl,atO,atO,atO,h4',h5'⟩⟩
def xy(L:md)(i:Int):Bool:=gt .bool L i
def py(T:List af.T)(aJ:md)(i:Nat):Bool:=decide (mb T (i:Int)=2)||(decide (mb T (i:Int)=1) == xy aJ (i:Int))
def wK(T:List ah.T)(i:Int):Bool:=(gt ah T i).2.2.1
def pM(T:List ah.T)(C:List (List bk.T))(i:Nat):Bool:=wK T (i:Int)||decide (n9 C (i:Int)=0)
theorem anD(d:cA.T)(T:List af.T)(aJ:md)(C:List (List bk.T))(hT:T.length<=100000)(hl:aJ.length=T.length) :
  Zlq (T,(T.length:Int),(0:Int),nx d (aJ,C,()))=some (match(List.range T.length).all (py T aJ)with|true=>.inr (nx d (aJ,C,()))|false=>.inl ((14:Int),())):=by
 unfold Zlq;delta kI u1 bM bX;refine rC (fun i:Nat=>(T,(T.length:Int),(i:Int),nx d (aJ,C,()))) (py T aJ) T.length ?_ ?_ ?_ rfl atU
 .intro i hi hp;unfold py at hp;unfold nx
  try dsimp only
  unfold At;have e:∀p q:Int,p=q->(atY (T,(T.length:Int),p,nx d (aJ,C,())):am IV IK)=atY (T,(T.length:Int),q,nx d (aJ,C,())):=by rintro _ _ rfl;rfl
  refine aR (aD (show(i:Int)<(T.length:Int) by omega)) (aS atT ?_);by_cases h2:mb T (i:Int)=2
  .exact ax (show Bool.not (decide (mb T (i:Int)=2))=false by rw[dt h2];rfl) (e _ _ (cH (x:=(i:Int)+1) atO))
  .rw[eY h2,Bool.false_or]at hp;refine aR (show Bool.not (decide (mb T (i:Int)=2))=true by rw[eY h2];rfl) (aS atT (ax ?_ (e _ _ (cH (x:=(i:Int)+1) atO))));show Bool.not (@decide _ (Bool.decEq (decide (mb T (i:Int)=1)) (xy aJ (i:Int))))=false;cases q1:decide (mb T (i:Int)=1)<;>cases q2:xy aJ (i:Int)<;>rw[q1,q2]at hp<;>first|rfl|cases hp
 .intro i hi hp;unfold py at hp;rw[asM]at hp;obtain⟨h2,h3⟩:=hp;unfold nx
  try dsimp only
  unfold At;refine aR (aD (show(i:Int)<(T.length:Int) by omega)) (aS atT (aR (show Bool.not (decide (mb T (i:Int)=2))=true by rw[h2];rfl) (aS atT (aR ?_ rfl))));show Bool.not (@decide _ (Bool.decEq (decide (mb T (i:Int)=1)) (xy aJ (i:Int))))=true;cases q1:decide (mb T (i:Int)=1)<;>cases q2:xy aJ (i:Int)<;>rw[q1,q2]at h3<;>first|rfl|cases h3
 .unfold nx
  try dsimp only
  unfold At;exact ax (aF (show ¬(T.length:Int)<(T.length:Int) by omega)) rfl
theorem anc(T:List ah.T)(aJ:md)(C:List (List bk.T))(hT:T.length<=100000)(hl:C.length=T.length) :
  Zku (T,(T.length:Int),(0:Int),aJ,C,())=some (match(List.range T.length).all (pM T C)with|true=>.inr ()|false=>.inl ((14:Int),())):=by
 unfold Zku;delta u5;refine rC (fun i:Nat=>(T,(T.length:Int),(i:Int),aJ,C,())) (pM T C) T.length ?_ ?_ ?_ rfl atU
 .intro i hi hp;unfold pM at hp
  try dsimp only
  unfold Ap;have e:∀p q:Int,p=q->(atY (T,(T.length:Int),p,aJ,C,()):am IL II)=atY (T,(T.length:Int),q,aJ,C,()):=by rintro _ _ rfl;rfl
  refine aR (aD (show(i:Int)<(T.length:Int) by omega)) (aS atT ?_);cases h2:wK T (i:Int)with|true=>exact ax (show Bool.not (wK T (i:Int))=false by rw[h2];rfl) (e _ _ (cH (x:=(i:Int)+1) atO))|false=>rw[h2,Bool.false_or]at hp;have hp:=aig hp;exact aR (show Bool.not (wK T (i:Int))=true by rw[h2];rfl) (aS atT (ax (aF (show ¬(0:Int)<((n9 C (i:Int):Nat):Int) by omega)) (e _ _ (cH (x:=(i:Int)+1) atO))))
 .intro i hi hp;unfold pM at hp;rw[asM]at hp;obtain⟨h2,h3⟩:=hp;have h3:=asK h3
  try dsimp only
  unfold Ap;exact aR (aD (show(i:Int)<(T.length:Int) by omega)) (aS atT (aR (show Bool.not (wK T (i:Int))=true by rw[h2];rfl) (aS atT (aR (aD (show(0:Int)<((n9 C (i:Int):Nat):Int) by omega)) rfl))))
 .try dsimp only
  unfold Ap;exact ax (aF (show ¬(T.length:Int)<(T.length:Int) by omega)) rfl
variable{d:cA.T}
theorem TO{s:oi.T}(h:jG d s=0):Pl.eZ (d8 d)=0/\s.1.length=d.2.2.1.length/\s.2.1.length=d.2.2.2.2.2.2.1.length:=by
 unfold jG at h;by_cases hc:Pl.eZ (d8 d)=0
 .rw[BT (by simpa using hc)]at h;cases q:lu d s with
  |false=>rw[q]at h;cases h
  |true=>unfold lu at q;simp only[act,IR]at q;exact⟨hc,q.1.1,q.1.2⟩
 .rw[IO hc]at h;exact absurd h hc
def mT(d:cA.T)(aJ:md)(C:List (List bk.T)):Int:=match decide (jG d (aJ,C,())=0)with|false=>jG d (aJ,C,())|true=>match(List.range d.2.2.1.length).all (py d.2.2.1 aJ)with|false=>14|true=>match(List.range d.2.2.2.2.2.2.1.length).all (pM d.2.2.2.2.2.2.1 C)with|false=>14|true=>0
theorem amS(d:cA.T)(aJ:md)(C:List (List bk.T))(ft:Fit (d8 d))(hL:d.2.2.1.length<=100000)(hT:d.2.2.2.2.2.2.1.length<=100000) :
  Zod (d,(aJ,C,()),())=some (mT d aJ C,()):=by
 have e1:=TN d (aJ,C,()) ft hT;unfold mT;by_cases h:jG d (aJ,C,())=0
 .obtain⟨_,h2,h3⟩:=TO h;have e5:=anD d d.2.2.1 aJ C hL h2;have e11:=anc d.2.2.2.2.2.2.1 aJ C hT h3;rw[dt h];refine aB e1 (ax (by rw[h];rfl) ((bS e5).trans ?_));cases(List.range d.2.2.1.length).all (py d.2.2.1 aJ)with|false=>rfl|true=>refine(bS e11).trans ?_;cases(List.range d.2.2.2.2.2.2.1.length).all (pM d.2.2.2.2.2.2.1 C)<;>rfl
 .rw[eY h];exact aB e1 (aR (by simp[h]) rfl)
theorem wf_i64{n:Int}(h:(Lit.int .i64 n).wf=true):dD n:=by
 simp only[Lit.wf,act,IR]at h;have h1:IntKind.i64.min = -9223372036854775808:=atS
 have h2:IntKind.i64.max=9223372036854775807:=atS
 rw[h1,h2]at h;exact h
theorem wf_u64{n:Int}(h:(Lit.int .u64 n).wf=true):0<=n/\n<=18446744073709551615:=by
 simp only[Lit.wf,act,IR]at h;have h1:IntKind.u64.min=0:=atS
 have h2:IntKind.u64.max=18446744073709551615:=atS
 rw[h1,h2]at h;exact h
theorem vg{L:jp}(h:nG (.sl .I) L):∀x∈L,dD x:=fun x hx=>wf_i64 (h.2 x hx)
theorem alx{c:List bk.T}(h:nG (.sl bk) c):T5 c:=by intro i hi;have hg:=ba hi;have hc:=h.2 _ (By hi);unfold jT m9;rw[bI (σ:=bk) hg];exact⟨wf_u64 hc.1,wf_u64 hc.2.1⟩
theorem aly{C:List (List bk.T)}(h:nG (.sl (.sl bk)) C):tF C:=fun c hc=>alx (h.2 c hc)
theorem yY{β:Type}(f:α->β)(L:List α){k:Nat}(h:L.length<=n)(hk:n<=k):(L.map f).length<=k:=by rw[aP];omega
theorem ajW{m:ah.T}(h:nG ah m)(hr:List.length m.2.2.2.1<=6)(hw:List.length m.2.2.2.2.1<=6)(hword:@LE.le Int _ m.2.1 100)
  (h10:ng (α:=cF.T) (fun r=>List.length r.2.1<=100/\@LE.le Int _ r.1 1099511627776/\@LE.le Int _ (-1099511627776) r.1) m.2.2.2.1) (h15:ng (α:=bD.T) (fun r=>List.length r.2.1<=100/\List.length r.2.2.1<=100) m.2.2.2.2.1):zb (qe m):=by
 obtain⟨a1,a2,a3,a4,a5,_⟩:=h;refine⟨⟨wf_i64 a2,Int.le_trans hword atS⟩,wf_i64 a1,?_,?_,?_,?_⟩
 .exact yY uz _ hr atS
 .exact yY vf _ hw atS
 .intro r hr;obtain⟨r',hr',rfl⟩:=ro.1 hr;obtain⟨b1,b2,b3⟩:=h10 r' hr';have hk:=a4.2 r' hr';exact⟨IS b1 atS,b3,b2,vg hk.2.1⟩
 .intro r hr;obtain⟨r',hr',rfl⟩:=ro.1 hr;obtain⟨b1,b2⟩:=h15 r' hr';have hk:=a5.2 r' hr';exact⟨IS b1 atS,IS b2 atS,wf_i64 hk.1,vg hk.2.1,vg hk.2.2.1⟩
theorem Oz{α:Type}{σ:Sh}{L:List σ.T}{p:Nat->Bool}{Q:σ.T->Prop}(h:(List.range L.length).all p=true)(hq:∀i x,L[i]?=some x->p i=true->Q x):ng Q L:=by
 have h':∀i,i<L.length->p i=true:=by simpa[In]using h
 intro x hx;obtain⟨i,hi⟩:=Fr hx;exact hq i x hi (h' i (aaz hi))
theorem ak8(h:nG cA d)(hl:xq d):Fit (d8 d):=by
 obtain⟨a1,a2,a3,a4,a5,a6,a7,a8,_⟩:=h;obtain⟨b1,b2,b3,b4,b5,b6,b7,b8⟩:=hl;have lat3:ng (α:=af.T) (fun x=>dD x.1/\dD x.2.1/\dD x.2.2.1) d.2.2.1:=fun x hx=>by have:=a3.2 x hx;exact⟨wf_i64 this.1,wf_i64 this.2.1,wf_i64 this.2.2.1⟩
 have and3:ng (α:=af.T) (fun x=>dD x.1/\dD x.2.1/\dD x.2.2.1) d.2.2.2.2.2.2.2.1:=fun x hx=>by have:=a8.2 x hx;exact⟨wf_i64 this.1,wf_i64 this.2.1,wf_i64 this.2.2.1⟩
 refine⟨wf_i64 a1,⟨IS b1 atS,vg a2⟩,⟨?_,?_⟩,⟨IS b4 atS,vg a4⟩,⟨IS b5 atS,vg a5⟩,⟨IS b6 atS,vg a6⟩,⟨?_,?_⟩,⟨?_,?_⟩⟩
 .exact yY oe _ b2 atS
 .intro l hl;obtain⟨x,hx,rfl⟩:=ro.1 hl;exact lat3 x hx
 .exact yY qe _ b7 atS
 .intro m hm;obtain⟨x,hx,rfl⟩:=ro.1 hm;have hQ:=Oz (α:=Unit) (σ:=ah) (Q:=fun x=>List.length x.2.2.2.1<=6/\List.length x.2.2.2.2.1<=6/\@LE.le Int _ x.2.1 100/\(List.range (List.length x.2.2.2.1)).all (tG x.2.2.2.1)=true/\(List.range (List.length x.2.2.2.2.1)).all (tH x.2.2.2.2.1)=true) b8 (fun i x hi hp=>by unfold p4 oD oE sd at hp;rw[bI (σ:=ah) hi]at hp;simp only[act,IR]at hp;exact⟨hp.1.1.1.1,hp.1.1.1.2,hp.1.1.2,hp.1.2,hp.2⟩) x hx;obtain⟨c1,c2,c3,c4,c5⟩:=hQ;refine ajW (a7.2 x hx) c1 c2 c3 ?_ ?_
  .exact Oz (α:=Unit) (σ:=cF) c4 (fun i r hi hp=>by unfold tG EG uy at hp;rw[bI (σ:=cF) hi]at hp;simp only[act,IR]at hp;exact⟨hp.1.1,hp.1.2,hp.2⟩)
  .exact Oz (α:=Unit) (σ:=bD) c5 (fun i r hi hp=>by unfold tH EK EJ at hp;rw[bI (σ:=bD) hi]at hp;simp only[act,IR]at hp;exact hp)
 .exact yY qa _ b3 atS
 .intro l hl;obtain⟨x,hx,rfl⟩:=ro.1 hl;exact and3 x hx
