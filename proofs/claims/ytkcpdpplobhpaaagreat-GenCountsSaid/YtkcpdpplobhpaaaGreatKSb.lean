import Derived.Test.YtkcpdpplobhpaaaGreatKSa
import Derived.Test.YtkcpdpplobhpaaaGreatKNe
set_option linter.unusedVariables false
set_option linter.unusedSimpArgs false
set_option linter.unnecessarySimpa false
section
namespace Go.Proofs.YtkcpdpplobhpaaaGreat.V
open Go Go.RowKit
theorem mD{D O:Type}{B:D->Option (D⊕O)}(f:Nat->D)(p:Nat->Bool){bad good:O}(n:Nat)(hs:∀i,i<n->p i=true->B (f i)=some (.inl (f (i+1))))(hf:∀i,i<n->p i=false->B (f i)=some (.inr bad))
  (he:B (f n)=some (.inr good)) {d:D}(hd:d=f 0) {N:Nat}(hN:n<N):aE B N d=some (match(List.range n).all p with|true=>good|false=>bad):=by
 subst hd;have hall:((List.range n).all p=true↔∀i,i<n->p i=true):=by simp[List.all_eq_true]
 have main:∀k i,i+k=n->(∀j,j<i->p j=true)->∀N,k<N->aE B N (f i)=some (match(List.range n).all p with|true=>good|false=>bad):=by
  intro k
  induction k with
  |zero=>
   intro i hi hp N hN;have:i=n:=by omega
   subst this;obtain⟨N,rfl⟩:∃M,N=M+1:=⟨N-1,by omega⟩;rw[hall.2 hp];simp only[aE,he]
  |succ k ih=>
   intro i hi hp N hN;obtain⟨N,rfl⟩:∃M,N=M+1:=⟨N-1,by omega⟩;cases hq:p i with
   |true=>
    simp only[aE,hs i (by omega) hq];exact ih (i+1) (by omega) (fun j hj=>by
     by_cases e:j=i
     .subst e;exact hq
     .exact hp j (by omega)) N (by omega)
   |false=>
    have hz:(List.range n).all p=false:=by cases hz:(List.range n).all p with|false=>rfl|true=>have:=hall.1 hz i (by omega);rw[hq]at this;cases this
    simp only[aE,hf i (by omega) hq,hz]
 exact main n 0 (by omega) (fun j hj=>by omega) N hN
def fV(v w:Int):Bool:=decide (v / 2^w.toNat=0)
theorem pY{v w:Int}(hw:0<=w/\w<=64):AJ (v,(w,()))=some (fV v w,()):=by
 have hb:AO (w,())=some (w,()):=by
  show tw w=_;unfold tw;have h1:bO (decide ((64:Int)<w)) (64:Int) w=w:=by unfold bO;rw[decide_eq_false (by omega)]
  have h2:bO (decide (w<(0:Int))) (0:Int) w=w:=by unfold bO;rw[decide_eq_false (by omega)]
  show some (bO (decide (bO (decide ((64:Int)<w)) (64:Int) w<0)) 0 (bO (decide ((64:Int)<w)) (64:Int) w),())=_;rw[h1,h2]
 show Lx AO v w=_;unfold Lx;refine(bw hb).trans (aj (al hw.1) ?_);unfold fV;have hm:min w.toNat 64=w.toNat:=by omega
 show some (decide (Int.fdiv v (2^(min w.toNat 64))=0),())=_;rw[hm,Int.fdiv_eq_ediv_of_nonneg _ (Int.pow_nonneg (by decide))]
theorem f8{x:Int}(h:0<=x/\x<=18446744073709551615):IntKind.wrap (.u64:IntKind) x=x:=by unfold IntKind.wrap;simp[IntKind.bits,IntKind.signed];omega
theorem pW{v w:Int}(hv:0<=v/\v<=18446744073709551615)(hw:0<=w/\w<=64):nH (v,(w,()))=some (fV v w,()):=by
 obtain⟨W,rfl⟩:=Int.eq_ofNat_of_zero_le hw.1;have hL:Yj (v,((W:Int),((0:Int),())))=some (v / 2^W,()):=by
  unfold Yj;delta u3;refine bN (fun k:Nat=>(v / 2^k,((W:Int),((k:Int),())))) W (by rw[Int.pow_zero,Int.ediv_one];rfl) ?_ ?_ (aW (by omega))
  .intro k hk;have h0:0<=v / 2^k:=Int.ediv_nonneg hv.1 (Int.pow_nonneg (by decide));have h1:v / 2^k<=v:=Int.ediv_le_self _ hv.1
   try dsimp only
   unfold AA;have hsel:aR true (@decide _ (Int.decLt (k:Int) (64:Int))) false=decide ((k:Int)<64):=by unfold aR;cases decide ((k:Int)<64)<;>rfl
   rw[fb (al (by omega)),hsel,fb (al (by omega))];rw[Int.tdiv_eq_ediv_of_nonneg h0,f8 ⟨Int.ediv_nonneg h0 (by decide),by omega⟩,bf (x:=(k:Int)+1) (by omega),Int.ediv_ediv_of_nonneg (Int.pow_nonneg (by decide)),<-Int.pow_succ];rfl
  .try dsimp only
   unfold AA;rw[dm (aw (by omega))];rfl
 exact af hL rfl
def cR(L:List aq.T)(i:Int):Int:=(gt aq L i).1
def fD(L:List aq.T)(i:Int):Int:=(gt aq L i).2.1
def gm(a w:Int)(L:List aq.T)(i:Nat):Bool:=!decide (fD L (i:Int)=0)&&fV (cR L (i:Int)) a&&fV (fD L (i:Int)) w&&(decide (i=0)||decide (cR L ((i:Int)-1)<cR L (i:Int)))
def gj(a w:Int)(L:List aq.T):Bool:=decide (1<=a)&&decide (a<=62)&&decide (1<=w)&&decide (w<=64)&&decide (L.length<=4096)&&(List.range L.length).all (gm a w L)
theorem Zzj{a w:Int}(ha:1<=a/\a<=62)(hw:1<=w/\w<=64)(L:List aq.T)(hl:L.length<=4096) :
  K5 (a,(w,(L,(L,((L.length:Int),((0:Int),()))))))=some (match(List.range L.length).all (gm a w L)with|true=>.inr ()|false=>.inl (false,())):=by
 unfold K5;delta u6;refine mD (fun i:Nat=>(a,(w,(L,(L,((L.length:Int),((i:Int),()))))))) (gm a w L) L.length ?_ ?_ ?_ rfl (aW (by omega))
 .intro i hi hp;unfold gm at hp;simp only[Bool.and_eq_true,Bool.not_eq_true',decide_eq_false_iff_not]at hp;obtain⟨⟨⟨h1,h2⟩,h3⟩,h4⟩:=hp;have e1:=pY (v:=cR L (i:Int)) (w:=a) ⟨by omega,by omega⟩;have e2:=pY (v:=fD L (i:Int)) (w:=w) ⟨by omega,by omega⟩
  try dsimp only
  unfold tu;refine av (al (show(i:Int)<(L.length:Int) by omega)) (aj (aA ⟨by omega,by omega⟩) (ao (aw h1) ((bw e1).trans (ao (by rw[h2];rfl) ((bw e2).trans (ao (by rw[h3];rfl) ?_))))));have e:∀p q:Int,p=q->(some (.inl (a,(w,(L,(L,((L.length:Int),(p,()))))))):Option (TL Ay.σs⊕Out Ah))=some (.inl (a,(w,(L,(L,((L.length:Int),(q,()))))))):=by rintro _ _ rfl;rfl
  by_cases h0:i=0
  .exact ao (aw (show ¬(0:Int)<(i:Int) by omega)) (e _ _ (bf (x:=(i:Int)+1) (by omega)))
  .have hm:IntKind.wrap (.i64:IntKind) ((i:Int)-1)=(i:Int)-1:=bf (by omega);rw[hm];simp only[Bool.or_eq_true,decide_eq_true_eq]at h4;refine av (al (show(0:Int)<(i:Int) by omega)) (aj (aA ⟨by omega,by omega⟩) (ao (aw (show ¬cR L (i:Int)<=cR L ((i:Int)-1) by omega)) (e _ _ (bf (x:=(i:Int)+1) (by omega)))))
 .intro i hi hp
  try dsimp only
  unfold tu;refine av (al (show(i:Int)<(L.length:Int) by omega)) (aj (aA ⟨by omega,by omega⟩) ?_);by_cases h1:fD L (i:Int)=0
  .exact av (al h1) rfl
  refine ao (aw h1) ?_;have e1:=pY (v:=cR L (i:Int)) (w:=a) ⟨by omega,by omega⟩;have e2:=pY (v:=fD L (i:Int)) (w:=w) ⟨by omega,by omega⟩;refine(bw e1).trans ?_;cases h2:fV (cR L (i:Int)) a with|false=>exact av rfl rfl|true=>refine ao rfl ((bw e2).trans ?_);cases h3:fV (fD L (i:Int)) w with|false=>exact av rfl rfl|true=>refine ao rfl ?_;unfold gm at hp;rw[decide_eq_false h1,h2,h3]at hp;simp only[Bool.not_false,Bool.and_self,Bool.true_and,Bool.or_eq_false_iff,decide_eq_false_iff_not]at hp;have hm:IntKind.wrap (.i64:IntKind) ((i:Int)-1)=(i:Int)-1:=bf (by omega);rw[hm];exact av (al (show(0:Int)<(i:Int) by omega)) (aj (aA ⟨by omega,by omega⟩) (av (al (show cR L (i:Int)<=cR L ((i:Int)-1) by omega)) rfl))
 .try dsimp only
  unfold tu;exact ao (aw (show ¬(L.length:Int)<(L.length:Int) by omega)) rfl
theorem ag7(a w:Int)(L:List aq.T):Yv (a,(w,(L,())))=some (gj a w L,()):=by
 show Lq AJ K5 a w L=_;unfold Lq gj;by_cases h1:a<1
 .rw[decide_eq_false (show ¬1<=a by omega)];exact av (al h1) rfl
 rw[decide_eq_true (show 1<=a by omega)];refine ao (aw h1) ?_;by_cases h2:62<a
 .rw[decide_eq_false (show ¬a<=62 by omega)];exact av (al h2) rfl
 rw[decide_eq_true (show a<=62 by omega)];refine ao (aw h2) ?_;by_cases h3:w<1
 .rw[decide_eq_false (show ¬1<=w by omega)];exact av (al h3) rfl
 rw[decide_eq_true (show 1<=w by omega)];refine ao (aw h3) ?_;by_cases h4:64<w
 .rw[decide_eq_false (show ¬w<=64 by omega)];exact av (al h4) rfl
 rw[decide_eq_true (show w<=64 by omega)];refine ao (aw h4) ?_;by_cases h5:(4096:Int)<(L.length:Int)
 .rw[decide_eq_false (show ¬L.length<=4096 by omega)];exact av (al h5) rfl
 rw[decide_eq_true (show L.length<=4096 by omega)];refine ao (aw h5) ((bw (Zzj ⟨by omega,by omega⟩ ⟨by omega,by omega⟩ L (by omega))).trans ?_);cases(List.range L.length).all (gm a w L)<;>rfl
def mM(L:List aq.T):Prop:=∀i:Nat,i<L.length->(0<=cR L (i:Int)/\cR L (i:Int)<=18446744073709551615)/\(0<=fD L (i:Int)/\fD L (i:Int)<=18446744073709551615)
theorem Zzg{a w:Int}(ha:1<=a/\a<=62)(hw:1<=w/\w<=64)(L:List aq.T)(hl:L.length<=4096)(hok:mM L) :
  Kr (a,(w,(L,((0:Int),()))))=some (match(List.range L.length).all (gm a w L)with|true=>.inr ()|false=>.inl (false,())):=by
 unfold Kr;delta u4;refine mD (fun i:Nat=>(a,(w,(L,((i:Int),()))))) (gm a w L) L.length ?_ ?_ ?_ rfl (aW (by omega))
 .intro i hi hp;unfold gm at hp;simp only[Bool.and_eq_true,Bool.not_eq_true',decide_eq_false_iff_not]at hp;obtain⟨⟨⟨h1,h2⟩,h3⟩,h4⟩:=hp;have e1:=pW (v:=cR L (i:Int)) (w:=a) (hok i hi).1 ⟨by omega,by omega⟩;have e2:=pW (v:=fD L (i:Int)) (w:=w) (hok i hi).2 ⟨by omega,by omega⟩;have hin:ar (i:Int) (List.length L)=true:=aA ⟨by omega,by omega⟩
  try dsimp only
  unfold s9;refine av (al (show(i:Int)<(L.length:Int) by omega)) ?_;have e:∀p q:Int,p=q->(some (.inl (a,(w,(L,(p,()))))):Option (TL zV.σs⊕Out zO))=some (.inl (a,(w,(L,(q,()))))):=by rintro _ _ rfl;rfl
  by_cases h0:i=0
  .exact ao (aw (show ¬(0:Int)<(i:Int) by omega)) (aj hin ((bw e1).trans (ao (by rw[h2];rfl) (aj hin ((bw e2).trans (ao (by rw[h3];rfl) (aj hin (ao (aw h1) (e _ _ (bf (x:=(i:Int)+1) (by omega)))))))))))
  .have hm:IntKind.wrap (.i64:IntKind) ((i:Int)-1)=(i:Int)-1:=bf (by omega);rw[hm];simp only[Bool.or_eq_true,decide_eq_true_eq]at h4;refine av (al (show(0:Int)<(i:Int) by omega)) (aj hin (aj (aA ⟨by omega,by omega⟩) (ao (aw (show ¬cR L (i:Int)<=cR L ((i:Int)-1) by omega)) ?_)));exact aj hin ((bw e1).trans (ao (by rw[h2];rfl) (aj hin ((bw e2).trans (ao (by rw[h3];rfl) (aj hin (ao (aw h1) (e _ _ (bf (x:=(i:Int)+1) (by omega))))))))))
 .intro i hi hp;have hin:ar (i:Int) (List.length L)=true:=aA ⟨by omega,by omega⟩;have e1:=pW (v:=cR L (i:Int)) (w:=a) (hok i hi).1 ⟨by omega,by omega⟩;have e2:=pW (v:=fD L (i:Int)) (w:=w) (hok i hi).2 ⟨by omega,by omega⟩
  try dsimp only
  unfold s9;refine av (al (show(i:Int)<(L.length:Int) by omega)) ?_;unfold gm at hp;by_cases h0:i=0
  .refine ao (aw (show ¬(0:Int)<(i:Int) by omega)) (aj hin ((bw e1).trans ?_));cases h2:fV (cR L (i:Int)) a with
   |false=>exact av rfl rfl|true=>
    refine ao rfl (aj hin ((bw e2).trans ?_));cases h3:fV (fD L (i:Int)) w with
    |false=>exact av rfl rfl|true=>
     by_cases h1:fD L (i:Int)=0
     .exact ao rfl (aj hin (av (al h1) rfl))
     .rw[decide_eq_false h1,h2,h3,decide_eq_true h0]at hp;cases hp
  .have hm:IntKind.wrap (.i64:IntKind) ((i:Int)-1)=(i:Int)-1:=bf (by omega);rw[hm];refine av (al (show(0:Int)<(i:Int) by omega)) (aj hin (aj (aA ⟨by omega,by omega⟩) ?_));by_cases h4:cR L (i:Int)<=cR L ((i:Int)-1)
   .exact av (al h4) rfl
   refine ao (aw h4) (aj hin ((bw e1).trans ?_));cases h2:fV (cR L (i:Int)) a with
   |false=>exact av rfl rfl|true=>
    refine ao rfl (aj hin ((bw e2).trans ?_));cases h3:fV (fD L (i:Int)) w with
    |false=>exact av rfl rfl|true=>
     by_cases h1:fD L (i:Int)=0
     .exact ao rfl (aj hin (av (al h1) rfl))
     .rw[decide_eq_false h1,h2,h3,decide_eq_false h0,decide_eq_true (show cR L ((i:Int)-1)<cR L (i:Int) by omega)]at hp;cases hp
 .try dsimp only
  unfold s9;exact ao (aw (show ¬(L.length:Int)<(L.length:Int) by omega)) rfl
theorem Zg(a w:Int)(L:List aq.T)(hok:mM L):Yc (a,(w,(L,())))=some (gj a w L,()):=by
 show KK nH Kr a w L=_;unfold KK gj;by_cases h1:a<1
 .rw[decide_eq_false (show ¬1<=a by omega)];exact av (al h1) rfl
 rw[decide_eq_true (show 1<=a by omega)];refine ao (aw h1) ?_;by_cases h2:62<a
 .rw[decide_eq_false (show ¬a<=62 by omega)];exact av (al h2) rfl
 rw[decide_eq_true (show a<=62 by omega)];refine ao (aw h2) ?_;by_cases h3:w<1
 .rw[decide_eq_false (show ¬1<=w by omega)];exact av (al h3) rfl
 rw[decide_eq_true (show 1<=w by omega)];refine ao (aw h3) ?_;by_cases h4:64<w
 .rw[decide_eq_false (show ¬w<=64 by omega)];exact av (al h4) rfl
 rw[decide_eq_true (show w<=64 by omega)];refine ao (aw h4) ?_;by_cases h5:(4096:Int)<(L.length:Int)
 .rw[decide_eq_false (show ¬L.length<=4096 by omega)];exact av (al h5) rfl
 rw[decide_eq_true (show L.length<=4096 by omega)];refine ao (aw h5) ((bw (Zzg ⟨by omega,by omega⟩ ⟨by omega,by omega⟩ L (by omega) hok)).trans ?_);cases(List.range L.length).all (gm a w L)<;>rfl
theorem ahj{α:Type}{l:List α}{i:Nat}{x:α}(h:l[i]?=some x):i<l.length:=by
 rcases Nat.lt_or_ge i l.length with q|q
 .exact q
 .rw[List.getElem?_eq_none q]at h;cases h
theorem ahn{α:Type}{l:List α}{i:Nat}{x:α}(h:l[i]?=some x):l.take (i+1)=l.take i++[x]:=by rw[List.take_add_one,h];rfl
theorem Ry{σ:Sh}{k:Int}{v:σ.T}:∀{M:bS σ},(∀p∈M,p.1<k)->cu k v M=M++[(k,v,())]
 |[],_=>rfl|p::M,h=>by have hp:=h p (by simp);rw[cu,decide_eq_false (show ¬k<p.1 by omega),decide_eq_false (show ¬p.1=k by omega)];simp only[];rw[Ry (fun q hq=>h q (by simp[hq]))];rfl
theorem RT{a w:Int}{L:List aq.T}(h:(List.range L.length).all (gm a w L)=true):∀i,i<L.length->∀j,j<i->cR L (j:Int)<cR L (i:Int):=by
 have h':∀i,i<L.length->gm a w L i=true:=by simpa[List.all_eq_true]using h
 intro i
 induction i with
 |zero=>intro _ j hj;omega|succ i ih=>
  intro hi j hj;have hc:=h' (i+1) hi;unfold gm at hc;simp only[Bool.and_eq_true,Bool.or_eq_true,decide_eq_true_eq]at hc;have h4:=hc.2;have e:(((i+1:Nat):Int)-1)=(i:Int):=by omega
  rw[e]at h4;have h5:cR L (i:Int)<cR L ((i+1:Nat):Int):=by omega
  by_cases q:j=i
  .subst q;exact h5
  .have:=ih (by omega) j (by omega);omega
theorem Mq(a w:Int)(L:List aq.T):th (a,(w,(L,())))=some (match gj a w L with|true=>.inr ((0:Int),(a,(w,(L,()))))|false=>.inl ((14:Int),())):=by
 have e1:=ag7 a w L;show LC Yv K7 a w L=_;unfold LC;refine(bw e1).trans ?_;cases hr:gj a w L with
 |false=>exact av rfl rfl|true=>
  refine ao rfl ?_;unfold gj at hr;simp only[Bool.and_eq_true,decide_eq_true_eq]at hr;obtain⟨⟨_,hl⟩,hall⟩:=hr;have hs:=RT hall;have eL:K7 (L,((L.length:Int),((0:Int),(a,(w,([],()))))))=some (a,(w,(L,()))):=by
   unfold K7;delta u6;refine bN (fun i:Nat=>(L,((L.length:Int),((i:Int),(a,(w,(L.take i,()))))))) L.length rfl ?_ ?_ (aW (by omega))
   .intro i hi;have hc:=List.getElem?_eq_getElem hi
    try dsimp only
    unfold A4;refine av (al (show(i:Int)<(L.length:Int) by omega)) (aj (aA ⟨by omega,by omega⟩) ?_);have e:∀(p q:Int) (M M':bS (.int .u64)),p=q->M=M'->(some (.inl (L,((L.length:Int),(p,(a,(w,(M,()))))))):Option (TL AH.σs⊕Out Az))=some (.inl (L,((L.length:Int),(q,(a,(w,(M',()))))))):=by rintro _ _ _ _ rfl rfl;rfl
    refine e _ _ _ _ (bf (x:=(i:Int)+1) (by omega)) ?_;rw[aS (σ:=aq) hc];have hlast:=Ry (σ:=.int .u64) (k:=L[i].1) (v:=L[i].2.1) (M:=L.take i) (fun p hp=>by
     obtain⟨j,hj⟩:=List.getElem?_of_mem hp;have hjl:j<i:=Nat.lt_of_lt_of_le (ahj hj) (List.length_take_le i L);have hj:(L:List aq.T)[j]?=some p:=by rw[<-hj];exact(List.getElem?_take_of_lt hjl).symm
     have:=hs i hi j hjl;unfold cR at this;rw[aS (σ:=aq) hj,aS (σ:=aq) hc]at this;exact this)
    refine hlast.trans ?_;exact(ahn hc).symm
   .try dsimp only
    unfold A4;refine ao (aw (show ¬(L.length:Int)<(L.length:Int) by omega)) ?_;rw[List.take_length];rfl
  exact af eL rfl
def ig(T:List ab.T)(cs:List (List aq.T))(i:Nat):Bool:=gj (gt ab T (i:Int)).1 (gt ab T (i:Int)).2.1 (gt (.sl aq) cs (i:Int))
def Q9(T:List ab.T)(cs:List (List aq.T))(i:Nat):cf:=j6 (gt ab T (i:Int)).1 (gt ab T (i:Int)).2.1 (gt (.sl aq) cs (i:Int))
def ij(T:List ab.T)(cs:List (List aq.T))(k:Nat):List cf:=(List.range k).map (Q9 T cs)
theorem ahZ(T:List ab.T)(lat:List Bool)(cs:List (List aq.T))(hT:T.length<=100000)(hc:cs.length=T.length) :
  K6 (T,((T.length:Int),((0:Int),(lat,(cs,([],()))))))=some (match(List.range T.length).all (ig T cs)with|true=>.inr (ij T cs T.length,())|false=>.inl ((14:Int),())):=by
 unfold K6;delta u6;refine mD (fun i:Nat=>(T,((T.length:Int),((i:Int),(lat,(cs,(ij T cs i,()))))))) (ig T cs) T.length ?_ ?_ ?_ rfl (aW (by omega))
 .intro i hi hp;have e1:=Mq (gt ab T (i:Int)).1 (gt ab T (i:Int)).2.1 (gt (.sl aq) cs (i:Int));have hp':gj (gt ab T (i:Int)).1 (gt ab T (i:Int)).2.1 (gt (.sl aq) cs (i:Int))=true:=hp;rw[hp']at e1;have hlen:(ij T cs i).length=i:=by unfold ij;simp
  try dsimp only
  unfold tz;refine av (al (show(i:Int)<(T.length:Int) by omega)) (aj (aA ⟨by omega,by omega⟩) (aj (aA ⟨by omega,by omega⟩) ((bw e1).trans (ao rfl (aj (jj (L:=ij T cs i) (by rw[hlen];omega) (by decide)) ?_)))));have e:∀(p q:Int) (M M':List cf),p=q->M=M'->(some (.inl (T,((T.length:Int),(p,(lat,(cs,(M,()))))))):Option (TL AF.σs⊕Out Au))=some (.inl (T,((T.length:Int),(q,(lat,(cs,(M',()))))))):=by rintro _ _ _ _ rfl rfl;rfl
  refine e _ _ _ _ (bf (x:=(i:Int)+1) (by omega)) ?_;show ij T cs i++[Q9 T cs i]=ij T cs (i+1);unfold ij;rw[List.range_succ,List.map_append];rfl
 .intro i hi hp;have e1:=Mq (gt ab T (i:Int)).1 (gt ab T (i:Int)).2.1 (gt (.sl aq) cs (i:Int));have hp':gj (gt ab T (i:Int)).1 (gt ab T (i:Int)).2.1 (gt (.sl aq) cs (i:Int))=false:=hp;rw[hp']at e1
  try dsimp only
  unfold tz;exact av (al (show(i:Int)<(T.length:Int) by omega)) (aj (aA ⟨by omega,by omega⟩) (aj (aA ⟨by omega,by omega⟩) ((bw e1).trans (aj rfl rfl))))
 .try dsimp only
  unfold tz;exact ao (aw (show ¬(T.length:Int)<(T.length:Int) by omega)) rfl
def db(d:ba.T)(s:bZ.T):Bool:=decide (s.1.length=d.2.2.1.length)&&decide (s.2.1.length=d.2.2.2.2.2.2.1.length)&&(List.range d.2.2.2.2.2.2.1.length).all (ig d.2.2.2.2.2.2.1 s.2.1)
theorem Xl(d:ba.T)(s:bZ.T)(hT:d.2.2.2.2.2.2.1.length<=100000) :
  YM (d.1,(d.2.1,(d.2.2.1,(d.2.2.2.1,(d.2.2.2.2.1,(d.2.2.2.2.2.1,(d.2.2.2.2.2.2.1,(d.2.2.2.2.2.2.2.1,(s.1,(s.2.1,())))))))))) =
   some (match db d s with|true=>((0:Int),(ij d.2.2.2.2.2.2.1 s.2.1 d.2.2.2.2.2.2.1.length,()))|false=>((14:Int),([],()))):=by
 show Lz th K6 d.1 d.2.1 d.2.2.1 d.2.2.2.1 d.2.2.2.2.1 d.2.2.2.2.2.1 d.2.2.2.2.2.2.1 d.2.2.2.2.2.2.2.1 s.1 s.2.1=_;unfold Lz db;by_cases h1:s.1.length=d.2.2.1.length
 .rw[decide_eq_true h1];have q1:Bool.not (decide (Int.ofNat (List.length s.1)=Int.ofNat (List.length d.2.2.1)))=false:=by rw[decide_eq_true (by rw[h1])];rfl
  refine ao q1 ?_;by_cases h2:s.2.1.length=d.2.2.2.2.2.2.1.length
  .rw[decide_eq_true h2];have q2:Bool.not (decide (Int.ofNat (List.length s.2.1)=Int.ofNat (List.length d.2.2.2.2.2.2.1)))=false:=by rw[decide_eq_true (by rw[h2])];rfl
   refine ao q2 ((bw (ahZ d.2.2.2.2.2.2.1 s.1 s.2.1 hT h2)).trans ?_);cases(List.range d.2.2.2.2.2.2.1.length).all (ig d.2.2.2.2.2.2.1 s.2.1)<;>rfl
  .rw[decide_eq_false h2];have q2:Bool.not (decide (Int.ofNat (List.length s.2.1)=Int.ofNat (List.length d.2.2.2.2.2.2.1)))=true:=by rw[decide_eq_false (fun e=>h2 (Int.ofNat.inj e))];rfl
   exact av q2 rfl
 .rw[decide_eq_false h1];have q1:Bool.not (decide (Int.ofNat (List.length s.1)=Int.ofNat (List.length d.2.2.1)))=true:=by rw[decide_eq_false (fun e=>h1 (Int.ofNat.inj e))];rfl
  exact av q1 rfl
def dO(d:ba.T)(s:bZ.T):Int:=if Pl.bP (df d)≠0 then Pl.bP (df d)else match db d s with|true=>0|false=>14
theorem Zm(d:ba.T)(s:bZ.T)(ft:Fit (df d))(hT:d.2.2.2.2.2.2.1.length<=100000):Zhp (d,(s,()))=some (dO d s,()):=by
 have e1:=pN ft;rw[Ly]at e1;have e2:=Xl d s hT;unfold dO;by_cases h:Pl.bP (df d)=0
 .rw[if_neg (by simpa using h)];refine af e1 (ao (by rw[h];rfl) (af e2 ?_));cases db d s<;>rfl
 .rw[if_pos h];exact af e1 (av (by simp[h]) rfl)
def lG(cs:List (List aq.T)):Prop:=∀c∈cs,mM c
theorem agN(d:ba.T)(lat:List Bool)(cs:List (List aq.T))(hT:d.2.2.2.2.2.2.1.length<=100000)(hc:cs.length=d.2.2.2.2.2.2.1.length)(hok:lG cs) :
  Yi ((0:Int),(d.1,(d.2.1,(d.2.2.1,(d.2.2.2.1,(d.2.2.2.2.1,(d.2.2.2.2.2.1,(d.2.2.2.2.2.2.1,(d.2.2.2.2.2.2.2.1,(lat,(cs,()))))))))))) =
   some (match(List.range d.2.2.2.2.2.2.1.length).all (ig d.2.2.2.2.2.2.1 cs)with|true=>.inr ()|false=>.inl ((14:Int),())):=by
 have hok':∀i:Nat,i<d.2.2.2.2.2.2.1.length->mM (gt (.sl aq) cs (i:Int)):=by intro i hi;have hg:=List.getElem?_eq_getElem (l:=cs) (i:=i) (by omega);rw[aS (σ:=.sl aq) hg];exact hok _ (List.getElem_mem (by omega))
 unfold Yi;delta eH;refine mD (fun i:Nat=>((i:Int),(d.1,(d.2.1,(d.2.2.1,(d.2.2.2.1,(d.2.2.2.2.1,(d.2.2.2.2.2.1,(d.2.2.2.2.2.2.1,(d.2.2.2.2.2.2.2.1,(lat,(cs,())))))))))))) (ig d.2.2.2.2.2.2.1 cs) d.2.2.2.2.2.2.1.length ?_ ?_ ?_ rfl (aW (by omega))
 .intro i hi hp;have e1:=Zg (gt ab d.2.2.2.2.2.2.1 (i:Int)).1 (gt ab d.2.2.2.2.2.2.1 (i:Int)).2.1 (gt (.sl aq) cs (i:Int)) (hok' i hi);have hp':gj (gt ab d.2.2.2.2.2.2.1 (i:Int)).1 (gt ab d.2.2.2.2.2.2.1 (i:Int)).2.1 (gt (.sl aq) cs (i:Int))=true:=hp;rw[hp']at e1
  try dsimp only
  unfold tb;have e:∀(p q:Int),p=q->(some (.inl (p,(d.1,(d.2.1,(d.2.2.1,(d.2.2.2.1,(d.2.2.2.2.1,(d.2.2.2.2.2.1,(d.2.2.2.2.2.2.1,(d.2.2.2.2.2.2.2.1,(lat,(cs,())))))))))))):Option (TL zY.σs⊕Out zU))=some (.inl (q,(d.1,(d.2.1,(d.2.2.1,(d.2.2.2.1,(d.2.2.2.2.1,(d.2.2.2.2.2.1,(d.2.2.2.2.2.2.1,(d.2.2.2.2.2.2.2.1,(lat,(cs,())))))))))))):=by rintro _ _ rfl;rfl
  exact av (al (show(i:Int)<(d.2.2.2.2.2.2.1.length:Int) by omega)) (aj (aA ⟨by omega,by omega⟩) (aj (aA ⟨by omega,by omega⟩) (aj (aA ⟨by omega,by omega⟩) ((bw e1).trans (ao rfl (e _ _ (bf (x:=(i:Int)+1) (by omega))))))))
 .intro i hi hp;have e1:=Zg (gt ab d.2.2.2.2.2.2.1 (i:Int)).1 (gt ab d.2.2.2.2.2.2.1 (i:Int)).2.1 (gt (.sl aq) cs (i:Int)) (hok' i hi);have hp':gj (gt ab d.2.2.2.2.2.2.1 (i:Int)).1 (gt ab d.2.2.2.2.2.2.1 (i:Int)).2.1 (gt (.sl aq) cs (i:Int))=false:=hp;rw[hp']at e1
  try dsimp only
  unfold tb;exact av (al (show(i:Int)<(d.2.2.2.2.2.2.1.length:Int) by omega)) (aj (aA ⟨by omega,by omega⟩) (aj (aA ⟨by omega,by omega⟩) (aj (aA ⟨by omega,by omega⟩) ((bw e1).trans (av rfl rfl)))))
 .try dsimp only
  unfold tb;exact ao (aw (show ¬(d.2.2.2.2.2.2.1.length:Int)<(d.2.2.2.2.2.2.1.length:Int) by omega)) rfl
theorem Zp(d:ba.T)(s:bZ.T)(ft:Fit (df d))(hT:d.2.2.2.2.2.2.1.length<=100000)(hok:lG s.2.1):Zbn (d,(s,()))=some (dO d s,()):=by
 have e1:=Br ft;rw[Ly]at e1;unfold dO;by_cases h:Pl.bP (df d)=0
 .rw[if_neg (by simpa using h)];refine af e1 (ao (by rw[h];rfl) ?_);unfold db;by_cases h1:s.1.length=d.2.2.1.length
  .rw[decide_eq_true h1];have q1:Bool.not (decide (Int.ofNat (List.length s.1)=Int.ofNat (List.length d.2.2.1)))=false:=by rw[decide_eq_true (by rw[h1])];rfl
   refine ao q1 ?_;by_cases h2:s.2.1.length=d.2.2.2.2.2.2.1.length
   .rw[decide_eq_true h2];have q2:Bool.not (decide (Int.ofNat (List.length s.2.1)=Int.ofNat (List.length d.2.2.2.2.2.2.1)))=false:=by rw[decide_eq_true (by rw[h2])];rfl
    refine ao q2 ((bw (agN d s.1 s.2.1 hT h2 hok)).trans ?_);cases(List.range d.2.2.2.2.2.2.1.length).all (ig d.2.2.2.2.2.2.1 s.2.1)<;>rfl
   .rw[decide_eq_false h2];have q2:Bool.not (decide (Int.ofNat (List.length s.2.1)=Int.ofNat (List.length d.2.2.2.2.2.2.1)))=true:=by rw[decide_eq_false (fun e=>h2 (Int.ofNat.inj e))];rfl
    exact av q2 rfl
  .rw[decide_eq_false h1];have q1:Bool.not (decide (Int.ofNat (List.length s.1)=Int.ofNat (List.length d.2.2.1)))=true:=by rw[decide_eq_false (fun e=>h1 (Int.ofNat.inj e))];rfl
   exact av q1 rfl
 .rw[if_pos h];exact af e1 (av (by simp[h]) rfl)
def dc(d:List aa.T)(i:Int):Int:=(gt aa d i).2.2.1
def gF(d:List aa.T)(k:Nat):List Bool:=(List.range k).map fun i=>decide (dc d ((i:Nat):Int)=1)
theorem ahk(d:List aa.T)(k:Nat):gF d (k+1)=gF d k++[decide (dc d (k:Int)=1)]:=by unfold gF;rw[List.range_succ,List.map_append];rfl
theorem Ma(d:List aa.T)(k:Nat):(gF d k).length=k:=by unfold gF;simp
def nx{α:Type}(d:ba.T)(r:α):Int×List Int×List aa.T×List Int×List Int×List Int×List ab.T×List aa.T×α:=(d.1,(d.2.1,(d.2.2.1,(d.2.2.2.1,(d.2.2.2.2.1,(d.2.2.2.2.2.1,(d.2.2.2.2.2.2.1,(d.2.2.2.2.2.2.2.1,r))))))))
def fW(d:ba.T):bZ.T:=match decide (Pl.bP (df d)=0)with|true=>(gF d.2.2.1 d.2.2.1.length,(List.replicate d.2.2.2.2.2.2.1.length [],()))|false=>([],([],()))
theorem agL(d:ba.T)(T:List aa.T)(hL:T.length<=100000):YG (T,((T.length:Int),((0:Int),nx d ([],()))))=some (nx d (gF T T.length,())):=by
 unfold YG;delta eI;refine bN (fun i:Nat=>(T,((T.length:Int),((i:Int),nx d (gF T i,()))))) T.length rfl ?_ ?_ (aW (by omega))
 .intro i hi;unfold nx
  try dsimp only
  unfold AZ;refine av (al (show(i:Int)<(T.length:Int) by omega)) (aj (aA ⟨by omega,by omega⟩) (aj (jj (L:=gF T i) (by rw[Ma];omega) (by decide)) ?_));have e:∀(p q:Int) (M M':List Bool),p=q->M=M'->(some (.inl (T,((T.length:Int),(p,nx d (M,()))))):Option (TL AG.σs⊕Out Aw))=some (.inl (T,((T.length:Int),(q,nx d (M',()))))):=by rintro _ _ _ _ rfl rfl;rfl
  exact e _ _ _ _ (bf (x:=(i:Int)+1) (by omega)) (ahk _ _).symm
 .unfold nx
  try dsimp only
  unfold AZ;exact ao (aw (show ¬(T.length:Int)<(T.length:Int) by omega)) rfl
theorem amb{n:Nat}(h:n<=100000):both (decide ((0:Int)<=(n:Int))) (both (decide ((n:Int)<=(n:Int))) (decide ((24:Int)*(n:Int)<=281474976710656)))=true:=by rw[decide_eq_true (by omega),decide_eq_true (by omega),decide_eq_true (by omega)];rfl
theorem aho(d:ba.T)(ft:Fit (df d))(hL:d.2.2.1.length<=100000)(hT:d.2.2.2.2.2.2.1.length<=100000):Zqa (d,())=some (fW d,()):=by
 have e1:=pN ft;rw[Ly]at e1;unfold fW;by_cases h:Pl.bP (df d)=0
 .rw[decide_eq_true h];exact af e1 (ao (by rw[h];rfl) (af (agL d d.2.2.1 hL) (aj (amb hT) rfl)))
 .rw[decide_eq_false h];exact af e1 (av (by simp[h]) rfl)
def so(C:List (List aq.T))(i:Int):Nat:=List.length (gt (.sl aq) C i)
def fR(L:List Bool)(i:Int):Bool:=gt .bool L i
def iu(T:List aa.T)(lat:List Bool)(i:Nat):Bool:=decide (dc T (i:Int)=2)||(decide (dc T (i:Int)=1) == fR lat (i:Int))
def ld(T:List ab.T)(i:Int):Bool:=(gt ab T i).2.2.1
def pM(T:List ab.T)(C:List (List aq.T))(i:Nat):Bool:=ld T (i:Int)||decide (so C (i:Int)=0)
theorem ahO(d:ba.T)(T:List aa.T)(lat:List Bool)(C:List (List aq.T))(hT:T.length<=100000)(hl:lat.length=T.length) :
  YF (T,((T.length:Int),((0:Int),nx d (lat,(C,())))))=some (match(List.range T.length).all (iu T lat)with|true=>.inr (nx d (lat,(C,())))|false=>.inl ((14:Int),())):=by
 unfold YF;delta fC;refine mD (fun i:Nat=>(T,((T.length:Int),((i:Int),nx d (lat,(C,())))))) (iu T lat) T.length ?_ ?_ ?_ rfl (aW (by omega))
 .intro i hi hp;unfold iu at hp;unfold nx
  try dsimp only
  unfold tt;have e:∀p q:Int,p=q->(some (.inl (T,((T.length:Int),(p,nx d (lat,(C,())))))):Option (TL Ax.σs⊕Out Af))=some (.inl (T,((T.length:Int),(q,nx d (lat,(C,())))))):=by rintro _ _ rfl;rfl
  refine av (al (show(i:Int)<(T.length:Int) by omega)) (aj (aA ⟨by omega,by omega⟩) ?_);by_cases h2:dc T (i:Int)=2
  .exact ao (show Bool.not (decide (dc T (i:Int)=2))=false by rw[decide_eq_true h2];rfl) (e _ _ (bf (x:=(i:Int)+1) (by omega)))
  .rw[decide_eq_false h2,Bool.false_or]at hp;refine av (show Bool.not (decide (dc T (i:Int)=2))=true by rw[decide_eq_false h2];rfl) (aj (aA ⟨by omega,by omega⟩) (ao ?_ (e _ _ (bf (x:=(i:Int)+1) (by omega)))));show Bool.not (@decide _ (Bool.decEq (decide (dc T (i:Int)=1)) (fR lat (i:Int))))=false;cases q1:decide (dc T (i:Int)=1)<;>cases q2:fR lat (i:Int)<;>rw[q1,q2]at hp<;>first|rfl|cases hp
 .intro i hi hp;unfold iu at hp;rw[Bool.or_eq_false_iff]at hp;obtain⟨h2,h3⟩:=hp;unfold nx
  try dsimp only
  unfold tt;refine av (al (show(i:Int)<(T.length:Int) by omega)) (aj (aA ⟨by omega,by omega⟩) (av (show Bool.not (decide (dc T (i:Int)=2))=true by rw[h2];rfl) (aj (aA ⟨by omega,by omega⟩) (av ?_ rfl))));show Bool.not (@decide _ (Bool.decEq (decide (dc T (i:Int)=1)) (fR lat (i:Int))))=true;cases q1:decide (dc T (i:Int)=1)<;>cases q2:fR lat (i:Int)<;>rw[q1,q2]at h3<;>first|rfl|cases h3
 .unfold nx
  try dsimp only
  unfold tt;exact ao (aw (show ¬(T.length:Int)<(T.length:Int) by omega)) rfl
theorem ahp(T:List ab.T)(lat:List Bool)(C:List (List aq.T))(hT:T.length<=100000)(hl:C.length=T.length) :
  YC (T,((T.length:Int),((0:Int),(lat,(C,())))))=some (match(List.range T.length).all (pM T C)with|true=>.inr ()|false=>.inl ((14:Int),())):=by
 unfold YC;delta u5;refine mD (fun i:Nat=>(T,((T.length:Int),((i:Int),(lat,(C,())))))) (pM T C) T.length ?_ ?_ ?_ rfl (aW (by omega))
 .intro i hi hp;unfold pM at hp
  try dsimp only
  unfold tp;have e:∀p q:Int,p=q->(some (.inl (T,((T.length:Int),(p,(lat,(C,())))))):Option (TL Ag.σs⊕Out z7))=some (.inl (T,((T.length:Int),(q,(lat,(C,())))))):=by rintro _ _ rfl;rfl
  refine av (al (show(i:Int)<(T.length:Int) by omega)) (aj (aA ⟨by omega,by omega⟩) ?_);cases h2:ld T (i:Int)with|true=>exact ao (show Bool.not (ld T (i:Int))=false by rw[h2];rfl) (e _ _ (bf (x:=(i:Int)+1) (by omega)))|false=>rw[h2,Bool.false_or]at hp;have hp:=of_decide_eq_true hp;exact av (show Bool.not (ld T (i:Int))=true by rw[h2];rfl) (aj (aA ⟨by omega,by omega⟩) (ao (aw (show ¬(0:Int)<((so C (i:Int):Nat):Int) by omega)) (e _ _ (bf (x:=(i:Int)+1) (by omega)))))
 .intro i hi hp;unfold pM at hp;rw[Bool.or_eq_false_iff]at hp;obtain⟨h2,h3⟩:=hp;have h3:=of_decide_eq_false h3
  try dsimp only
  unfold tp;exact av (al (show(i:Int)<(T.length:Int) by omega)) (aj (aA ⟨by omega,by omega⟩) (av (show Bool.not (ld T (i:Int))=true by rw[h2];rfl) (aj (aA ⟨by omega,by omega⟩) (av (al (show(0:Int)<((so C (i:Int):Nat):Int) by omega)) rfl))))
 .try dsimp only
  unfold tp;exact ao (aw (show ¬(T.length:Int)<(T.length:Int) by omega)) rfl
theorem ahR(d:ba.T)(lat:List Bool)(C:List (List aq.T))(hT:d.2.2.1.length<=100000)(hl:lat.length=d.2.2.1.length)(hin:∀i:Nat,i<d.2.2.1.length->0<=dc d.2.2.1 (i:Int)/\dc d.2.2.1 (i:Int)<=2) :
  Yf ((0:Int),nx d (lat,(C,())))=some (match(List.range d.2.2.1.length).all (iu d.2.2.1 lat)with|true=>.inr (nx d (lat,(C,())))|false=>.inl ((14:Int),())):=by
 unfold Yf;delta eH;refine mD (fun i:Nat=>((i:Int),nx d (lat,(C,())))) (iu d.2.2.1 lat) d.2.2.1.length ?_ ?_ ?_ rfl (aW (by omega))
 .intro i hi hp;obtain⟨i0,i2⟩:=hin i hi;unfold iu at hp;have hb:ar (i:Int) (List.length d.2.2.1)=true:=aA ⟨by omega,by omega⟩;have hb2:ar (i:Int) (List.length lat)=true:=aA ⟨by omega,by rw[hl];omega⟩;unfold nx
  try dsimp only
  unfold sZ;have e:∀p q:Int,p=q->(some (.inl (p,nx d (lat,(C,())))):Option (TL zT.σs⊕Out zM))=some (.inl (q,nx d (lat,(C,())))):=by rintro _ _ rfl;rfl
  have go:=e _ _ (bf (x:=(i:Int)+1) (by omega));refine av (al (show(i:Int)<(d.2.2.1.length:Int) by omega)) (aj hb ?_);by_cases h0:dc d.2.2.1 (i:Int)=0
  .have h1:¬dc d.2.2.1 (i:Int)=1:=by omega
   rw[decide_eq_false (show ¬dc d.2.2.1 (i:Int)=2 by omega),decide_eq_false h1]at hp;have hb3:fR lat (i:Int)=false:=by cases q:fR lat (i:Int)<;>rw[q]at hp<;>first|rfl|cases hp
   exact av (al h0) (aj hb2 (ao (show aR true (fR lat (i:Int)) false=false by rw[hb3];rfl) (aj hb (ao (aw h1) go))))
  .refine ao (aw h0) (aj hb ?_);by_cases h1:dc d.2.2.1 (i:Int)=1
   .rw[decide_eq_false (show ¬dc d.2.2.1 (i:Int)=2 by omega),decide_eq_true h1]at hp;have hb3:fR lat (i:Int)=true:=by cases q:fR lat (i:Int)<;>rw[q]at hp<;>first|rfl|cases hp
    exact av (al h1) (aj hb2 (ao (show aR false true (aR true (Bool.not (fR lat (i:Int))) false)=false by rw[hb3];rfl) go))
   .exact ao (aw h1) go
 .intro i hi hp;obtain⟨i0,i2⟩:=hin i hi;unfold iu at hp;rw[Bool.or_eq_false_iff]at hp;obtain⟨h2,h3⟩:=hp;have h2:=of_decide_eq_false h2;have hb:ar (i:Int) (List.length d.2.2.1)=true:=aA ⟨by omega,by omega⟩;have hb2:ar (i:Int) (List.length lat)=true:=aA ⟨by omega,by rw[hl];omega⟩;unfold nx
  try dsimp only
  unfold sZ;refine av (al (show(i:Int)<(d.2.2.1.length:Int) by omega)) (aj hb ?_);by_cases h0:dc d.2.2.1 (i:Int)=0
  .have h1:¬dc d.2.2.1 (i:Int)=1:=by omega
   rw[decide_eq_false h1]at h3;have hb3:fR lat (i:Int)=true:=by cases q:fR lat (i:Int)<;>rw[q]at h3<;>first|rfl|cases h3
   exact av (al h0) (aj hb2 (av (show aR true (fR lat (i:Int)) false=true by rw[hb3];rfl) rfl))
  .have h1:dc d.2.2.1 (i:Int)=1:=by omega
   rw[decide_eq_true h1]at h3;have hb3:fR lat (i:Int)=false:=by cases q:fR lat (i:Int)<;>rw[q]at h3<;>first|rfl|cases h3
   exact ao (aw h0) (aj hb (av (al h1) (aj hb2 (av (show aR false true (aR true (Bool.not (fR lat (i:Int))) false)=true by rw[hb3];rfl) rfl))))
 .unfold nx
  try dsimp only
  unfold sZ;exact ao (aw (show ¬(d.2.2.1.length:Int)<(d.2.2.1.length:Int) by omega)) rfl
theorem ahs(d:ba.T)(lat:List Bool)(C:List (List aq.T))(hT:d.2.2.2.2.2.2.1.length<=100000)(hl:C.length=d.2.2.2.2.2.2.1.length) :
  Ye ((0:Int),nx d (lat,(C,())))=some (match(List.range d.2.2.2.2.2.2.1.length).all (pM d.2.2.2.2.2.2.1 C)with|true=>.inr ()|false=>.inl ((14:Int),())):=by
 unfold Ye;delta eH;refine mD (fun i:Nat=>((i:Int),nx d (lat,(C,())))) (pM d.2.2.2.2.2.2.1 C) d.2.2.2.2.2.2.1.length ?_ ?_ ?_ rfl (aW (by omega))
 .intro i hi hp;unfold pM at hp;have hb2:ar (i:Int) (List.length C)=true:=aA ⟨by omega,by rw[hl];omega⟩;unfold nx
  try dsimp only
  unfold sY;have e:∀p q:Int,p=q->(some (.inl (p,nx d (lat,(C,())))):Option (TL zN.σs⊕Out zI))=some (.inl (q,nx d (lat,(C,())))):=by rintro _ _ rfl;rfl
  have go:=e _ _ (bf (x:=(i:Int)+1) (by omega));refine av (al (show(i:Int)<(d.2.2.2.2.2.2.1.length:Int) by omega)) (aj (aA ⟨by omega,by omega⟩) ?_);cases h2:ld d.2.2.2.2.2.2.1 (i:Int)with|true=>exact ao (show Bool.not (ld d.2.2.2.2.2.2.1 (i:Int))=false by rw[h2];rfl) go|false=>rw[h2,Bool.false_or]at hp;have hp:=of_decide_eq_true hp;exact av (show Bool.not (ld d.2.2.2.2.2.2.1 (i:Int))=true by rw[h2];rfl) (aj hb2 (ao (aw (show ¬(0:Int)<((so C (i:Int):Nat):Int) by omega)) go))
 .intro i hi hp;unfold pM at hp;rw[Bool.or_eq_false_iff]at hp;obtain⟨h2,h3⟩:=hp;have h3:=of_decide_eq_false h3;have hb2:ar (i:Int) (List.length C)=true:=aA ⟨by omega,by rw[hl];omega⟩;unfold nx
  try dsimp only
  unfold sY;exact av (al (show(i:Int)<(d.2.2.2.2.2.2.1.length:Int) by omega)) (aj (aA ⟨by omega,by omega⟩) (av (show Bool.not (ld d.2.2.2.2.2.2.1 (i:Int))=true by rw[h2];rfl) (aj hb2 (av (al (show(0:Int)<((so C (i:Int):Nat):Int) by omega)) rfl))))
 .unfold nx
  try dsimp only
  unfold sY;exact ao (aw (show ¬(d.2.2.2.2.2.2.1.length:Int)<(d.2.2.2.2.2.2.1.length:Int) by omega)) rfl
theorem ZC{d:ba.T}{s:bZ.T}(h:dO d s=0):Pl.bP (df d)=0/\s.1.length=d.2.2.1.length/\s.2.1.length=d.2.2.2.2.2.2.1.length:=by
 unfold dO at h;by_cases hc:Pl.bP (df d)=0
 .rw[if_neg (by simpa using hc)]at h;cases q:db d s with
  |false=>rw[q]at h;cases h
  |true=>unfold db at q;simp only[Bool.and_eq_true,decide_eq_true_eq]at q;exact⟨hc,q.1.1,q.1.2⟩
 .rw[if_pos hc]at h;exact absurd h hc
def jQ(d:ba.T)(lat:List Bool)(C:List (List aq.T)):Int:=match decide (dO d (lat,(C,()))=0)with|false=>dO d (lat,(C,()))|true=>match(List.range d.2.2.1.length).all (iu d.2.2.1 lat)with|false=>14|true=>match(List.range d.2.2.2.2.2.2.1.length).all (pM d.2.2.2.2.2.2.1 C)with|false=>14|true=>0
theorem ag1(d:ba.T)(lat:List Bool)(C:List (List aq.T))(ft:Fit (df d))(hL:d.2.2.1.length<=100000)(hT:d.2.2.2.2.2.2.1.length<=100000) :
  Lg (d,((lat,(C,())),()))=some (jQ d lat C,()):=by
 have e1:=Zm d (lat,(C,())) ft hT;unfold jQ;by_cases h:dO d (lat,(C,()))=0
 .obtain⟨_,h2,h3⟩:=ZC h;have e5:=ahO d d.2.2.1 lat C hL h2;have e11:=ahp d.2.2.2.2.2.2.1 lat C hT h3;rw[decide_eq_true h];refine af e1 (ao (by rw[h];rfl) ((bw e5).trans ?_));cases(List.range d.2.2.1.length).all (iu d.2.2.1 lat)with|false=>rfl|true=>refine(bw e11).trans ?_;cases(List.range d.2.2.2.2.2.2.1.length).all (pM d.2.2.2.2.2.2.1 C)<;>rfl
 .rw[decide_eq_false h];exact af e1 (av (by simp[h]) rfl)
theorem aey{T:List aa.T}{p:Pl.bA->Prop}(h:∀l∈T.map iI,p l)(i:Nat)(hi:i<T.length):∃l,p l/\l.init=dc T (i:Int):=by have hg:=List.getElem?_eq_getElem hi;refine⟨iI T[i],h _ (List.mem_map_of_mem (List.getElem_mem hi)),?_⟩;unfold dc;rw[aS (σ:=aa) hg];rfl
theorem aez{d:ba.T}(h:Pl.bP (df d)=0):∀i:Nat,i<d.2.2.1.length->0<=dc d.2.2.1 (i:Int)/\dc d.2.2.1 (i:Int)<=2:=by
 have hs0:Pl.ca (df d)=0:=by
  unfold Pl.bP at h;by_cases q:Pl.ca (df d)=0
  .exact q
  .rw[if_pos q]at h;exact absurd h q
 obtain⟨V,hs⟩:=Pl.lZ hs0;intro i hi;obtain⟨l,h1,h2⟩:=aey (T:=d.2.2.1) (p:=fun l=>0<=l.init/\l.init<=2) (fun l hl=>hs.init l hl) i hi;rw[<-h2];exact h1
theorem ag5(d:ba.T)(lat:List Bool)(C:List (List aq.T))(ft:Fit (df d))(hL:d.2.2.1.length<=100000)(hT:d.2.2.2.2.2.2.1.length<=100000)(hok:lG C) :
  Yk (d,((lat,(C,())),()))=some (jQ d lat C,()):=by
 have e1:=Zp d (lat,(C,())) ft hT hok;unfold jQ;by_cases h:dO d (lat,(C,()))=0
 .obtain⟨h1,h2,h3⟩:=ZC h;have e5:=ahR d lat C hL h2 (aez h1);have e10:=ahs d lat C hT h3;rw[decide_eq_true h];refine af e1 (ao (by rw[h];rfl) ((bw e5).trans ?_));cases(List.range d.2.2.1.length).all (iu d.2.2.1 lat)with|false=>rfl|true=>refine(bw e10).trans ?_;cases(List.range d.2.2.2.2.2.2.1.length).all (pM d.2.2.2.2.2.2.1 C)<;>rfl
 .rw[decide_eq_false h];exact af e1 (av (by simp[h]) rfl)
end Go.Proofs.YtkcpdpplobhpaaaGreat.V
end
