import Derived.Test.YtkcpdpplobhpaaaGreatYSa
import Derived.Test.YtkcpdpplobhpaaaGreatYNe
set_option linter.unusedVariables false
set_option linter.unusedSimpArgs false
set_option linter.unnecessarySimpa false
section
namespace Go.Proofs.YtkcpdpplobhpaaaGreat.V
open Go Go.RowKit
theorem kH{D O:Type}{B:D->Option (D⊕O)}(f:Nat->D)(p:Nat->Bool){bad good:O}(n:Nat)(hs:∀i,i<n->p i=true->B (f i)=some (.inl (f (i+1))))(hf:∀i,i<n->p i=false->B (f i)=some (.inr bad))
  (he:B (f n)=some (.inr good)) {d:D}(hd:d=f 0) {N:Nat}(hN:n<N):aQ B N d=some (match(List.range n).all p with|true=>good|false=>bad):=by
 subst hd;have hall:((List.range n).all p=true↔∀i,i<n->p i=true):=by simp[List.all_eq_true]
 have main:∀k i,i+k=n->(∀j,j<i->p j=true)->∀N,k<N->aQ B N (f i)=some (match(List.range n).all p with|true=>good|false=>bad):=by
  intro k
  induction k with
  |zero=>
   intro i hi hp N hN;have:i=n:=by omega
   subst this;obtain⟨N,rfl⟩:∃M,N=M+1:=⟨N-1,by omega⟩;rw[hall.2 hp];simp only[aQ,he]
  |succ k ih=>
   intro i hi hp N hN;obtain⟨N,rfl⟩:∃M,N=M+1:=⟨N-1,by omega⟩;cases hq:p i with
   |true=>
    simp only[aQ,hs i (by omega) hq];exact ih (i+1) (by omega) (fun j hj=>by
     by_cases e:j=i
     .subst e;exact hq
     .exact hp j (by omega)) N (by omega)
   |false=>
    have hz:(List.range n).all p=false:=by cases hz:(List.range n).all p with|false=>rfl|true=>have:=hall.1 hz i (by omega);rw[hq]at this;cases this
    simp only[aQ,hf i (by omega) hq,hz]
 exact main n 0 (by omega) (fun j hj=>by omega) N hN
def iw(v w:Int):Bool:=decide (v / 2^w.toNat=0)
theorem tp{v w:Int}(hw:0<=w/\w<=64):C9 (v,(w,()))=some (iw v w,()):=by
 have hb:De (w,())=some (w,()):=by
  show wz w=_;unfold wz;have h1:cN (decide ((64:Int)<w)) (64:Int) w=w:=by unfold cN;rw[decide_eq_false (by omega)]
  have h2:cN (decide (w<(0:Int))) (0:Int) w=w:=by unfold cN;rw[decide_eq_false (by omega)]
  show some (cN (decide (cN (decide ((64:Int)<w)) (64:Int) w<0)) 0 (cN (decide ((64:Int)<w)) (64:Int) w),())=_;rw[h1,h2]
 show NF De v w=_;unfold NF;refine(bP hb).trans (ak (aj hw.1) ?_);unfold iw;have hm:min w.toNat 64=w.toNat:=by omega
 show some (decide (Int.fdiv v (2^(min w.toNat 64))=0),())=_;rw[hm,Int.fdiv_eq_ediv_of_nonneg _ (Int.pow_nonneg (by decide))]
theorem j4{x:Int}(h:0<=x/\x<=18446744073709551615):IntKind.wrap (.u64:IntKind) x=x:=by unfold IntKind.wrap;simp[IntKind.bits,IntKind.signed];omega
theorem tj{v w:Int}(hv:0<=v/\v<=18446744073709551615)(hw:0<=w/\w<=64):qA (v,(w,()))=some (iw v w,()):=by
 obtain⟨W,rfl⟩:=Int.eq_ofNat_of_zero_le hw.1;have hL:ZJ (v,((W:Int),((0:Int),())))=some (v / 2^W,()):=by
  unfold ZJ;delta u3;refine cP (fun k:Nat=>(v / 2^k,((W:Int),((k:Int),())))) W (by rw[Int.pow_zero,Int.ediv_one];rfl) ?_ ?_ (bt (by omega))
  .intro k hk;have h0:0<=v / 2^k:=Int.ediv_nonneg hv.1 (Int.pow_nonneg (by decide));have h1:v / 2^k<=v:=Int.ediv_le_self _ hv.1
   try dsimp only
   unfold C2;have hsel:aR true (@decide _ (Int.decLt (k:Int) (64:Int))) false=decide ((k:Int)<64):=by unfold aR;cases decide ((k:Int)<64)<;>rfl
   rw[ie (aj (by omega)),hsel,ie (aj (by omega))];rw[Int.tdiv_eq_ediv_of_nonneg h0,j4 ⟨Int.ediv_nonneg h0 (by decide),by omega⟩,bJ (x:=(k:Int)+1) (by omega),Int.ediv_ediv_of_nonneg (Int.pow_nonneg (by decide)),<-Int.pow_succ];rfl
  .try dsimp only
   unfold C2;rw[eY (au (by omega))];rfl
 exact ag hL rfl
def dD(L:List aB.T)(i:Int):Int:=(gt aB L i).1
def gD(L:List aB.T)(i:Int):Int:=(gt aB L i).2.1
def iP(a w:Int)(L:List aB.T)(i:Nat):Bool:=!decide (gD L (i:Int)=0)&&iw (dD L (i:Int)) a&&iw (gD L (i:Int)) w&&(decide (i=0)||decide (dD L ((i:Int)-1)<dD L (i:Int)))
def ir(a w:Int)(L:List aB.T):Bool:=decide (1<=a)&&decide (a<=62)&&decide (1<=w)&&decide (w<=64)&&decide (L.length<=4096)&&(List.range L.length).all (iP a w L)
theorem Zzj{a w:Int}(ha:1<=a/\a<=62)(hw:1<=w/\w<=64)(L:List aB.T)(hl:L.length<=4096) :
  M0 (a,(w,(L,(L,((L.length:Int),((0:Int),()))))))=some (match(List.range L.length).all (iP a w L)with|true=>.inr ()|false=>.inl (false,())):=by
 unfold M0;delta u6;refine kH (fun i:Nat=>(a,(w,(L,(L,((L.length:Int),((i:Int),()))))))) (iP a w L) L.length ?_ ?_ ?_ rfl (bt (by omega))
 .intro i hi hp;unfold iP at hp;simp only[Bool.and_eq_true,Bool.not_eq_true',decide_eq_false_iff_not]at hp;obtain⟨⟨⟨h1,h2⟩,h3⟩,h4⟩:=hp;have e1:=tp (v:=dD L (i:Int)) (w:=a) ⟨by omega,by omega⟩;have e2:=tp (v:=gD L (i:Int)) (w:=w) ⟨by omega,by omega⟩
  try dsimp only
  unfold wx;refine ao (aj (show(i:Int)<(L.length:Int) by omega)) (ak (aN ⟨by omega,by omega⟩) (af (au h1) ((bP e1).trans (af (by rw[h2];rfl) ((bP e2).trans (af (by rw[h3];rfl) ?_))))));have e:∀p q:Int,p=q->(some (.inl (a,(w,(L,(L,((L.length:Int),(p,()))))))):Option (TL C0.σs⊕Out CQ))=some (.inl (a,(w,(L,(L,((L.length:Int),(q,()))))))):=by rintro _ _ rfl;rfl
  by_cases h0:i=0
  .exact af (au (show ¬(0:Int)<(i:Int) by omega)) (e _ _ (bJ (x:=(i:Int)+1) (by omega)))
  .have hm:IntKind.wrap (.i64:IntKind) ((i:Int)-1)=(i:Int)-1:=bJ (by omega);rw[hm];simp only[Bool.or_eq_true,decide_eq_true_eq]at h4;refine ao (aj (show(0:Int)<(i:Int) by omega)) (ak (aN ⟨by omega,by omega⟩) (af (au (show ¬dD L (i:Int)<=dD L ((i:Int)-1) by omega)) (e _ _ (bJ (x:=(i:Int)+1) (by omega)))))
 .intro i hi hp
  try dsimp only
  unfold wx;refine ao (aj (show(i:Int)<(L.length:Int) by omega)) (ak (aN ⟨by omega,by omega⟩) ?_);by_cases h1:gD L (i:Int)=0
  .exact ao (aj h1) rfl
  refine af (au h1) ?_;have e1:=tp (v:=dD L (i:Int)) (w:=a) ⟨by omega,by omega⟩;have e2:=tp (v:=gD L (i:Int)) (w:=w) ⟨by omega,by omega⟩;refine(bP e1).trans ?_;cases h2:iw (dD L (i:Int)) a with|false=>exact ao rfl rfl|true=>refine af rfl ((bP e2).trans ?_);cases h3:iw (gD L (i:Int)) w with|false=>exact ao rfl rfl|true=>refine af rfl ?_;unfold iP at hp;rw[decide_eq_false h1,h2,h3]at hp;simp only[Bool.not_false,Bool.and_self,Bool.true_and,Bool.or_eq_false_iff,decide_eq_false_iff_not]at hp;have hm:IntKind.wrap (.i64:IntKind) ((i:Int)-1)=(i:Int)-1:=bJ (by omega);rw[hm];exact ao (aj (show(0:Int)<(i:Int) by omega)) (ak (aN ⟨by omega,by omega⟩) (ao (aj (show dD L (i:Int)<=dD L ((i:Int)-1) by omega)) rfl))
 .try dsimp only
  unfold wx;exact af (au (show ¬(L.length:Int)<(L.length:Int) by omega)) rfl
theorem agx(a w:Int)(L:List aB.T):ZY (a,(w,(L,())))=some (ir a w L,()):=by
 show Nx C9 M0 a w L=_;unfold Nx ir;by_cases h1:a<1
 .rw[decide_eq_false (show ¬1<=a by omega)];exact ao (aj h1) rfl
 rw[decide_eq_true (show 1<=a by omega)];refine af (au h1) ?_;by_cases h2:62<a
 .rw[decide_eq_false (show ¬a<=62 by omega)];exact ao (aj h2) rfl
 rw[decide_eq_true (show a<=62 by omega)];refine af (au h2) ?_;by_cases h3:w<1
 .rw[decide_eq_false (show ¬1<=w by omega)];exact ao (aj h3) rfl
 rw[decide_eq_true (show 1<=w by omega)];refine af (au h3) ?_;by_cases h4:64<w
 .rw[decide_eq_false (show ¬w<=64 by omega)];exact ao (aj h4) rfl
 rw[decide_eq_true (show w<=64 by omega)];refine af (au h4) ?_;by_cases h5:(4096:Int)<(L.length:Int)
 .rw[decide_eq_false (show ¬L.length<=4096 by omega)];exact ao (aj h5) rfl
 rw[decide_eq_true (show L.length<=4096 by omega)];refine af (au h5) ((bP (Zzj ⟨by omega,by omega⟩ ⟨by omega,by omega⟩ L (by omega))).trans ?_);cases(List.range L.length).all (iP a w L)<;>rfl
def ou(L:List aB.T):Prop:=∀i:Nat,i<L.length->(0<=dD L (i:Int)/\dD L (i:Int)<=18446744073709551615)/\(0<=gD L (i:Int)/\gD L (i:Int)<=18446744073709551615)
theorem Zzg{a w:Int}(ha:1<=a/\a<=62)(hw:1<=w/\w<=64)(L:List aB.T)(hl:L.length<=4096)(hok:ou L) :
  Ml (a,(w,(L,((0:Int),()))))=some (match(List.range L.length).all (iP a w L)with|true=>.inr ()|false=>.inl (false,())):=by
 unfold Ml;delta u4;refine kH (fun i:Nat=>(a,(w,(L,((i:Int),()))))) (iP a w L) L.length ?_ ?_ ?_ rfl (bt (by omega))
 .intro i hi hp;unfold iP at hp;simp only[Bool.and_eq_true,Bool.not_eq_true',decide_eq_false_iff_not]at hp;obtain⟨⟨⟨h1,h2⟩,h3⟩,h4⟩:=hp;have e1:=tj (v:=dD L (i:Int)) (w:=a) (hok i hi).1 ⟨by omega,by omega⟩;have e2:=tj (v:=gD L (i:Int)) (w:=w) (hok i hi).2 ⟨by omega,by omega⟩;have aT:aA (i:Int) (List.length L)=true:=aN ⟨by omega,by omega⟩
  try dsimp only
  unfold vZ;refine ao (aj (show(i:Int)<(L.length:Int) by omega)) ?_;have e:∀p q:Int,p=q->(some (.inl (a,(w,(L,(p,()))))):Option (TL CA.σs⊕Out Cp))=some (.inl (a,(w,(L,(q,()))))):=by rintro _ _ rfl;rfl
  by_cases h0:i=0
  .exact af (au (show ¬(0:Int)<(i:Int) by omega)) (ak aT ((bP e1).trans (af (by rw[h2];rfl) (ak aT ((bP e2).trans (af (by rw[h3];rfl) (ak aT (af (au h1) (e _ _ (bJ (x:=(i:Int)+1) (by omega)))))))))))
  .have hm:IntKind.wrap (.i64:IntKind) ((i:Int)-1)=(i:Int)-1:=bJ (by omega);rw[hm];simp only[Bool.or_eq_true,decide_eq_true_eq]at h4;refine ao (aj (show(0:Int)<(i:Int) by omega)) (ak aT (ak (aN ⟨by omega,by omega⟩) (af (au (show ¬dD L (i:Int)<=dD L ((i:Int)-1) by omega)) ?_)));exact ak aT ((bP e1).trans (af (by rw[h2];rfl) (ak aT ((bP e2).trans (af (by rw[h3];rfl) (ak aT (af (au h1) (e _ _ (bJ (x:=(i:Int)+1) (by omega))))))))))
 .intro i hi hp;have aT:aA (i:Int) (List.length L)=true:=aN ⟨by omega,by omega⟩;have e1:=tj (v:=dD L (i:Int)) (w:=a) (hok i hi).1 ⟨by omega,by omega⟩;have e2:=tj (v:=gD L (i:Int)) (w:=w) (hok i hi).2 ⟨by omega,by omega⟩
  try dsimp only
  unfold vZ;refine ao (aj (show(i:Int)<(L.length:Int) by omega)) ?_;unfold iP at hp;by_cases h0:i=0
  .refine af (au (show ¬(0:Int)<(i:Int) by omega)) (ak aT ((bP e1).trans ?_));cases h2:iw (dD L (i:Int)) a with
   |false=>exact ao rfl rfl|true=>
    refine af rfl (ak aT ((bP e2).trans ?_));cases h3:iw (gD L (i:Int)) w with
    |false=>exact ao rfl rfl|true=>
     by_cases h1:gD L (i:Int)=0
     .exact af rfl (ak aT (ao (aj h1) rfl))
     .rw[decide_eq_false h1,h2,h3,decide_eq_true h0]at hp;cases hp
  .have hm:IntKind.wrap (.i64:IntKind) ((i:Int)-1)=(i:Int)-1:=bJ (by omega);rw[hm];refine ao (aj (show(0:Int)<(i:Int) by omega)) (ak aT (ak (aN ⟨by omega,by omega⟩) ?_));by_cases h4:dD L (i:Int)<=dD L ((i:Int)-1)
   .exact ao (aj h4) rfl
   refine af (au h4) (ak aT ((bP e1).trans ?_));cases h2:iw (dD L (i:Int)) a with
   |false=>exact ao rfl rfl|true=>
    refine af rfl (ak aT ((bP e2).trans ?_));cases h3:iw (gD L (i:Int)) w with
    |false=>exact ao rfl rfl|true=>
     by_cases h1:gD L (i:Int)=0
     .exact af rfl (ak aT (ao (aj h1) rfl))
     .rw[decide_eq_false h1,h2,h3,decide_eq_false h0,decide_eq_true (show dD L ((i:Int)-1)<dD L (i:Int) by omega)]at hp;cases hp
 .try dsimp only
  unfold vZ;exact af (au (show ¬(L.length:Int)<(L.length:Int) by omega)) rfl
theorem Zwj(a w:Int)(L:List aB.T)(hok:ou L):Zz (a,(w,(L,())))=some (ir a w L,()):=by
 show MJ qA Ml a w L=_;unfold MJ ir;by_cases h1:a<1
 .rw[decide_eq_false (show ¬1<=a by omega)];exact ao (aj h1) rfl
 rw[decide_eq_true (show 1<=a by omega)];refine af (au h1) ?_;by_cases h2:62<a
 .rw[decide_eq_false (show ¬a<=62 by omega)];exact ao (aj h2) rfl
 rw[decide_eq_true (show a<=62 by omega)];refine af (au h2) ?_;by_cases h3:w<1
 .rw[decide_eq_false (show ¬1<=w by omega)];exact ao (aj h3) rfl
 rw[decide_eq_true (show 1<=w by omega)];refine af (au h3) ?_;by_cases h4:64<w
 .rw[decide_eq_false (show ¬w<=64 by omega)];exact ao (aj h4) rfl
 rw[decide_eq_true (show w<=64 by omega)];refine af (au h4) ?_;by_cases h5:(4096:Int)<(L.length:Int)
 .rw[decide_eq_false (show ¬L.length<=4096 by omega)];exact ao (aj h5) rfl
 rw[decide_eq_true (show L.length<=4096 by omega)];refine af (au h5) ((bP (Zzg ⟨by omega,by omega⟩ ⟨by omega,by omega⟩ L (by omega) hok)).trans ?_);cases(List.range L.length).all (iP a w L)<;>rfl
theorem Tp{α:Type}{l:List α}{i:Nat}{x:α}(h:l[i]?=some x):i<l.length:=by
 rcases Nat.lt_or_ge i l.length with q|q
 .exact q
 .rw[List.getElem?_eq_none q]at h;cases h
theorem agM{α:Type}{l:List α}{i:Nat}{x:α}(h:l[i]?=some x):l.take (i+1)=l.take i++[x]:=by rw[List.take_add_one,h];rfl
theorem SR{σ:Sh}{k:Int}{v:σ.T}:∀{M:cV σ},(∀p∈M,p.1<k)->dp k v M=M++[(k,v,())]
 |[],_=>rfl|p::M,h=>by have hp:=h p (by simp);rw[dp,decide_eq_false (show ¬k<p.1 by omega),decide_eq_false (show ¬p.1=k by omega)];simp only[];rw[SR (fun q hq=>h q (by simp[hq]))];rfl
theorem S9{a w:Int}{L:List aB.T}(h:(List.range L.length).all (iP a w L)=true):∀i,i<L.length->∀j,j<i->dD L (j:Int)<dD L (i:Int):=by
 have h':∀i,i<L.length->iP a w L i=true:=by simpa[List.all_eq_true]using h
 intro i
 induction i with
 |zero=>intro _ j hj;omega|succ i ih=>
  intro hi j hj;have hc:=h' (i+1) hi;unfold iP at hc;simp only[Bool.and_eq_true,Bool.or_eq_true,decide_eq_true_eq]at hc;have h4:=hc.2;have e:(((i+1:Nat):Int)-1)=(i:Int):=by omega
  rw[e]at h4;have h5:dD L (i:Int)<dD L ((i+1:Nat):Int):=by omega
  by_cases q:j=i
  .subst q;exact h5
  .have:=ih (by omega) j (by omega);omega
theorem Oh(a w:Int)(L:List aB.T):wi (a,(w,(L,())))=some (match ir a w L with|true=>.inr ((0:Int),(a,(w,(L,()))))|false=>.inl ((14:Int),())):=by
 have e1:=agx a w L;show NH ZY Nb a w L=_;unfold NH;refine(bP e1).trans ?_;cases hr:ir a w L with
 |false=>exact ao rfl rfl|true=>
  refine af rfl ?_;unfold ir at hr;simp only[Bool.and_eq_true,decide_eq_true_eq]at hr;obtain⟨⟨_,hl⟩,hall⟩:=hr;have hs:=S9 hall;have eL:Nb (L,((L.length:Int),((0:Int),(a,(w,([],()))))))=some (a,(w,(L,()))):=by
   unfold Nb;delta u6;refine cP (fun i:Nat=>(L,((L.length:Int),((i:Int),(a,(w,(L.take i,()))))))) L.length rfl ?_ ?_ (bt (by omega))
   .intro i hi;have hc:=List.getElem?_eq_getElem hi
    try dsimp only
    unfold Dq;refine ao (aj (show(i:Int)<(L.length:Int) by omega)) (ak (aN ⟨by omega,by omega⟩) ?_);have e:∀(p q:Int) (M M':cV (.int .u64)),p=q->M=M'->(some (.inl (L,((L.length:Int),(p,(a,(w,(M,()))))))):Option (TL C8.σs⊕Out C1))=some (.inl (L,((L.length:Int),(q,(a,(w,(M',()))))))):=by rintro _ _ _ _ rfl rfl;rfl
    refine e _ _ _ _ (bJ (x:=(i:Int)+1) (by omega)) ?_;rw[bn (σ:=aB) hc];have hlast:=SR (σ:=.int .u64) (k:=L[i].1) (v:=L[i].2.1) (M:=L.take i) (fun p hp=>by
     obtain⟨j,hj⟩:=List.getElem?_of_mem hp;have hjl:j<i:=Nat.lt_of_lt_of_le (Tp hj) (List.length_take_le i L);have hj:(L:List aB.T)[j]?=some p:=by rw[<-hj];exact(List.getElem?_take_of_lt hjl).symm
     have:=hs i hi j hjl;unfold dD at this;rw[bn (σ:=aB) hj,bn (σ:=aB) hc]at this;exact this)
    refine hlast.trans ?_;exact(agM hc).symm
   .try dsimp only
    unfold Dq;refine af (au (show ¬(L.length:Int)<(L.length:Int) by omega)) ?_;rw[List.take_length];rfl
  exact ag eL rfl
def jo(T:List ab.T)(cs:List (List aB.T))(i:Nat):Bool:=ir (gt ab T (i:Int)).1 (gt ab T (i:Int)).2.1 (gt (.sl aB) cs (i:Int))
def Ss(T:List ab.T)(cs:List (List aB.T))(i:Nat):cW:=mK (gt ab T (i:Int)).1 (gt ab T (i:Int)).2.1 (gt (.sl aB) cs (i:Int))
def jY(T:List ab.T)(cs:List (List aB.T))(k:Nat):List cW:=(List.range k).map (Ss T cs)
theorem ahq(T:List ab.T)(ax:List Bool)(cs:List (List aB.T))(hT:T.length<=100000)(hc:cs.length=T.length) :
  Na (T,((T.length:Int),((0:Int),(ax,(cs,([],()))))))=some (match(List.range T.length).all (jo T cs)with|true=>.inr (jY T cs T.length,())|false=>.inl ((14:Int),())):=by
 unfold Na;delta u6;refine kH (fun i:Nat=>(T,((T.length:Int),((i:Int),(ax,(cs,(jY T cs i,()))))))) (jo T cs) T.length ?_ ?_ ?_ rfl (bt (by omega))
 .intro i hi hp;have e1:=Oh (gt ab T (i:Int)).1 (gt ab T (i:Int)).2.1 (gt (.sl aB) cs (i:Int));have hp':ir (gt ab T (i:Int)).1 (gt ab T (i:Int)).2.1 (gt (.sl aB) cs (i:Int))=true:=hp;rw[hp']at e1;have hlen:(jY T cs i).length=i:=by unfold jY;simp
  try dsimp only
  unfold wA;refine ao (aj (show(i:Int)<(T.length:Int) by omega)) (ak (aN ⟨by omega,by omega⟩) (ak (aN ⟨by omega,by omega⟩) ((bP e1).trans (af rfl (ak (oh (L:=jY T cs i) (by rw[hlen];omega) (by decide)) ?_)))));have e:∀(p q:Int) (M M':List cW),p=q->M=M'->(some (.inl (T,((T.length:Int),(p,(ax,(cs,(M,()))))))):Option (TL C6.σs⊕Out CX))=some (.inl (T,((T.length:Int),(q,(ax,(cs,(M',()))))))):=by rintro _ _ _ _ rfl rfl;rfl
  refine e _ _ _ _ (bJ (x:=(i:Int)+1) (by omega)) ?_;show jY T cs i++[Ss T cs i]=jY T cs (i+1);unfold jY;rw[List.range_succ,List.map_append];rfl
 .intro i hi hp;have e1:=Oh (gt ab T (i:Int)).1 (gt ab T (i:Int)).2.1 (gt (.sl aB) cs (i:Int));have hp':ir (gt ab T (i:Int)).1 (gt ab T (i:Int)).2.1 (gt (.sl aB) cs (i:Int))=false:=hp;rw[hp']at e1
  try dsimp only
  unfold wA;exact ao (aj (show(i:Int)<(T.length:Int) by omega)) (ak (aN ⟨by omega,by omega⟩) (ak (aN ⟨by omega,by omega⟩) ((bP e1).trans (ak rfl rfl))))
 .try dsimp only
  unfold wA;exact af (au (show ¬(T.length:Int)<(T.length:Int) by omega)) rfl
def dV(d:bf.T)(s:cF.T):Bool:=decide (s.1.length=d.2.2.1.length)&&decide (s.2.1.length=d.2.2.2.2.2.2.1.length)&&(List.range d.2.2.2.2.2.2.1.length).all (jo d.2.2.2.2.2.2.1 s.2.1)
theorem YO(d:bf.T)(s:cF.T)(hT:d.2.2.2.2.2.2.1.length<=100000) :
  Zq8 (d.1,(d.2.1,(d.2.2.1,(d.2.2.2.1,(d.2.2.2.2.1,(d.2.2.2.2.2.1,(d.2.2.2.2.2.2.1,(d.2.2.2.2.2.2.2.1,(s.1,(s.2.1,())))))))))) =
   some (match dV d s with|true=>((0:Int),(jY d.2.2.2.2.2.2.1 s.2.1 d.2.2.2.2.2.2.1.length,()))|false=>((14:Int),([],()))):=by
 show NG wi Na d.1 d.2.1 d.2.2.1 d.2.2.2.1 d.2.2.2.2.1 d.2.2.2.2.2.1 d.2.2.2.2.2.2.1 d.2.2.2.2.2.2.2.1 s.1 s.2.1=_;unfold NG dV;by_cases h1:s.1.length=d.2.2.1.length
 .rw[decide_eq_true h1];have q1:Bool.not (decide (Int.ofNat (List.length s.1)=Int.ofNat (List.length d.2.2.1)))=false:=by rw[decide_eq_true (by rw[h1])];rfl
  refine af q1 ?_;by_cases h2:s.2.1.length=d.2.2.2.2.2.2.1.length
  .rw[decide_eq_true h2];have q2:Bool.not (decide (Int.ofNat (List.length s.2.1)=Int.ofNat (List.length d.2.2.2.2.2.2.1)))=false:=by rw[decide_eq_true (by rw[h2])];rfl
   refine af q2 ((bP (ahq d.2.2.2.2.2.2.1 s.1 s.2.1 hT h2)).trans ?_);cases(List.range d.2.2.2.2.2.2.1.length).all (jo d.2.2.2.2.2.2.1 s.2.1)<;>rfl
  .rw[decide_eq_false h2];have q2:Bool.not (decide (Int.ofNat (List.length s.2.1)=Int.ofNat (List.length d.2.2.2.2.2.2.1)))=true:=by rw[decide_eq_false (fun e=>h2 (Int.ofNat.inj e))];rfl
   exact ao q2 rfl
 .rw[decide_eq_false h1];have q1:Bool.not (decide (Int.ofNat (List.length s.1)=Int.ofNat (List.length d.2.2.1)))=true:=by rw[decide_eq_false (fun e=>h1 (Int.ofNat.inj e))];rfl
  exact ao q1 rfl
def gU(d:bf.T)(s:cF.T):Int:=if Pl.cK (dO d)≠0 then Pl.cK (dO d)else match dV d s with|true=>0|false=>14
theorem Zy6(d:bf.T)(s:cF.T)(ft:Fit (dO d))(hT:d.2.2.2.2.2.2.1.length<=100000):Zhp (d,(s,()))=some (gU d s,()):=by
 have e1:=pf ft;rw[Ds]at e1;have e2:=YO d s hT;unfold gU;by_cases h:Pl.cK (dO d)=0
 .rw[if_neg (by simpa using h)];refine ag e1 (af (by rw[h];rfl) (ag e2 ?_));cases dV d s<;>rfl
 .rw[if_pos h];exact ag e1 (ao (by simp[h]) rfl)
def lJ(cs:List (List aB.T)):Prop:=∀c∈cs,ou c
theorem agd(d:bf.T)(ax:List Bool)(cs:List (List aB.T))(hT:d.2.2.2.2.2.2.1.length<=100000)(hc:cs.length=d.2.2.2.2.2.2.1.length)(hok:lJ cs) :
  ZI ((0:Int),(d.1,(d.2.1,(d.2.2.1,(d.2.2.2.1,(d.2.2.2.2.1,(d.2.2.2.2.2.1,(d.2.2.2.2.2.2.1,(d.2.2.2.2.2.2.2.1,(ax,(cs,()))))))))))) =
   some (match(List.range d.2.2.2.2.2.2.1.length).all (jo d.2.2.2.2.2.2.1 cs)with|true=>.inr ()|false=>.inl ((14:Int),())):=by
 have hok':∀i:Nat,i<d.2.2.2.2.2.2.1.length->ou (gt (.sl aB) cs (i:Int)):=by intro i hi;have hg:=List.getElem?_eq_getElem (l:=cs) (i:=i) (by omega);rw[bn (σ:=.sl aB) hg];exact hok _ (List.getElem_mem (by omega))
 unfold ZI;delta jE;refine kH (fun i:Nat=>((i:Int),(d.1,(d.2.1,(d.2.2.1,(d.2.2.2.1,(d.2.2.2.2.1,(d.2.2.2.2.2.1,(d.2.2.2.2.2.2.1,(d.2.2.2.2.2.2.2.1,(ax,(cs,())))))))))))) (jo d.2.2.2.2.2.2.1 cs) d.2.2.2.2.2.2.1.length ?_ ?_ ?_ rfl (bt (by omega))
 .intro i hi hp;have e1:=Zwj (gt ab d.2.2.2.2.2.2.1 (i:Int)).1 (gt ab d.2.2.2.2.2.2.1 (i:Int)).2.1 (gt (.sl aB) cs (i:Int)) (hok' i hi);have hp':ir (gt ab d.2.2.2.2.2.2.1 (i:Int)).1 (gt ab d.2.2.2.2.2.2.1 (i:Int)).2.1 (gt (.sl aB) cs (i:Int))=true:=hp;rw[hp']at e1
  try dsimp only
  unfold wb;have e:∀(p q:Int),p=q->(some (.inl (p,(d.1,(d.2.1,(d.2.2.1,(d.2.2.2.1,(d.2.2.2.2.1,(d.2.2.2.2.2.1,(d.2.2.2.2.2.2.1,(d.2.2.2.2.2.2.2.1,(ax,(cs,())))))))))))):Option (TL CG.σs⊕Out Cz))=some (.inl (q,(d.1,(d.2.1,(d.2.2.1,(d.2.2.2.1,(d.2.2.2.2.1,(d.2.2.2.2.2.1,(d.2.2.2.2.2.2.1,(d.2.2.2.2.2.2.2.1,(ax,(cs,())))))))))))):=by rintro _ _ rfl;rfl
  exact ao (aj (show(i:Int)<(d.2.2.2.2.2.2.1.length:Int) by omega)) (ak (aN ⟨by omega,by omega⟩) (ak (aN ⟨by omega,by omega⟩) (ak (aN ⟨by omega,by omega⟩) ((bP e1).trans (af rfl (e _ _ (bJ (x:=(i:Int)+1) (by omega))))))))
 .intro i hi hp;have e1:=Zwj (gt ab d.2.2.2.2.2.2.1 (i:Int)).1 (gt ab d.2.2.2.2.2.2.1 (i:Int)).2.1 (gt (.sl aB) cs (i:Int)) (hok' i hi);have hp':ir (gt ab d.2.2.2.2.2.2.1 (i:Int)).1 (gt ab d.2.2.2.2.2.2.1 (i:Int)).2.1 (gt (.sl aB) cs (i:Int))=false:=hp;rw[hp']at e1
  try dsimp only
  unfold wb;exact ao (aj (show(i:Int)<(d.2.2.2.2.2.2.1.length:Int) by omega)) (ak (aN ⟨by omega,by omega⟩) (ak (aN ⟨by omega,by omega⟩) (ak (aN ⟨by omega,by omega⟩) ((bP e1).trans (ao rfl rfl)))))
 .try dsimp only
  unfold wb;exact af (au (show ¬(d.2.2.2.2.2.2.1.length:Int)<(d.2.2.2.2.2.2.1.length:Int) by omega)) rfl
theorem Zya(d:bf.T)(s:cF.T)(ft:Fit (dO d))(hT:d.2.2.2.2.2.2.1.length<=100000)(hok:lJ s.2.1):Zbn (d,(s,()))=some (gU d s,()):=by
 have e1:=DN ft;rw[Ds]at e1;unfold gU;by_cases h:Pl.cK (dO d)=0
 .rw[if_neg (by simpa using h)];refine ag e1 (af (by rw[h];rfl) ?_);unfold dV;by_cases h1:s.1.length=d.2.2.1.length
  .rw[decide_eq_true h1];have q1:Bool.not (decide (Int.ofNat (List.length s.1)=Int.ofNat (List.length d.2.2.1)))=false:=by rw[decide_eq_true (by rw[h1])];rfl
   refine af q1 ?_;by_cases h2:s.2.1.length=d.2.2.2.2.2.2.1.length
   .rw[decide_eq_true h2];have q2:Bool.not (decide (Int.ofNat (List.length s.2.1)=Int.ofNat (List.length d.2.2.2.2.2.2.1)))=false:=by rw[decide_eq_true (by rw[h2])];rfl
    refine af q2 ((bP (agd d s.1 s.2.1 hT h2 hok)).trans ?_);cases(List.range d.2.2.2.2.2.2.1.length).all (jo d.2.2.2.2.2.2.1 s.2.1)<;>rfl
   .rw[decide_eq_false h2];have q2:Bool.not (decide (Int.ofNat (List.length s.2.1)=Int.ofNat (List.length d.2.2.2.2.2.2.1)))=true:=by rw[decide_eq_false (fun e=>h2 (Int.ofNat.inj e))];rfl
    exact ao q2 rfl
  .rw[decide_eq_false h1];have q1:Bool.not (decide (Int.ofNat (List.length s.1)=Int.ofNat (List.length d.2.2.1)))=true:=by rw[decide_eq_false (fun e=>h1 (Int.ofNat.inj e))];rfl
   exact ao q1 rfl
 .rw[if_pos h];exact ag e1 (ao (by simp[h]) rfl)
def ff(d:List ae.T)(i:Int):Int:=(gt ae d i).2.2.1
def j7(d:List ae.T)(k:Nat):List Bool:=(List.range k).map fun i=>decide (ff d ((i:Nat):Int)=1)
theorem agJ(d:List ae.T)(k:Nat):j7 d (k+1)=j7 d k++[decide (ff d (k:Int)=1)]:=by unfold j7;rw[List.range_succ,List.map_append];rfl
theorem N1(d:List ae.T)(k:Nat):(j7 d k).length=k:=by unfold j7;simp
def nx{α:Type}(d:bf.T)(r:α):Int×List Int×List ae.T×List Int×List Int×List Int×List ab.T×List ae.T×α:=(d.1,(d.2.1,(d.2.2.1,(d.2.2.2.1,(d.2.2.2.2.1,(d.2.2.2.2.2.1,(d.2.2.2.2.2.2.1,(d.2.2.2.2.2.2.2.1,r))))))))
def je(d:bf.T):cF.T:=match decide (Pl.cK (dO d)=0)with|true=>(j7 d.2.2.1 d.2.2.1.length,(List.replicate d.2.2.2.2.2.2.1.length [],()))|false=>([],([],()))
theorem agb(d:bf.T)(T:List ae.T)(hL:T.length<=100000):Z9 (T,((T.length:Int),((0:Int),nx d ([],()))))=some (nx d (j7 T T.length,())):=by
 unfold Z9;delta jW;refine cP (fun i:Nat=>(T,((T.length:Int),((i:Int),nx d (j7 T i,()))))) T.length rfl ?_ ?_ (bt (by omega))
 .intro i hi;unfold nx
  try dsimp only
  unfold Dn;refine ao (aj (show(i:Int)<(T.length:Int) by omega)) (ak (aN ⟨by omega,by omega⟩) (ak (oh (L:=j7 T i) (by rw[N1];omega) (by decide)) ?_));have e:∀(p q:Int) (M M':List Bool),p=q->M=M'->(some (.inl (T,((T.length:Int),(p,nx d (M,()))))):Option (TL C7.σs⊕Out CY))=some (.inl (T,((T.length:Int),(q,nx d (M',()))))):=by rintro _ _ _ _ rfl rfl;rfl
  exact e _ _ _ _ (bJ (x:=(i:Int)+1) (by omega)) (agJ _ _).symm
 .unfold nx
  try dsimp only
  unfold Dn;exact af (au (show ¬(T.length:Int)<(T.length:Int) by omega)) rfl
theorem alD{n:Nat}(h:n<=100000):both (decide ((0:Int)<=(n:Int))) (both (decide ((n:Int)<=(n:Int))) (decide ((24:Int)*(n:Int)<=281474976710656)))=true:=by rw[decide_eq_true (by omega),decide_eq_true (by omega),decide_eq_true (by omega)];rfl
theorem agN(d:bf.T)(ft:Fit (dO d))(hL:d.2.2.1.length<=100000)(hT:d.2.2.2.2.2.2.1.length<=100000):Zqa (d,())=some (je d,()):=by
 have e1:=pf ft;rw[Ds]at e1;unfold je;by_cases h:Pl.cK (dO d)=0
 .rw[decide_eq_true h];exact ag e1 (af (by rw[h];rfl) (ag (agb d d.2.2.1 hL) (ak (alD hT) rfl)))
 .rw[decide_eq_false h];exact ag e1 (ao (by simp[h]) rfl)
def uj(R:List bL.T)(i:Int):Nat:=List.length (gt bL R i).2.1
def nM(R:List bL.T)(i:Int):Int:=(gt bL R i).1
def py(R:List bL.T)(i:Nat):Bool:=decide (uj R (i:Int)<=100)&&decide (nM R (i:Int)<=1099511627776)&&decide (-1099511627776<=nM R (i:Int))
def uw(R:List bD.T)(i:Int):Nat:=List.length (gt bD R i).2.1
def uv(R:List bD.T)(i:Int):Nat:=List.length (gt bD R i).2.2.1
def pz(R:List bD.T)(i:Nat):Bool:=decide (uw R (i:Int)<=100)&&decide (uv R (i:Int)<=100)
theorem Ud(d:bf.T)(t a w:Int)(y:Bool)(R:List bL.T)(W:List bD.T)(hR:R.length<=100000) :
  L0 (t,((0:Int),nx d (a,(w,(y,(R,(W,())))))))=some (match(List.range R.length).all (py R)with|true=>.inr (t,nx d (a,(w,(y,(R,(W,()))))))|false=>.inl (false,())):=by
 unfold L0;delta dT;refine kH (fun i:Nat=>(t,((i:Int),nx d (a,(w,(y,(R,(W,())))))))) (py R) R.length ?_ ?_ ?_ rfl (bt (by omega))
 .intro i hi hp;unfold py at hp;simp only[Bool.and_eq_true,decide_eq_true_eq]at hp;obtain⟨⟨h1,h2⟩,h3⟩:=hp;have aT:aA (i:Int) (List.length R)=true:=aN ⟨by omega,by omega⟩;unfold nx
  try dsimp only
  unfold vX;have e:∀p q:Int,p=q->(some (.inl (t,(p,nx d (a,(w,(y,(R,(W,())))))))):Option (TL Cg.σs⊕Out Cd))=some (.inl (t,(q,nx d (a,(w,(y,(R,(W,())))))))):=by rintro _ _ rfl;rfl
  exact ao (aj (show(i:Int)<(R.length:Int) by omega)) (ak aT (af (au (show ¬(100:Int)<((uj R (i:Int):Nat):Int) by omega)) (ak aT (af (au (show ¬(1099511627776:Int)<nM R (i:Int) by omega)) (ak aT (af (au (show ¬nM R (i:Int)<Int.negSucc 1099511627775 by omega)) (e _ _ (bJ (x:=(i:Int)+1) (by omega)))))))))
 .intro i hi hp;have aT:aA (i:Int) (List.length R)=true:=aN ⟨by omega,by omega⟩;unfold nx
  try dsimp only
  unfold vX;refine ao (aj (show(i:Int)<(R.length:Int) by omega)) (ak aT ?_);by_cases h1:(100:Int)<((uj R (i:Int):Nat):Int)
  .exact ao (aj h1) rfl
  refine af (au h1) (ak aT ?_);by_cases h2:(1099511627776:Int)<nM R (i:Int)
  .exact ao (aj h2) rfl
  refine af (au h2) (ak aT ?_);by_cases h3:nM R (i:Int)<Int.negSucc 1099511627775
  .exact ao (aj h3) rfl
  unfold py at hp;rw[decide_eq_true (show uj R (i:Int)<=100 by omega),decide_eq_true (show nM R (i:Int)<=1099511627776 by omega),decide_eq_true (show -1099511627776<=nM R (i:Int) by omega)]at hp;cases hp
 .unfold nx
  try dsimp only
  unfold vX;exact af (au (show ¬(R.length:Int)<(R.length:Int) by omega)) rfl
theorem Uc(d:bf.T)(t a w:Int)(y:Bool)(R:List bL.T)(W:List bD.T)(hW:W.length<=100000) :
  LY (t,((0:Int),nx d (a,(w,(y,(R,(W,())))))))=some (match(List.range W.length).all (pz W)with|true=>.inr (t,nx d ())|false=>.inl (false,())):=by
 unfold LY;delta dT;refine kH (fun i:Nat=>(t,((i:Int),nx d (a,(w,(y,(R,(W,())))))))) (pz W) W.length ?_ ?_ ?_ rfl (bt (by omega))
 .intro i hi hp;unfold pz at hp;simp only[Bool.and_eq_true,decide_eq_true_eq]at hp;obtain⟨h1,h2⟩:=hp;have aT:aA (i:Int) (List.length W)=true:=aN ⟨by omega,by omega⟩;unfold nx
  try dsimp only
  unfold vW;have e:∀p q:Int,p=q->(some (.inl (t,(p,nx d (a,(w,(y,(R,(W,())))))))):Option (TL Cf.σs⊕Out Cc))=some (.inl (t,(q,nx d (a,(w,(y,(R,(W,())))))))):=by rintro _ _ rfl;rfl
  exact ao (aj (show(i:Int)<(W.length:Int) by omega)) (ak aT (af (au (show ¬(100:Int)<((uw W (i:Int):Nat):Int) by omega)) (ak aT (af (au (show ¬(100:Int)<((uv W (i:Int):Nat):Int) by omega)) (e _ _ (bJ (x:=(i:Int)+1) (by omega)))))))
 .intro i hi hp;have aT:aA (i:Int) (List.length W)=true:=aN ⟨by omega,by omega⟩;unfold nx
  try dsimp only
  unfold vW;refine ao (aj (show(i:Int)<(W.length:Int) by omega)) (ak aT ?_);by_cases h1:(100:Int)<((uw W (i:Int):Nat):Int)
  .exact ao (aj h1) rfl
  refine af (au h1) (ak aT ?_);by_cases h2:(100:Int)<((uv W (i:Int):Nat):Int)
  .exact ao (aj h2) rfl
  unfold pz at hp;rw[decide_eq_true (show uw W (i:Int)<=100 by omega),decide_eq_true (show uv W (i:Int)<=100 by omega)]at hp;cases hp
 .unfold nx
  try dsimp only
  unfold vW;exact af (au (show ¬(W.length:Int)<(W.length:Int) by omega)) rfl
def kI(T:List ab.T)(i:Int):List bL.T:=(gt ab T i).2.2.2.1
def kJ(T:List ab.T)(i:Int):List bD.T:=(gt ab T i).2.2.2.2.1
def nJ(T:List ab.T)(i:Int):Int:=(gt ab T i).2.1
def p4(T:List ab.T)(i:Nat):Bool:=decide ((kI T (i:Int)).length<=6)&&decide ((kJ T (i:Int)).length<=6)&&decide (nJ T (i:Int)<=100) &&
 (List.range (kI T (i:Int)).length).all (py (kI T (i:Int)))&&(List.range (kJ T (i:Int)).length).all (pz (kJ T (i:Int)))
theorem aeU(d:bf.T)(hT:d.2.2.2.2.2.2.1.length<=100000) :
  ZH ((0:Int),nx d ())=some (match(List.range d.2.2.2.2.2.2.1.length).all (p4 d.2.2.2.2.2.2.1)with|true=>.inr ()|false=>.inl (false,())):=by
 unfold ZH;delta u9;refine kH (fun i:Nat=>((i:Int),nx d ())) (p4 d.2.2.2.2.2.2.1) d.2.2.2.2.2.2.1.length ?_ ?_ ?_ rfl (bt (by omega))
 .intro i hi hp;unfold p4 at hp;simp only[Bool.and_eq_true,decide_eq_true_eq]at hp;obtain⟨⟨⟨⟨h1,h2⟩,h3⟩,h4⟩,h5⟩:=hp;have aT:aA (i:Int) (List.length d.2.2.2.2.2.2.1)=true:=aN ⟨by omega,by omega⟩;have e10:=Ud d (i:Int) (gt ab d.2.2.2.2.2.2.1 (i:Int)).1 (nJ d.2.2.2.2.2.2.1 (i:Int)) (gt ab d.2.2.2.2.2.2.1 (i:Int)).2.2.1 (kI d.2.2.2.2.2.2.1 (i:Int)) (kJ d.2.2.2.2.2.2.1 (i:Int)) (by omega);have e15:=Uc d (i:Int) (gt ab d.2.2.2.2.2.2.1 (i:Int)).1 (nJ d.2.2.2.2.2.2.1 (i:Int)) (gt ab d.2.2.2.2.2.2.1 (i:Int)).2.2.1 (kI d.2.2.2.2.2.2.1 (i:Int)) (kJ d.2.2.2.2.2.2.1 (i:Int)) (by omega);rw[h4]at e10;rw[h5]at e15;unfold nx at e10 e15 |-
  try dsimp only
  unfold wa;have e:∀p q:Int,p=q->(some (.inl (p,nx d ())):Option (TL CF.σs⊕Out Cv))=some (.inl (q,nx d ())):=by rintro _ _ rfl;rfl
  exact ao (aj (show(i:Int)<(d.2.2.2.2.2.2.1.length:Int) by omega)) (ak aT (af (au (show ¬(6:Int)<(((kI d.2.2.2.2.2.2.1 (i:Int)).length:Nat):Int) by omega)) (af (au (show ¬(6:Int)<(((kJ d.2.2.2.2.2.2.1 (i:Int)).length:Nat):Int) by omega)) (af (au (show ¬(100:Int)<nJ d.2.2.2.2.2.2.1 (i:Int) by omega)) ((bP e10).trans ((bP e15).trans (e _ _ (bJ (x:=(i:Int)+1) (by omega)))))))))
 .intro i hi hp;have aT:aA (i:Int) (List.length d.2.2.2.2.2.2.1)=true:=aN ⟨by omega,by omega⟩;unfold nx
  try dsimp only
  unfold wa;refine ao (aj (show(i:Int)<(d.2.2.2.2.2.2.1.length:Int) by omega)) (ak aT ?_);by_cases h1:(6:Int)<(((kI d.2.2.2.2.2.2.1 (i:Int)).length:Nat):Int)
  .exact ao (aj h1) rfl
  refine af (au h1) ?_;by_cases h2:(6:Int)<(((kJ d.2.2.2.2.2.2.1 (i:Int)).length:Nat):Int)
  .exact ao (aj h2) rfl
  refine af (au h2) ?_;by_cases h3:(100:Int)<nJ d.2.2.2.2.2.2.1 (i:Int)
  .exact ao (aj h3) rfl
  refine af (au h3) ?_;have e10:=Ud d (i:Int) (gt ab d.2.2.2.2.2.2.1 (i:Int)).1 (nJ d.2.2.2.2.2.2.1 (i:Int)) (gt ab d.2.2.2.2.2.2.1 (i:Int)).2.2.1 (kI d.2.2.2.2.2.2.1 (i:Int)) (kJ d.2.2.2.2.2.2.1 (i:Int)) (by omega);have e15:=Uc d (i:Int) (gt ab d.2.2.2.2.2.2.1 (i:Int)).1 (nJ d.2.2.2.2.2.2.1 (i:Int)) (gt ab d.2.2.2.2.2.2.1 (i:Int)).2.2.1 (kI d.2.2.2.2.2.2.1 (i:Int)) (kJ d.2.2.2.2.2.2.1 (i:Int)) (by omega);refine(bP e10).trans ?_;cases h4:(List.range (kI d.2.2.2.2.2.2.1 (i:Int)).length).all (py (kI d.2.2.2.2.2.2.1 (i:Int)))with|false=>rfl|true=>refine(bP e15).trans ?_;cases h5:(List.range (kJ d.2.2.2.2.2.2.1 (i:Int)).length).all (pz (kJ d.2.2.2.2.2.2.1 (i:Int)))with|false=>rfl|true=>unfold p4 at hp;rw[h4,h5,decide_eq_true (show(kI d.2.2.2.2.2.2.1 (i:Int)).length<=6 by omega),decide_eq_true (show(kJ d.2.2.2.2.2.2.1 (i:Int)).length<=6 by omega),decide_eq_true (show nJ d.2.2.2.2.2.2.1 (i:Int)<=100 by omega)]at hp;cases hp
 .unfold nx
  try dsimp only
  unfold wa;exact af (au (show ¬(d.2.2.2.2.2.2.1.length:Int)<(d.2.2.2.2.2.2.1.length:Int) by omega)) rfl
def tg(d:bf.T):Prop:=List.length d.2.1<=2100/\List.length d.2.2.1<=2100/\List.length d.2.2.2.2.2.2.2.1<=2100/\List.length d.2.2.2.1<=1100/\List.length d.2.2.2.2.1<=1100/\List.length d.2.2.2.2.2.1<=1100/\List.length d.2.2.2.2.2.2.1<=6 /\
 (List.range d.2.2.2.2.2.2.1.length).all (p4 d.2.2.2.2.2.2.1)=true
theorem agY(d:bf.T):∃b,Mm (d,())=some (b,())/\(b=true->tg d):=by
 have key:∀{b:Bool},(b=true->tg d)->Mm (d,())=some (b,())->∃b,Mm (d,())=some (b,())/\(b=true->tg d):=fun h e=>⟨_,e,h⟩;by_cases h1:(2100:Int)<((List.length d.2.1:Nat):Int)
 .exact key (fun h=>by cases h) (ao (aj h1) rfl)
 by_cases h2:(2100:Int)<((List.length d.2.2.1:Nat):Int)
 .exact key (fun h=>by cases h) (af (au h1) (ao (aj h2) rfl))
 by_cases h3:(2100:Int)<((List.length d.2.2.2.2.2.2.2.1:Nat):Int)
 .exact key (fun h=>by cases h) (af (au h1) (af (au h2) (ao (aj h3) rfl)))
 by_cases h4:(1100:Int)<((List.length d.2.2.2.1:Nat):Int)
 .exact key (fun h=>by cases h) (af (au h1) (af (au h2) (af (au h3) (ao (aj h4) rfl))))
 by_cases h5:(1100:Int)<((List.length d.2.2.2.2.1:Nat):Int)
 .exact key (fun h=>by cases h) (af (au h1) (af (au h2) (af (au h3) (af (au h4) (ao (aj h5) rfl)))))
 by_cases h6:(1100:Int)<((List.length d.2.2.2.2.2.1:Nat):Int)
 .exact key (fun h=>by cases h) (af (au h1) (af (au h2) (af (au h3) (af (au h4) (af (au h5) (ao (aj h6) rfl))))))
 by_cases h7:(6:Int)<((List.length d.2.2.2.2.2.2.1:Nat):Int)
 .exact key (fun h=>by cases h) (af (au h1) (af (au h2) (af (au h3) (af (au h4) (af (au h5) (af (au h6) (ao (aj h7) rfl)))))))
 have e4:=aeU d (by omega);cases h8:(List.range d.2.2.2.2.2.2.1.length).all (p4 d.2.2.2.2.2.2.1)with
 |false=>rw[h8]at e4;exact key (fun h=>by cases h) (af (au h1) (af (au h2) (af (au h3) (af (au h4) (af (au h5) (af (au h6) (af (au h7) (ag e4 rfl))))))))
 |true=>rw[h8]at e4;exact key (fun _=>⟨by omega,by omega,by omega,by omega,by omega,by omega,by omega,h8⟩) (af (au h1) (af (au h2) (af (au h3) (af (au h4) (af (au h5) (af (au h6) (af (au h7) (ag e4 rfl))))))))
theorem agX(d:bf.T):∃b,Zcw (d,())=some (b,())/\(b=true->tg d):=by
 obtain⟨b,e,h⟩:=agY d;cases b with
 |false=>exact⟨false,ag e rfl,fun q=>by cases q⟩
 |true=>
  by_cases h1:((List.length d.2.2.2.2.2.2.2.1:Nat):Int)<=100
  .by_cases h2:((List.length d.2.1:Nat):Int)<=100
   .by_cases h3:((List.length d.2.2.1:Nat):Int)<=100
    .exact⟨_,ag e (ao rfl (ao (aj h1) (ao (aj h2) (ao (aj h3) rfl)))),fun _=>h rfl⟩
    .exact⟨false,ag e (ao rfl (ao (aj h1) (ao (aj h2) (af (au h3) rfl)))),fun q=>by cases q⟩
   .exact⟨false,ag e (ao rfl (ao (aj h1) (af (au h2) rfl))),fun q=>by cases q⟩
  .exact⟨false,ag e (ao rfl (af (au h1) rfl)),fun q=>by cases q⟩
def k7(C:List (List aB.T))(i:Int):Nat:=List.length (gt (.sl aB) C i)
def qp(I:List (List Bool))(i:Int):Nat:=List.length (gt (.sl .bool) I i)
theorem ahs(ax:List Bool)(C:List (List aB.T))(I:List (List Bool))(hC:C.length<=100000) :
  ZG (I,((0:Int),(ax,(C,()))))=some (match(List.range C.length).all (fun i=>decide (k7 C ((i:Nat):Int)<=100))with|true=>.inr (I,())|false=>.inl (false,())):=by
 unfold ZG;delta u4;refine kH (fun i:Nat=>(I,((i:Int),(ax,(C,()))))) (fun i=>decide (k7 C ((i:Nat):Int)<=100)) C.length ?_ ?_ ?_ rfl (bt (by omega))
 .intro i hi hp;have hp:=of_decide_eq_true hp
  try dsimp only
  unfold v8;have e:∀p q:Int,p=q->(some (.inl (I,(p,(ax,(C,()))))):Option (TL CE.σs⊕Out Cu))=some (.inl (I,(q,(ax,(C,()))))):=by rintro _ _ rfl;rfl
  exact ao (aj (show(i:Int)<(C.length:Int) by omega)) (ak (aN ⟨by omega,by omega⟩) (af (au (show ¬(100:Int)<((k7 C (i:Int):Nat):Int) by omega)) (e _ _ (bJ (x:=(i:Int)+1) (by omega)))))
 .intro i hi hp;have hp:=of_decide_eq_false hp
  try dsimp only
  unfold v8;exact ao (aj (show(i:Int)<(C.length:Int) by omega)) (ak (aN ⟨by omega,by omega⟩) (ao (aj (show(100:Int)<((k7 C (i:Int):Nat):Int) by omega)) rfl))
 .try dsimp only
  unfold v8;exact af (au (show ¬(C.length:Int)<(C.length:Int) by omega)) rfl
theorem ahr(I:List (List Bool))(hI:I.length<=100000) :
  ZF (I,((0:Int),()))=some (match(List.range I.length).all (fun i=>decide (qp I ((i:Nat):Int)<=200))with|true=>.inr ()|false=>.inl (false,())):=by
 unfold ZF;delta u2;refine kH (fun i:Nat=>(I,((i:Int),()))) (fun i=>decide (qp I ((i:Nat):Int)<=200)) I.length ?_ ?_ ?_ rfl (bt (by omega))
 .intro i hi hp;have hp:=of_decide_eq_true hp
  try dsimp only
  unfold v7;have e:∀p q:Int,p=q->(some (.inl (I,(p,()))):Option (TL CD.σs⊕Out Ct))=some (.inl (I,(q,()))):=by rintro _ _ rfl;rfl
  exact ao (aj (show(i:Int)<(I.length:Int) by omega)) (ak (aN ⟨by omega,by omega⟩) (af (au (show ¬(200:Int)<((qp I (i:Int):Nat):Int) by omega)) (e _ _ (bJ (x:=(i:Int)+1) (by omega)))))
 .intro i hi hp;have hp:=of_decide_eq_false hp
  try dsimp only
  unfold v7;exact ao (aj (show(i:Int)<(I.length:Int) by omega)) (ak (aN ⟨by omega,by omega⟩) (ao (aj (show(200:Int)<((qp I (i:Int):Nat):Int) by omega)) rfl))
 .try dsimp only
  unfold v7;exact af (au (show ¬(I.length:Int)<(I.length:Int) by omega)) rfl
def aeV(ax:List Bool)(C:List (List aB.T))(I:List (List Bool)):Prop:=ax.length<=200/\C.length<=10/\I.length<=40/\(∀i:Nat,i<C.length->k7 C (i:Int)<=100)/\∀i:Nat,i<I.length->qp I (i:Int)<=200
theorem agW(d:bf.T)(ax:List Bool)(C:List (List aB.T))(I:List (List Bool)):∃b,Zfz (d,((ax,(C,())),(I,())))=some (b,())/\(b=true->tg d/\aeV ax C I):=by
 obtain⟨b,e,h⟩:=agX d;cases b with
 |false=>exact⟨false,ag e (ao rfl rfl),fun q=>by cases q⟩
 |true=>
  by_cases h1:(200:Int)<((ax.length:Nat):Int)
  .exact⟨false,ag e (af rfl (ao (aj h1) rfl)),fun q=>by cases q⟩
  by_cases h2:(10:Int)<((C.length:Nat):Int)
  .exact⟨false,ag e (af rfl (af (au h1) (ao (aj h2) rfl))),fun q=>by cases q⟩
  by_cases h3:(40:Int)<((I.length:Nat):Int)
  .exact⟨false,ag e (af rfl (af (au h1) (af (au h2) (ao (aj h3) rfl)))),fun q=>by cases q⟩
  have e4:=ahs ax C I (by omega);have e9:=ahr I (by omega);cases h4:(List.range C.length).all (fun i=>decide (k7 C ((i:Nat):Int)<=100))with
  |false=>rw[h4]at e4;exact⟨false,ag e (af rfl (af (au h1) (af (au h2) (af (au h3) (ag e4 rfl))))),fun q=>by cases q⟩
  |true=>
   rw[h4]at e4;cases h5:(List.range I.length).all (fun i=>decide (qp I ((i:Nat):Int)<=200))with
   |false=>rw[h5]at e9;exact⟨false,ag e (af rfl (af (au h1) (af (au h2) (af (au h3) (ag e4 (ag e9 rfl)))))),fun q=>by cases q⟩
   |true=>
    rw[h5]at e9;have h4':∀i:Nat,i<C.length->k7 C (i:Int)<=100:=by simpa[List.all_eq_true]using h4
    have h5':∀i:Nat,i<I.length->qp I (i:Int)<=200:=by simpa[List.all_eq_true]using h5
    exact⟨true,ag e (af rfl (af (au h1) (af (au h2) (af (au h3) (ag e4 (ag e9 rfl)))))),fun _=>⟨h rfl,by omega,by omega,by omega,h4',h5'⟩⟩
def jm(L:List Bool)(i:Int):Bool:=gt .bool L i
def mE(T:List ae.T)(ax:List Bool)(i:Nat):Bool:=decide (ff T (i:Int)=2)||(decide (ff T (i:Int)=1) == jm ax (i:Int))
def nY(T:List ab.T)(i:Int):Bool:=(gt ab T i).2.2.1
def pM(T:List ab.T)(C:List (List aB.T))(i:Nat):Bool:=nY T (i:Int)||decide (k7 C (i:Int)=0)
theorem ahg(d:bf.T)(T:List ae.T)(ax:List Bool)(C:List (List aB.T))(hT:T.length<=100000)(hl:ax.length=T.length) :
  Z8 (T,((T.length:Int),((0:Int),nx d (ax,(C,())))))=some (match(List.range T.length).all (mE T ax)with|true=>.inr (nx d (ax,(C,())))|false=>.inl ((14:Int),())):=by
 unfold Z8;delta nC;refine kH (fun i:Nat=>(T,((T.length:Int),((i:Int),nx d (ax,(C,())))))) (mE T ax) T.length ?_ ?_ ?_ rfl (bt (by omega))
 .intro i hi hp;unfold mE at hp;unfold nx
  try dsimp only
  unfold wu;have e:∀p q:Int,p=q->(some (.inl (T,((T.length:Int),(p,nx d (ax,(C,())))))):Option (TL CZ.σs⊕Out CO))=some (.inl (T,((T.length:Int),(q,nx d (ax,(C,())))))):=by rintro _ _ rfl;rfl
  refine ao (aj (show(i:Int)<(T.length:Int) by omega)) (ak (aN ⟨by omega,by omega⟩) ?_);by_cases h2:ff T (i:Int)=2
  .exact af (show Bool.not (decide (ff T (i:Int)=2))=false by rw[decide_eq_true h2];rfl) (e _ _ (bJ (x:=(i:Int)+1) (by omega)))
  .rw[decide_eq_false h2,Bool.false_or]at hp;refine ao (show Bool.not (decide (ff T (i:Int)=2))=true by rw[decide_eq_false h2];rfl) (ak (aN ⟨by omega,by omega⟩) (af ?_ (e _ _ (bJ (x:=(i:Int)+1) (by omega)))));show Bool.not (@decide _ (Bool.decEq (decide (ff T (i:Int)=1)) (jm ax (i:Int))))=false;cases q1:decide (ff T (i:Int)=1)<;>cases q2:jm ax (i:Int)<;>rw[q1,q2]at hp<;>first|rfl|cases hp
 .intro i hi hp;unfold mE at hp;rw[Bool.or_eq_false_iff]at hp;obtain⟨h2,h3⟩:=hp;unfold nx
  try dsimp only
  unfold wu;refine ao (aj (show(i:Int)<(T.length:Int) by omega)) (ak (aN ⟨by omega,by omega⟩) (ao (show Bool.not (decide (ff T (i:Int)=2))=true by rw[h2];rfl) (ak (aN ⟨by omega,by omega⟩) (ao ?_ rfl))));show Bool.not (@decide _ (Bool.decEq (decide (ff T (i:Int)=1)) (jm ax (i:Int))))=true;cases q1:decide (ff T (i:Int)=1)<;>cases q2:jm ax (i:Int)<;>rw[q1,q2]at h3<;>first|rfl|cases h3
 .unfold nx
  try dsimp only
  unfold wu;exact af (au (show ¬(T.length:Int)<(T.length:Int) by omega)) rfl
theorem agO(T:List ab.T)(ax:List Bool)(C:List (List aB.T))(hT:T.length<=100000)(hl:C.length=T.length) :
  Z5 (T,((T.length:Int),((0:Int),(ax,(C,())))))=some (match(List.range T.length).all (pM T C)with|true=>.inr ()|false=>.inl ((14:Int),())):=by
 unfold Z5;delta u5;refine kH (fun i:Nat=>(T,((T.length:Int),((i:Int),(ax,(C,())))))) (pM T C) T.length ?_ ?_ ?_ rfl (bt (by omega))
 .intro i hi hp;unfold pM at hp
  try dsimp only
  unfold wq;have e:∀p q:Int,p=q->(some (.inl (T,((T.length:Int),(p,(ax,(C,())))))):Option (TL CP.σs⊕Out CJ))=some (.inl (T,((T.length:Int),(q,(ax,(C,())))))):=by rintro _ _ rfl;rfl
  refine ao (aj (show(i:Int)<(T.length:Int) by omega)) (ak (aN ⟨by omega,by omega⟩) ?_);cases h2:nY T (i:Int)with|true=>exact af (show Bool.not (nY T (i:Int))=false by rw[h2];rfl) (e _ _ (bJ (x:=(i:Int)+1) (by omega)))|false=>rw[h2,Bool.false_or]at hp;have hp:=of_decide_eq_true hp;exact ao (show Bool.not (nY T (i:Int))=true by rw[h2];rfl) (ak (aN ⟨by omega,by omega⟩) (af (au (show ¬(0:Int)<((k7 C (i:Int):Nat):Int) by omega)) (e _ _ (bJ (x:=(i:Int)+1) (by omega)))))
 .intro i hi hp;unfold pM at hp;rw[Bool.or_eq_false_iff]at hp;obtain⟨h2,h3⟩:=hp;have h3:=of_decide_eq_false h3
  try dsimp only
  unfold wq;exact ao (aj (show(i:Int)<(T.length:Int) by omega)) (ak (aN ⟨by omega,by omega⟩) (ao (show Bool.not (nY T (i:Int))=true by rw[h2];rfl) (ak (aN ⟨by omega,by omega⟩) (ao (aj (show(0:Int)<((k7 C (i:Int):Nat):Int) by omega)) rfl))))
 .try dsimp only
  unfold wq;exact af (au (show ¬(T.length:Int)<(T.length:Int) by omega)) rfl
theorem ahj(d:bf.T)(ax:List Bool)(C:List (List aB.T))(hT:d.2.2.1.length<=100000)(hl:ax.length=d.2.2.1.length)(aT:∀i:Nat,i<d.2.2.1.length->0<=ff d.2.2.1 (i:Int)/\ff d.2.2.1 (i:Int)<=2) :
  ZC ((0:Int),nx d (ax,(C,())))=some (match(List.range d.2.2.1.length).all (mE d.2.2.1 ax)with|true=>.inr (nx d (ax,(C,())))|false=>.inl ((14:Int),())):=by
 unfold ZC;delta jE;refine kH (fun i:Nat=>((i:Int),nx d (ax,(C,())))) (mE d.2.2.1 ax) d.2.2.1.length ?_ ?_ ?_ rfl (bt (by omega))
 .intro i hi hp;obtain⟨i0,i2⟩:=aT i hi;unfold mE at hp;have hb:aA (i:Int) (List.length d.2.2.1)=true:=aN ⟨by omega,by omega⟩;have hb2:aA (i:Int) (List.length ax)=true:=aN ⟨by omega,by rw[hl];omega⟩;unfold nx
  try dsimp only
  unfold vY;have e:∀p q:Int,p=q->(some (.inl (p,nx d (ax,(C,())))):Option (TL Cy.σs⊕Out Cn))=some (.inl (q,nx d (ax,(C,())))):=by rintro _ _ rfl;rfl
  have go:=e _ _ (bJ (x:=(i:Int)+1) (by omega));refine ao (aj (show(i:Int)<(d.2.2.1.length:Int) by omega)) (ak hb ?_);by_cases h0:ff d.2.2.1 (i:Int)=0
  .have h1:¬ff d.2.2.1 (i:Int)=1:=by omega
   rw[decide_eq_false (show ¬ff d.2.2.1 (i:Int)=2 by omega),decide_eq_false h1]at hp;have hb3:jm ax (i:Int)=false:=by cases q:jm ax (i:Int)<;>rw[q]at hp<;>first|rfl|cases hp
   exact ao (aj h0) (ak hb2 (af (show aR true (jm ax (i:Int)) false=false by rw[hb3];rfl) (ak hb (af (au h1) go))))
  .refine af (au h0) (ak hb ?_);by_cases h1:ff d.2.2.1 (i:Int)=1
   .rw[decide_eq_false (show ¬ff d.2.2.1 (i:Int)=2 by omega),decide_eq_true h1]at hp;have hb3:jm ax (i:Int)=true:=by cases q:jm ax (i:Int)<;>rw[q]at hp<;>first|rfl|cases hp
    exact ao (aj h1) (ak hb2 (af (show aR false true (aR true (Bool.not (jm ax (i:Int))) false)=false by rw[hb3];rfl) go))
   .exact af (au h1) go
 .intro i hi hp;obtain⟨i0,i2⟩:=aT i hi;unfold mE at hp;rw[Bool.or_eq_false_iff]at hp;obtain⟨h2,h3⟩:=hp;have h2:=of_decide_eq_false h2;have hb:aA (i:Int) (List.length d.2.2.1)=true:=aN ⟨by omega,by omega⟩;have hb2:aA (i:Int) (List.length ax)=true:=aN ⟨by omega,by rw[hl];omega⟩;unfold nx
  try dsimp only
  unfold vY;refine ao (aj (show(i:Int)<(d.2.2.1.length:Int) by omega)) (ak hb ?_);by_cases h0:ff d.2.2.1 (i:Int)=0
  .have h1:¬ff d.2.2.1 (i:Int)=1:=by omega
   rw[decide_eq_false h1]at h3;have hb3:jm ax (i:Int)=true:=by cases q:jm ax (i:Int)<;>rw[q]at h3<;>first|rfl|cases h3
   exact ao (aj h0) (ak hb2 (ao (show aR true (jm ax (i:Int)) false=true by rw[hb3];rfl) rfl))
  .have h1:ff d.2.2.1 (i:Int)=1:=by omega
   rw[decide_eq_true h1]at h3;have hb3:jm ax (i:Int)=false:=by cases q:jm ax (i:Int)<;>rw[q]at h3<;>first|rfl|cases h3
   exact af (au h0) (ak hb (ao (aj h1) (ak hb2 (ao (show aR false true (aR true (Bool.not (jm ax (i:Int))) false)=true by rw[hb3];rfl) rfl))))
 .unfold nx
  try dsimp only
  unfold vY;exact af (au (show ¬(d.2.2.1.length:Int)<(d.2.2.1.length:Int) by omega)) rfl
theorem agR(d:bf.T)(ax:List Bool)(C:List (List aB.T))(hT:d.2.2.2.2.2.2.1.length<=100000)(hl:C.length=d.2.2.2.2.2.2.1.length) :
  ZB ((0:Int),nx d (ax,(C,())))=some (match(List.range d.2.2.2.2.2.2.1.length).all (pM d.2.2.2.2.2.2.1 C)with|true=>.inr ()|false=>.inl ((14:Int),())):=by
 unfold ZB;delta jE;refine kH (fun i:Nat=>((i:Int),nx d (ax,(C,())))) (pM d.2.2.2.2.2.2.1 C) d.2.2.2.2.2.2.1.length ?_ ?_ ?_ rfl (bt (by omega))
 .intro i hi hp;unfold pM at hp;have hb2:aA (i:Int) (List.length C)=true:=aN ⟨by omega,by rw[hl];omega⟩;unfold nx
  try dsimp only
  unfold vV;have e:∀p q:Int,p=q->(some (.inl (p,nx d (ax,(C,())))):Option (TL Co.σs⊕Out Cj))=some (.inl (q,nx d (ax,(C,())))):=by rintro _ _ rfl;rfl
  have go:=e _ _ (bJ (x:=(i:Int)+1) (by omega));refine ao (aj (show(i:Int)<(d.2.2.2.2.2.2.1.length:Int) by omega)) (ak (aN ⟨by omega,by omega⟩) ?_);cases h2:nY d.2.2.2.2.2.2.1 (i:Int)with|true=>exact af (show Bool.not (nY d.2.2.2.2.2.2.1 (i:Int))=false by rw[h2];rfl) go|false=>rw[h2,Bool.false_or]at hp;have hp:=of_decide_eq_true hp;exact ao (show Bool.not (nY d.2.2.2.2.2.2.1 (i:Int))=true by rw[h2];rfl) (ak hb2 (af (au (show ¬(0:Int)<((k7 C (i:Int):Nat):Int) by omega)) go))
 .intro i hi hp;unfold pM at hp;rw[Bool.or_eq_false_iff]at hp;obtain⟨h2,h3⟩:=hp;have h3:=of_decide_eq_false h3;have hb2:aA (i:Int) (List.length C)=true:=aN ⟨by omega,by rw[hl];omega⟩;unfold nx
  try dsimp only
  unfold vV;exact ao (aj (show(i:Int)<(d.2.2.2.2.2.2.1.length:Int) by omega)) (ak (aN ⟨by omega,by omega⟩) (ao (show Bool.not (nY d.2.2.2.2.2.2.1 (i:Int))=true by rw[h2];rfl) (ak hb2 (ao (aj (show(0:Int)<((k7 C (i:Int):Nat):Int) by omega)) rfl))))
 .unfold nx
  try dsimp only
  unfold vV;exact af (au (show ¬(d.2.2.2.2.2.2.1.length:Int)<(d.2.2.2.2.2.2.1.length:Int) by omega)) rfl
theorem Zys{d:bf.T}{s:cF.T}(h:gU d s=0):Pl.cK (dO d)=0/\s.1.length=d.2.2.1.length/\s.2.1.length=d.2.2.2.2.2.2.1.length:=by
 unfold gU at h;by_cases hc:Pl.cK (dO d)=0
 .rw[if_neg (by simpa using hc)]at h;cases q:dV d s with
  |false=>rw[q]at h;cases h
  |true=>unfold dV at q;simp only[Bool.and_eq_true,decide_eq_true_eq]at q;exact⟨hc,q.1.1,q.1.2⟩
 .rw[if_pos hc]at h;exact absurd h hc
def jB(d:bf.T)(ax:List Bool)(C:List (List aB.T)):Int:=match decide (gU d (ax,(C,()))=0)with|false=>gU d (ax,(C,()))|true=>match(List.range d.2.2.1.length).all (mE d.2.2.1 ax)with|false=>14|true=>match(List.range d.2.2.2.2.2.2.1.length).all (pM d.2.2.2.2.2.2.1 C)with|false=>14|true=>0
theorem ags(d:bf.T)(ax:List Bool)(C:List (List aB.T))(ft:Fit (dO d))(hL:d.2.2.1.length<=100000)(hT:d.2.2.2.2.2.2.1.length<=100000) :
  Nl (d,((ax,(C,())),()))=some (jB d ax C,()):=by
 have e1:=Zy6 d (ax,(C,())) ft hT;unfold jB;by_cases h:gU d (ax,(C,()))=0
 .obtain⟨_,h2,h3⟩:=Zys h;have e5:=ahg d d.2.2.1 ax C hL h2;have e11:=agO d.2.2.2.2.2.2.1 ax C hT h3;rw[decide_eq_true h];refine ag e1 (af (by rw[h];rfl) ((bP e5).trans ?_));cases(List.range d.2.2.1.length).all (mE d.2.2.1 ax)with|false=>rfl|true=>refine(bP e11).trans ?_;cases(List.range d.2.2.2.2.2.2.1.length).all (pM d.2.2.2.2.2.2.1 C)<;>rfl
 .rw[decide_eq_false h];exact ag e1 (ao (by simp[h]) rfl)
theorem adQ{T:List ae.T}{p:Pl.dx->Prop}(h:∀l∈T.map j2,p l)(i:Nat)(hi:i<T.length):∃l,p l/\l.init=ff T (i:Int):=by have hg:=List.getElem?_eq_getElem hi;refine⟨j2 T[i],h _ (List.mem_map_of_mem (List.getElem_mem hi)),?_⟩;unfold ff;rw[bn (σ:=ae) hg];rfl
theorem adR{d:bf.T}(h:Pl.cK (dO d)=0):∀i:Nat,i<d.2.2.1.length->0<=ff d.2.2.1 (i:Int)/\ff d.2.2.1 (i:Int)<=2:=by
 have hs0:Pl.dt (dO d)=0:=by
  unfold Pl.cK at h;by_cases q:Pl.dt (dO d)=0
  .exact q
  .rw[if_pos q]at h;exact absurd h q
 obtain⟨V,hs⟩:=Pl.oM hs0;intro i hi;obtain⟨l,h1,h2⟩:=adQ (T:=d.2.2.1) (p:=fun l=>0<=l.init/\l.init<=2) (fun l hl=>hs.init l hl) i hi;rw[<-h2];exact h1
theorem Tf(d:bf.T)(ax:List Bool)(C:List (List aB.T))(ft:Fit (dO d))(hL:d.2.2.1.length<=100000)(hT:d.2.2.2.2.2.2.1.length<=100000)(hok:lJ C) :
  ZK (d,((ax,(C,())),()))=some (jB d ax C,()):=by
 have e1:=Zya d (ax,(C,())) ft hT hok;unfold jB;by_cases h:gU d (ax,(C,()))=0
 .obtain⟨h1,h2,h3⟩:=Zys h;have e5:=ahj d ax C hL h2 (adR h1);have e10:=agR d ax C hT h3;rw[decide_eq_true h];refine ag e1 (af (by rw[h];rfl) ((bP e5).trans ?_));cases(List.range d.2.2.1.length).all (mE d.2.2.1 ax)with|false=>rfl|true=>refine(bP e10).trans ?_;cases(List.range d.2.2.2.2.2.2.1.length).all (pM d.2.2.2.2.2.2.1 C)<;>rfl
 .rw[decide_eq_false h];exact ag e1 (ao (by simp[h]) rfl)
theorem wf_i64{n:Int}(h:(Lit.int .i64 n).wf=true):cO n:=by
 simp only[Lit.wf,Bool.and_eq_true,decide_eq_true_eq]at h;have h1:IntKind.i64.min = -9223372036854775808:=by decide
 have h2:IntKind.i64.max=9223372036854775807:=by decide
 rw[h1,h2]at h;exact h
theorem wf_u64{n:Int}(h:(Lit.int .u64 n).wf=true):0<=n/\n<=18446744073709551615:=by
 simp only[Lit.wf,Bool.and_eq_true,decide_eq_true_eq]at h;have h1:IntKind.u64.min=0:=by decide
 have h2:IntKind.u64.max=18446744073709551615:=by decide
 rw[h1,h2]at h;exact h
theorem qN{L:List Int}(h:jU (.sl (.int .i64)) L):∀x∈L,cO x:=fun x hx=>wf_i64 (h.2 x hx)
theorem ae5{c:List aB.T}(h:jU (.sl aB) c):ou c:=by intro i hi;have hg:=List.getElem?_eq_getElem hi;have hc:=h.2 _ (List.getElem_mem hi);unfold dD gD;rw[bn (σ:=aB) hg];exact⟨wf_u64 hc.1,wf_u64 hc.2.1⟩
theorem ae6{C:List (List aB.T)}(h:jU (.sl (.sl aB)) C):lJ C:=fun c hc=>ae5 (h.2 c hc)
theorem uD{α β:Type}(f:α->β)(L:List α){n k:Nat}(h:L.length<=n)(hk:n<=k):(L.map f).length<=k:=by rw[List.length_map];omega
theorem adF{m:ab.T}(h:jU ab m)(hr:List.length m.2.2.2.1<=6)(hw:List.length m.2.2.2.2.1<=6)(hword:@LE.le Int _ m.2.1 100)
  (h10:kf (α:=bL.T) (fun r=>List.length r.2.1<=100/\@LE.le Int _ r.1 1099511627776/\@LE.le Int _ (-1099511627776) r.1) m.2.2.2.1) (h15:kf (α:=bD.T) (fun r=>List.length r.2.1<=100/\List.length r.2.2.1<=100) m.2.2.2.2.1):y8 (mU m):=by
 obtain⟨a1,a2,a3,a4,a5,_⟩:=h;refine⟨⟨wf_i64 a2,Int.le_trans hword (by decide)⟩,wf_i64 a1,?_,?_,?_,?_⟩
 .exact uD pU _ hr (by decide)
 .exact uD qM _ hw (by decide)
 .intro r hr;obtain⟨r',hr',rfl⟩:=List.mem_map.1 hr;obtain⟨b1,b2,b3⟩:=h10 r' hr';have hk:=a4.2 r' hr';exact⟨Nat.le_trans b1 (by decide),b3,b2,qN hk.2.1⟩
 .intro r hr;obtain⟨r',hr',rfl⟩:=List.mem_map.1 hr;obtain⟨b1,b2⟩:=h15 r' hr';have hk:=a5.2 r' hr';exact⟨Nat.le_trans b1 (by decide),Nat.le_trans b2 (by decide),wf_i64 hk.1,qN hk.2.1,qN hk.2.2.1⟩
theorem Hg{α:Type}{σ:Sh}{L:List σ.T}{p:Nat->Bool}{Q:σ.T->Prop}(h:(List.range L.length).all p=true)(hq:∀i x,L[i]?=some x->p i=true->Q x):kf Q L:=by
 have h':∀i,i<L.length->p i=true:=by simpa[List.all_eq_true]using h
 intro x hx;obtain⟨i,hi⟩:=List.getElem?_of_mem hx;exact hq i x hi (h' i (Tp hi))
theorem aeO{d:bf.T}(h:jU bf d)(hl:tg d):Fit (dO d):=by
 obtain⟨a1,a2,a3,a4,a5,a6,a7,a8,_⟩:=h;obtain⟨b1,b2,b3,b4,b5,b6,b7,b8⟩:=hl;have lat3:kf (α:=ae.T) (fun x=>cO x.1/\cO x.2.1/\cO x.2.2.1) d.2.2.1:=fun x hx=>by have:=a3.2 x hx;exact⟨wf_i64 this.1,wf_i64 this.2.1,wf_i64 this.2.2.1⟩
 have and3:kf (α:=ae.T) (fun x=>cO x.1/\cO x.2.1/\cO x.2.2.1) d.2.2.2.2.2.2.2.1:=fun x hx=>by have:=a8.2 x hx;exact⟨wf_i64 this.1,wf_i64 this.2.1,wf_i64 this.2.2.1⟩
 refine⟨wf_i64 a1,⟨Nat.le_trans b1 (by decide),qN a2⟩,⟨?_,?_⟩,⟨Nat.le_trans b4 (by decide),qN a4⟩,⟨Nat.le_trans b5 (by decide),qN a5⟩,⟨Nat.le_trans b6 (by decide),qN a6⟩,⟨?_,?_⟩,⟨?_,?_⟩⟩
 .exact uD j2 _ b2 (by decide)
 .intro l hl;obtain⟨x,hx,rfl⟩:=List.mem_map.1 hl;exact lat3 x hx
 .exact uD mU _ b7 (by decide)
 .intro m hm;obtain⟨x,hx,rfl⟩:=List.mem_map.1 hm;have hQ:=Hg (α:=Unit) (σ:=ab) (Q:=fun x=>List.length x.2.2.2.1<=6/\List.length x.2.2.2.2.1<=6/\@LE.le Int _ x.2.1 100/\(List.range (List.length x.2.2.2.1)).all (py x.2.2.2.1)=true/\(List.range (List.length x.2.2.2.2.1)).all (pz x.2.2.2.2.1)=true) b8 (fun i x hi hp=>by unfold p4 kI kJ nJ at hp;rw[bn (σ:=ab) hi]at hp;simp only[Bool.and_eq_true,decide_eq_true_eq]at hp;exact⟨hp.1.1.1.1,hp.1.1.1.2,hp.1.1.2,hp.1.2,hp.2⟩) x hx;obtain⟨c1,c2,c3,c4,c5⟩:=hQ;refine adF (a7.2 x hx) c1 c2 c3 ?_ ?_
  .exact Hg (α:=Unit) (σ:=bL) c4 (fun i r hi hp=>by unfold py uj nM at hp;rw[bn (σ:=bL) hi]at hp;simp only[Bool.and_eq_true,decide_eq_true_eq]at hp;exact⟨hp.1.1,hp.1.2,hp.2⟩)
  .exact Hg (α:=Unit) (σ:=bD) c5 (fun i r hi hp=>by unfold pz uw uv at hp;rw[bn (σ:=bD) hi]at hp;simp only[Bool.and_eq_true,decide_eq_true_eq]at hp;exact hp)
 .exact uD mQ _ b3 (by decide)
 .intro l hl;obtain⟨x,hx,rfl⟩:=List.mem_map.1 hl;exact and3 x hx
