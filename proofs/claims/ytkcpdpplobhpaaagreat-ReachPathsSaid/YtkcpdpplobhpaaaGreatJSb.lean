import Derived.Test.YtkcpdpplobhpaaaGreatJSa
import Derived.Test.YtkcpdpplobhpaaaGreatJNe
set_option linter.unusedVariables false
set_option linter.unusedSimpArgs false
set_option linter.unnecessarySimpa false
section
namespace Go.Proofs.YtkcpdpplobhpaaaGreat.V
open Go Go.RowKit
theorem mj{D O:Type}{B:D->Option (D⊕O)}(f:Nat->D)(p:Nat->Bool){bad good:O}(n:Nat)(hs:∀i,i<n->p i=true->B (f i)=some (.inl (f (i+1))))(hf:∀i,i<n->p i=false->B (f i)=some (.inr bad))
  (he:B (f n)=some (.inr good)) {d:D}(hd:d=f 0) {N:Nat}(hN:n<N):aR B N d=some (match(List.range n).all p with|true=>good|false=>bad):=by
 subst hd;have hall:((List.range n).all p=true↔∀i,i<n->p i=true):=by simp[List.all_eq_true]
 have main:∀k i,i+k=n->(∀j,j<i->p j=true)->∀N,k<N->aR B N (f i)=some (match(List.range n).all p with|true=>good|false=>bad):=by
  intro k
  induction k with
  |zero=>
   intro i hi hp N hN;have:i=n:=by omega
   subst this;obtain⟨N,rfl⟩:∃M,N=M+1:=⟨N-1,by omega⟩;rw[hall.2 hp];simp only[aR,he]
  |succ k ih=>
   intro i hi hp N hN;obtain⟨N,rfl⟩:∃M,N=M+1:=⟨N-1,by omega⟩;cases hq:p i with
   |true=>
    simp only[aR,hs i (by omega) hq];exact ih (i+1) (by omega) (fun j hj=>by
     by_cases e:j=i
     .subst e;exact hq
     .exact hp j (by omega)) N (by omega)
   |false=>
    have hz:(List.range n).all p=false:=by cases hz:(List.range n).all p with|false=>rfl|true=>have:=hall.1 hz i (by omega);rw[hq]at this;cases this
    simp only[aR,hf i (by omega) hq,hz]
 exact main n 0 (by omega) (fun j hj=>by omega) N hN
def ir(v w:Int):Bool:=decide (v / 2^w.toNat=0)
theorem tC{v w:Int}(hw:0<=w/\w<=64):Di (v,(w,()))=some (ir v w,()):=by
 have hb:Dn (w,())=some (w,()):=by
  show wG w=_;unfold wG;have h1:cQ (decide ((64:Int)<w)) (64:Int) w=w:=by unfold cQ;rw[decide_eq_false (by omega)]
  have h2:cQ (decide (w<(0:Int))) (0:Int) w=w:=by unfold cQ;rw[decide_eq_false (by omega)]
  show some (cQ (decide (cQ (decide ((64:Int)<w)) (64:Int) w<0)) 0 (cQ (decide ((64:Int)<w)) (64:Int) w),())=_;rw[h1,h2]
 show NM Dn v w=_;unfold NM;refine(bT hb).trans (ak (aj hw.1) ?_);unfold ir;have hm:min w.toNat 64=w.toNat:=by omega
 show some (decide (Int.fdiv v (2^(min w.toNat 64))=0),())=_;rw[hm,Int.fdiv_eq_ediv_of_nonneg _ (Int.pow_nonneg (by decide))]
theorem jE{x:Int}(h:0<=x/\x<=18446744073709551615):IntKind.wrap (.u64:IntKind) x=x:=by unfold IntKind.wrap;simp[IntKind.bits,IntKind.signed];omega
theorem tA{v w:Int}(hv:0<=v/\v<=18446744073709551615)(hw:0<=w/\w<=64):qE (v,(w,()))=some (ir v w,()):=by
 obtain⟨W,rfl⟩:=Int.eq_ofNat_of_zero_le hw.1;have hL:ZV (v,((W:Int),((0:Int),())))=some (v / 2^W,()):=by
  unfold ZV;delta u3;refine cP (fun k:Nat=>(v / 2^k,((W:Int),((k:Int),())))) W (by rw[Int.pow_zero,Int.ediv_one];rfl) ?_ ?_ (bA (by omega))
  .intro k hk;have h0:0<=v / 2^k:=Int.ediv_nonneg hv.1 (Int.pow_nonneg (by decide));have h1:v / 2^k<=v:=Int.ediv_le_self _ hv.1
   try dsimp only
   unfold Db;have hsel:aQ true (@decide _ (Int.decLt (k:Int) (64:Int))) false=decide ((k:Int)<64):=by unfold aQ;cases decide ((k:Int)<64)<;>rfl
   rw[ib (aj (by omega)),hsel,ib (aj (by omega))];rw[Int.tdiv_eq_ediv_of_nonneg h0,jE ⟨Int.ediv_nonneg h0 (by decide),by omega⟩,bK (x:=(k:Int)+1) (by omega),Int.ediv_ediv_of_nonneg (Int.pow_nonneg (by decide)),<-Int.pow_succ];rfl
  .try dsimp only
   unfold Db;rw[fe (av (by omega))];rfl
 exact ag hL rfl
def dH(L:List aC.T)(i:Int):Int:=(gt aC L i).1
def gY(L:List aC.T)(i:Int):Int:=(gt aC L i).2.1
def iR(a w:Int)(L:List aC.T)(i:Nat):Bool:=!decide (gY L (i:Int)=0)&&ir (dH L (i:Int)) a&&ir (gY L (i:Int)) w&&(decide (i=0)||decide (dH L ((i:Int)-1)<dH L (i:Int)))
def ik(a w:Int)(L:List aC.T):Bool:=decide (1<=a)&&decide (a<=62)&&decide (1<=w)&&decide (w<=64)&&decide (L.length<=4096)&&(List.range L.length).all (iR a w L)
theorem Zzj{a w:Int}(ha:1<=a/\a<=62)(hw:1<=w/\w<=64)(L:List aC.T)(hl:L.length<=4096) :
  Ni (a,(w,(L,(L,((L.length:Int),((0:Int),()))))))=some (match(List.range L.length).all (iR a w L)with|true=>.inr ()|false=>.inl (false,())):=by
 unfold Ni;delta u6;refine mj (fun i:Nat=>(a,(w,(L,(L,((L.length:Int),((i:Int),()))))))) (iR a w L) L.length ?_ ?_ ?_ rfl (bA (by omega))
 .intro i hi hp;unfold iR at hp;simp only[Bool.and_eq_true,Bool.not_eq_true',decide_eq_false_iff_not]at hp;obtain⟨⟨⟨h1,h2⟩,h3⟩,h4⟩:=hp;have e1:=tC (v:=dH L (i:Int)) (w:=a) ⟨by omega,by omega⟩;have e2:=tC (v:=gY L (i:Int)) (w:=w) ⟨by omega,by omega⟩
  try dsimp only
  unfold wE;refine ao (aj (show(i:Int)<(L.length:Int) by omega)) (ak (aN ⟨by omega,by omega⟩) (af (av h1) ((bT e1).trans (af (by rw[h2];rfl) ((bT e2).trans (af (by rw[h3];rfl) ?_))))));have e:∀p q:Int,p=q->(some (.inl (a,(w,(L,(L,((L.length:Int),(p,()))))))):Option (TL C9.σs⊕Out CZ))=some (.inl (a,(w,(L,(L,((L.length:Int),(q,()))))))):=by rintro _ _ rfl;rfl
  by_cases h0:i=0
  .exact af (av (show ¬(0:Int)<(i:Int) by omega)) (e _ _ (bK (x:=(i:Int)+1) (by omega)))
  .have hm:IntKind.wrap (.i64:IntKind) ((i:Int)-1)=(i:Int)-1:=bK (by omega);rw[hm];simp only[Bool.or_eq_true,decide_eq_true_eq]at h4;refine ao (aj (show(0:Int)<(i:Int) by omega)) (ak (aN ⟨by omega,by omega⟩) (af (av (show ¬dH L (i:Int)<=dH L ((i:Int)-1) by omega)) (e _ _ (bK (x:=(i:Int)+1) (by omega)))))
 .intro i hi hp
  try dsimp only
  unfold wE;refine ao (aj (show(i:Int)<(L.length:Int) by omega)) (ak (aN ⟨by omega,by omega⟩) ?_);by_cases h1:gY L (i:Int)=0
  .exact ao (aj h1) rfl
  refine af (av h1) ?_;have e1:=tC (v:=dH L (i:Int)) (w:=a) ⟨by omega,by omega⟩;have e2:=tC (v:=gY L (i:Int)) (w:=w) ⟨by omega,by omega⟩;refine(bT e1).trans ?_;cases h2:ir (dH L (i:Int)) a with|false=>exact ao rfl rfl|true=>refine af rfl ((bT e2).trans ?_);cases h3:ir (gY L (i:Int)) w with|false=>exact ao rfl rfl|true=>refine af rfl ?_;unfold iR at hp;rw[decide_eq_false h1,h2,h3]at hp;simp only[Bool.not_false,Bool.and_self,Bool.true_and,Bool.or_eq_false_iff,decide_eq_false_iff_not]at hp;have hm:IntKind.wrap (.i64:IntKind) ((i:Int)-1)=(i:Int)-1:=bK (by omega);rw[hm];exact ao (aj (show(0:Int)<(i:Int) by omega)) (ak (aN ⟨by omega,by omega⟩) (ao (aj (show dH L (i:Int)<=dH L ((i:Int)-1) by omega)) rfl))
 .try dsimp only
  unfold wE;exact af (av (show ¬(L.length:Int)<(L.length:Int) by omega)) rfl
theorem agH(a w:Int)(L:List aC.T):Z9 (a,(w,(L,())))=some (ik a w L,()):=by
 show NF Di Ni a w L=_;unfold NF ik;by_cases h1:a<1
 .rw[decide_eq_false (show ¬1<=a by omega)];exact ao (aj h1) rfl
 rw[decide_eq_true (show 1<=a by omega)];refine af (av h1) ?_;by_cases h2:62<a
 .rw[decide_eq_false (show ¬a<=62 by omega)];exact ao (aj h2) rfl
 rw[decide_eq_true (show a<=62 by omega)];refine af (av h2) ?_;by_cases h3:w<1
 .rw[decide_eq_false (show ¬1<=w by omega)];exact ao (aj h3) rfl
 rw[decide_eq_true (show 1<=w by omega)];refine af (av h3) ?_;by_cases h4:64<w
 .rw[decide_eq_false (show ¬w<=64 by omega)];exact ao (aj h4) rfl
 rw[decide_eq_true (show w<=64 by omega)];refine af (av h4) ?_;by_cases h5:(4096:Int)<(L.length:Int)
 .rw[decide_eq_false (show ¬L.length<=4096 by omega)];exact ao (aj h5) rfl
 rw[decide_eq_true (show L.length<=4096 by omega)];refine af (av h5) ((bT (Zzj ⟨by omega,by omega⟩ ⟨by omega,by omega⟩ L (by omega))).trans ?_);cases(List.range L.length).all (iR a w L)<;>rfl
def pE(L:List aC.T):Prop:=∀i:Nat,i<L.length->(0<=dH L (i:Int)/\dH L (i:Int)<=18446744073709551615)/\(0<=gY L (i:Int)/\gY L (i:Int)<=18446744073709551615)
theorem Zzg{a w:Int}(ha:1<=a/\a<=62)(hw:1<=w/\w<=64)(L:List aC.T)(hl:L.length<=4096)(hok:pE L) :
  Mu (a,(w,(L,((0:Int),()))))=some (match(List.range L.length).all (iR a w L)with|true=>.inr ()|false=>.inl (false,())):=by
 unfold Mu;delta u4;refine mj (fun i:Nat=>(a,(w,(L,((i:Int),()))))) (iR a w L) L.length ?_ ?_ ?_ rfl (bA (by omega))
 .intro i hi hp;unfold iR at hp;simp only[Bool.and_eq_true,Bool.not_eq_true',decide_eq_false_iff_not]at hp;obtain⟨⟨⟨h1,h2⟩,h3⟩,h4⟩:=hp;have e1:=tA (v:=dH L (i:Int)) (w:=a) (hok i hi).1 ⟨by omega,by omega⟩;have e2:=tA (v:=gY L (i:Int)) (w:=w) (hok i hi).2 ⟨by omega,by omega⟩;have aT:aw (i:Int) (List.length L)=true:=aN ⟨by omega,by omega⟩
  try dsimp only
  unfold wi;refine ao (aj (show(i:Int)<(L.length:Int) by omega)) ?_;have e:∀p q:Int,p=q->(some (.inl (a,(w,(L,(p,()))))):Option (TL CL.σs⊕Out CE))=some (.inl (a,(w,(L,(q,()))))):=by rintro _ _ rfl;rfl
  by_cases h0:i=0
  .exact af (av (show ¬(0:Int)<(i:Int) by omega)) (ak aT ((bT e1).trans (af (by rw[h2];rfl) (ak aT ((bT e2).trans (af (by rw[h3];rfl) (ak aT (af (av h1) (e _ _ (bK (x:=(i:Int)+1) (by omega)))))))))))
  .have hm:IntKind.wrap (.i64:IntKind) ((i:Int)-1)=(i:Int)-1:=bK (by omega);rw[hm];simp only[Bool.or_eq_true,decide_eq_true_eq]at h4;refine ao (aj (show(0:Int)<(i:Int) by omega)) (ak aT (ak (aN ⟨by omega,by omega⟩) (af (av (show ¬dH L (i:Int)<=dH L ((i:Int)-1) by omega)) ?_)));exact ak aT ((bT e1).trans (af (by rw[h2];rfl) (ak aT ((bT e2).trans (af (by rw[h3];rfl) (ak aT (af (av h1) (e _ _ (bK (x:=(i:Int)+1) (by omega))))))))))
 .intro i hi hp;have aT:aw (i:Int) (List.length L)=true:=aN ⟨by omega,by omega⟩;have e1:=tA (v:=dH L (i:Int)) (w:=a) (hok i hi).1 ⟨by omega,by omega⟩;have e2:=tA (v:=gY L (i:Int)) (w:=w) (hok i hi).2 ⟨by omega,by omega⟩
  try dsimp only
  unfold wi;refine ao (aj (show(i:Int)<(L.length:Int) by omega)) ?_;unfold iR at hp;by_cases h0:i=0
  .refine af (av (show ¬(0:Int)<(i:Int) by omega)) (ak aT ((bT e1).trans ?_));cases h2:ir (dH L (i:Int)) a with
   |false=>exact ao rfl rfl|true=>
    refine af rfl (ak aT ((bT e2).trans ?_));cases h3:ir (gY L (i:Int)) w with
    |false=>exact ao rfl rfl|true=>
     by_cases h1:gY L (i:Int)=0
     .exact af rfl (ak aT (ao (aj h1) rfl))
     .rw[decide_eq_false h1,h2,h3,decide_eq_true h0]at hp;cases hp
  .have hm:IntKind.wrap (.i64:IntKind) ((i:Int)-1)=(i:Int)-1:=bK (by omega);rw[hm];refine ao (aj (show(0:Int)<(i:Int) by omega)) (ak aT (ak (aN ⟨by omega,by omega⟩) ?_));by_cases h4:dH L (i:Int)<=dH L ((i:Int)-1)
   .exact ao (aj h4) rfl
   refine af (av h4) (ak aT ((bT e1).trans ?_));cases h2:ir (dH L (i:Int)) a with
   |false=>exact ao rfl rfl|true=>
    refine af rfl (ak aT ((bT e2).trans ?_));cases h3:ir (gY L (i:Int)) w with
    |false=>exact ao rfl rfl|true=>
     by_cases h1:gY L (i:Int)=0
     .exact af rfl (ak aT (ao (aj h1) rfl))
     .rw[decide_eq_false h1,h2,h3,decide_eq_false h0,decide_eq_true (show dH L ((i:Int)-1)<dH L (i:Int) by omega)]at hp;cases hp
 .try dsimp only
  unfold wi;exact af (av (show ¬(L.length:Int)<(L.length:Int) by omega)) rfl
theorem Zwj(a w:Int)(L:List aC.T)(hok:pE L):ZN (a,(w,(L,())))=some (ik a w L,()):=by
 show MQ qE Mu a w L=_;unfold MQ ik;by_cases h1:a<1
 .rw[decide_eq_false (show ¬1<=a by omega)];exact ao (aj h1) rfl
 rw[decide_eq_true (show 1<=a by omega)];refine af (av h1) ?_;by_cases h2:62<a
 .rw[decide_eq_false (show ¬a<=62 by omega)];exact ao (aj h2) rfl
 rw[decide_eq_true (show a<=62 by omega)];refine af (av h2) ?_;by_cases h3:w<1
 .rw[decide_eq_false (show ¬1<=w by omega)];exact ao (aj h3) rfl
 rw[decide_eq_true (show 1<=w by omega)];refine af (av h3) ?_;by_cases h4:64<w
 .rw[decide_eq_false (show ¬w<=64 by omega)];exact ao (aj h4) rfl
 rw[decide_eq_true (show w<=64 by omega)];refine af (av h4) ?_;by_cases h5:(4096:Int)<(L.length:Int)
 .rw[decide_eq_false (show ¬L.length<=4096 by omega)];exact ao (aj h5) rfl
 rw[decide_eq_true (show L.length<=4096 by omega)];refine af (av h5) ((bT (Zzg ⟨by omega,by omega⟩ ⟨by omega,by omega⟩ L (by omega) hok)).trans ?_);cases(List.range L.length).all (iR a w L)<;>rfl
theorem TC{α:Type}{l:List α}{i:Nat}{x:α}(h:l[i]?=some x):i<l.length:=by
 rcases Nat.lt_or_ge i l.length with q|q
 .exact q
 .rw[List.getElem?_eq_none q]at h;cases h
theorem agW{α:Type}{l:List α}{i:Nat}{x:α}(h:l[i]?=some x):l.take (i+1)=l.take i++[x]:=by rw[List.take_add_one,h];rfl
theorem S5{σ:Sh}{k:Int}{v:σ.T}:∀{M:cW σ},(∀p∈M,p.1<k)->dg k v M=M++[(k,v,())]
 |[],_=>rfl|p::M,h=>by have hp:=h p (by simp);rw[dg,decide_eq_false (show ¬k<p.1 by omega),decide_eq_false (show ¬p.1=k by omega)];simp only[];rw[S5 (fun q hq=>h q (by simp[hq]))];rfl
theorem Tl{a w:Int}{L:List aC.T}(h:(List.range L.length).all (iR a w L)=true):∀i,i<L.length->∀j,j<i->dH L (j:Int)<dH L (i:Int):=by
 have h':∀i,i<L.length->iR a w L i=true:=by simpa[List.all_eq_true]using h
 intro i
 induction i with
 |zero=>intro _ j hj;omega|succ i ih=>
  intro hi j hj;have hc:=h' (i+1) hi;unfold iR at hc;simp only[Bool.and_eq_true,Bool.or_eq_true,decide_eq_true_eq]at hc;have h4:=hc.2;have e:(((i+1:Nat):Int)-1)=(i:Int):=by omega
  rw[e]at h4;have h5:dH L (i:Int)<dH L ((i+1:Nat):Int):=by omega
  by_cases q:j=i
  .subst q;exact h5
  .have:=ih (by omega) j (by omega);omega
theorem Oq(a w:Int)(L:List aC.T):wy (a,(w,(L,())))=some (match ik a w L with|true=>.inr ((0:Int),(a,(w,(L,()))))|false=>.inl ((14:Int),())):=by
 have e1:=agH a w L;show NP Z9 Nk a w L=_;unfold NP;refine(bT e1).trans ?_;cases hr:ik a w L with
 |false=>exact ao rfl rfl|true=>
  refine af rfl ?_;unfold ik at hr;simp only[Bool.and_eq_true,decide_eq_true_eq]at hr;obtain⟨⟨_,hl⟩,hall⟩:=hr;have hs:=Tl hall;have eL:Nk (L,((L.length:Int),((0:Int),(a,(w,([],()))))))=some (a,(w,(L,()))):=by
   unfold Nk;delta u6;refine cP (fun i:Nat=>(L,((L.length:Int),((i:Int),(a,(w,(L.take i,()))))))) L.length rfl ?_ ?_ (bA (by omega))
   .intro i hi;have hc:=List.getElem?_eq_getElem hi
    try dsimp only
    unfold Dz;refine ao (aj (show(i:Int)<(L.length:Int) by omega)) (ak (aN ⟨by omega,by omega⟩) ?_);have e:∀(p q:Int) (M M':cW (.int .u64)),p=q->M=M'->(some (.inl (L,((L.length:Int),(p,(a,(w,(M,()))))))):Option (TL Dh.σs⊕Out Da))=some (.inl (L,((L.length:Int),(q,(a,(w,(M',()))))))):=by rintro _ _ _ _ rfl rfl;rfl
    refine e _ _ _ _ (bK (x:=(i:Int)+1) (by omega)) ?_;rw[bn (σ:=aC) hc];have hlast:=S5 (σ:=.int .u64) (k:=L[i].1) (v:=L[i].2.1) (M:=L.take i) (fun p hp=>by
     obtain⟨j,hj⟩:=List.getElem?_of_mem hp;have hjl:j<i:=Nat.lt_of_lt_of_le (TC hj) (List.length_take_le i L);have hj:(L:List aC.T)[j]?=some p:=by rw[<-hj];exact(List.getElem?_take_of_lt hjl).symm
     have:=hs i hi j hjl;unfold dH at this;rw[bn (σ:=aC) hj,bn (σ:=aC) hc]at this;exact this)
    refine hlast.trans ?_;exact(agW hc).symm
   .try dsimp only
    unfold Dz;refine af (av (show ¬(L.length:Int)<(L.length:Int) by omega)) ?_;rw[List.take_length];rfl
  exact ag eL rfl
def jv(T:List ab.T)(cs:List (List aC.T))(i:Nat):Bool:=ik (gt ab T (i:Int)).1 (gt ab T (i:Int)).2.1 (gt (.sl aC) cs (i:Int))
def SE(T:List ab.T)(cs:List (List aC.T))(i:Nat):cZ:=mM (gt ab T (i:Int)).1 (gt ab T (i:Int)).2.1 (gt (.sl aC) cs (i:Int))
def j4(T:List ab.T)(cs:List (List aC.T))(k:Nat):List cZ:=(List.range k).map (SE T cs)
theorem ahz(T:List ab.T)(aB:List Bool)(cs:List (List aC.T))(hT:T.length<=100000)(hc:cs.length=T.length) :
  Nj (T,((T.length:Int),((0:Int),(aB,(cs,([],()))))))=some (match(List.range T.length).all (jv T cs)with|true=>.inr (j4 T cs T.length,())|false=>.inl ((14:Int),())):=by
 unfold Nj;delta u6;refine mj (fun i:Nat=>(T,((T.length:Int),((i:Int),(aB,(cs,(j4 T cs i,()))))))) (jv T cs) T.length ?_ ?_ ?_ rfl (bA (by omega))
 .intro i hi hp;have e1:=Oq (gt ab T (i:Int)).1 (gt ab T (i:Int)).2.1 (gt (.sl aC) cs (i:Int));have hp':ik (gt ab T (i:Int)).1 (gt ab T (i:Int)).2.1 (gt (.sl aC) cs (i:Int))=true:=hp;rw[hp']at e1;have hlen:(j4 T cs i).length=i:=by unfold j4;simp
  try dsimp only
  unfold wH;refine ao (aj (show(i:Int)<(T.length:Int) by omega)) (ak (aN ⟨by omega,by omega⟩) (ak (aN ⟨by omega,by omega⟩) ((bT e1).trans (af rfl (ak (mu (L:=j4 T cs i) (by rw[hlen];omega) (by decide)) ?_)))));have e:∀(p q:Int) (M M':List cZ),p=q->M=M'->(some (.inl (T,((T.length:Int),(p,(aB,(cs,(M,()))))))):Option (TL Df.σs⊕Out C6))=some (.inl (T,((T.length:Int),(q,(aB,(cs,(M',()))))))):=by rintro _ _ _ _ rfl rfl;rfl
  refine e _ _ _ _ (bK (x:=(i:Int)+1) (by omega)) ?_;show j4 T cs i++[SE T cs i]=j4 T cs (i+1);unfold j4;rw[List.range_succ,List.map_append];rfl
 .intro i hi hp;have e1:=Oq (gt ab T (i:Int)).1 (gt ab T (i:Int)).2.1 (gt (.sl aC) cs (i:Int));have hp':ik (gt ab T (i:Int)).1 (gt ab T (i:Int)).2.1 (gt (.sl aC) cs (i:Int))=false:=hp;rw[hp']at e1
  try dsimp only
  unfold wH;exact ao (aj (show(i:Int)<(T.length:Int) by omega)) (ak (aN ⟨by omega,by omega⟩) (ak (aN ⟨by omega,by omega⟩) ((bT e1).trans (ak rfl rfl))))
 .try dsimp only
  unfold wH;exact af (av (show ¬(T.length:Int)<(T.length:Int) by omega)) rfl
def dX(d:bg.T)(s:cV.T):Bool:=decide (s.1.length=d.2.2.1.length)&&decide (s.2.1.length=d.2.2.2.2.2.2.1.length)&&(List.range d.2.2.2.2.2.2.1.length).all (jv d.2.2.2.2.2.2.1 s.2.1)
theorem YV(d:bg.T)(s:cV.T)(hT:d.2.2.2.2.2.2.1.length<=100000) :
  Zq8 (d.1,(d.2.1,(d.2.2.1,(d.2.2.2.1,(d.2.2.2.2.1,(d.2.2.2.2.2.1,(d.2.2.2.2.2.2.1,(d.2.2.2.2.2.2.2.1,(s.1,(s.2.1,())))))))))) =
   some (match dX d s with|true=>((0:Int),(j4 d.2.2.2.2.2.2.1 s.2.1 d.2.2.2.2.2.2.1.length,()))|false=>((14:Int),([],()))):=by
 show NO wy Nj d.1 d.2.1 d.2.2.1 d.2.2.2.1 d.2.2.2.2.1 d.2.2.2.2.2.1 d.2.2.2.2.2.2.1 d.2.2.2.2.2.2.2.1 s.1 s.2.1=_;unfold NO dX;by_cases h1:s.1.length=d.2.2.1.length
 .rw[decide_eq_true h1];have q1:Bool.not (decide (Int.ofNat (List.length s.1)=Int.ofNat (List.length d.2.2.1)))=false:=by rw[decide_eq_true (by rw[h1])];rfl
  refine af q1 ?_;by_cases h2:s.2.1.length=d.2.2.2.2.2.2.1.length
  .rw[decide_eq_true h2];have q2:Bool.not (decide (Int.ofNat (List.length s.2.1)=Int.ofNat (List.length d.2.2.2.2.2.2.1)))=false:=by rw[decide_eq_true (by rw[h2])];rfl
   refine af q2 ((bT (ahz d.2.2.2.2.2.2.1 s.1 s.2.1 hT h2)).trans ?_);cases(List.range d.2.2.2.2.2.2.1.length).all (jv d.2.2.2.2.2.2.1 s.2.1)<;>rfl
  .rw[decide_eq_false h2];have q2:Bool.not (decide (Int.ofNat (List.length s.2.1)=Int.ofNat (List.length d.2.2.2.2.2.2.1)))=true:=by rw[decide_eq_false (fun e=>h2 (Int.ofNat.inj e))];rfl
   exact ao q2 rfl
 .rw[decide_eq_false h1];have q1:Bool.not (decide (Int.ofNat (List.length s.1)=Int.ofNat (List.length d.2.2.1)))=true:=by rw[decide_eq_false (fun e=>h1 (Int.ofNat.inj e))];rfl
  exact ao q1 rfl
def iS(d:bg.T)(s:cV.T):Int:=if Pl.cL (dS d)≠0 then Pl.cL (dS d)else match dX d s with|true=>0|false=>14
theorem Zy6(d:bg.T)(s:cV.T)(ft:Fit (dS d))(hT:d.2.2.2.2.2.2.1.length<=100000):Zhp (d,(s,()))=some (iS d s,()):=by
 have e1:=po ft;rw[DB]at e1;have e2:=YV d s hT;unfold iS;by_cases h:Pl.cL (dS d)=0
 .rw[if_neg (by simpa using h)];refine ag e1 (af (by rw[h];rfl) (ag e2 ?_));cases dX d s<;>rfl
 .rw[if_pos h];exact ag e1 (ao (by simp[h]) rfl)
def nC(cs:List (List aC.T)):Prop:=∀c∈cs,pE c
theorem ago(d:bg.T)(aB:List Bool)(cs:List (List aC.T))(hT:d.2.2.2.2.2.2.1.length<=100000)(hc:cs.length=d.2.2.2.2.2.2.1.length)(hok:nC cs) :
  ZU ((0:Int),(d.1,(d.2.1,(d.2.2.1,(d.2.2.2.1,(d.2.2.2.2.1,(d.2.2.2.2.2.1,(d.2.2.2.2.2.2.1,(d.2.2.2.2.2.2.2.1,(aB,(cs,()))))))))))) =
   some (match(List.range d.2.2.2.2.2.2.1.length).all (jv d.2.2.2.2.2.2.1 cs)with|true=>.inr ()|false=>.inl ((14:Int),())):=by
 have hok':∀i:Nat,i<d.2.2.2.2.2.2.1.length->pE (gt (.sl aC) cs (i:Int)):=by intro i hi;have hg:=List.getElem?_eq_getElem (l:=cs) (i:=i) (by omega);rw[bn (σ:=.sl aC) hg];exact hok _ (List.getElem_mem (by omega))
 unfold ZU;delta jI;refine mj (fun i:Nat=>((i:Int),(d.1,(d.2.1,(d.2.2.1,(d.2.2.2.1,(d.2.2.2.2.1,(d.2.2.2.2.2.1,(d.2.2.2.2.2.2.1,(d.2.2.2.2.2.2.2.1,(aB,(cs,())))))))))))) (jv d.2.2.2.2.2.2.1 cs) d.2.2.2.2.2.2.1.length ?_ ?_ ?_ rfl (bA (by omega))
 .intro i hi hp;have e1:=Zwj (gt ab d.2.2.2.2.2.2.1 (i:Int)).1 (gt ab d.2.2.2.2.2.2.1 (i:Int)).2.1 (gt (.sl aC) cs (i:Int)) (hok' i hi);have hp':ik (gt ab d.2.2.2.2.2.2.1 (i:Int)).1 (gt ab d.2.2.2.2.2.2.1 (i:Int)).2.1 (gt (.sl aC) cs (i:Int))=true:=hp;rw[hp']at e1
  try dsimp only
  unfold wo;have e:∀(p q:Int),p=q->(some (.inl (p,(d.1,(d.2.1,(d.2.2.1,(d.2.2.2.1,(d.2.2.2.2.1,(d.2.2.2.2.2.1,(d.2.2.2.2.2.2.1,(d.2.2.2.2.2.2.2.1,(aB,(cs,())))))))))))):Option (TL CP.σs⊕Out CK))=some (.inl (q,(d.1,(d.2.1,(d.2.2.1,(d.2.2.2.1,(d.2.2.2.2.1,(d.2.2.2.2.2.1,(d.2.2.2.2.2.2.1,(d.2.2.2.2.2.2.2.1,(aB,(cs,())))))))))))):=by rintro _ _ rfl;rfl
  exact ao (aj (show(i:Int)<(d.2.2.2.2.2.2.1.length:Int) by omega)) (ak (aN ⟨by omega,by omega⟩) (ak (aN ⟨by omega,by omega⟩) (ak (aN ⟨by omega,by omega⟩) ((bT e1).trans (af rfl (e _ _ (bK (x:=(i:Int)+1) (by omega))))))))
 .intro i hi hp;have e1:=Zwj (gt ab d.2.2.2.2.2.2.1 (i:Int)).1 (gt ab d.2.2.2.2.2.2.1 (i:Int)).2.1 (gt (.sl aC) cs (i:Int)) (hok' i hi);have hp':ik (gt ab d.2.2.2.2.2.2.1 (i:Int)).1 (gt ab d.2.2.2.2.2.2.1 (i:Int)).2.1 (gt (.sl aC) cs (i:Int))=false:=hp;rw[hp']at e1
  try dsimp only
  unfold wo;exact ao (aj (show(i:Int)<(d.2.2.2.2.2.2.1.length:Int) by omega)) (ak (aN ⟨by omega,by omega⟩) (ak (aN ⟨by omega,by omega⟩) (ak (aN ⟨by omega,by omega⟩) ((bT e1).trans (ao rfl rfl)))))
 .try dsimp only
  unfold wo;exact af (av (show ¬(d.2.2.2.2.2.2.1.length:Int)<(d.2.2.2.2.2.2.1.length:Int) by omega)) rfl
theorem Zya(d:bg.T)(s:cV.T)(ft:Fit (dS d))(hT:d.2.2.2.2.2.2.1.length<=100000)(hok:nC s.2.1):Zbn (d,(s,()))=some (iS d s,()):=by
 have e1:=DW ft;rw[DB]at e1;unfold iS;by_cases h:Pl.cL (dS d)=0
 .rw[if_neg (by simpa using h)];refine ag e1 (af (by rw[h];rfl) ?_);unfold dX;by_cases h1:s.1.length=d.2.2.1.length
  .rw[decide_eq_true h1];have q1:Bool.not (decide (Int.ofNat (List.length s.1)=Int.ofNat (List.length d.2.2.1)))=false:=by rw[decide_eq_true (by rw[h1])];rfl
   refine af q1 ?_;by_cases h2:s.2.1.length=d.2.2.2.2.2.2.1.length
   .rw[decide_eq_true h2];have q2:Bool.not (decide (Int.ofNat (List.length s.2.1)=Int.ofNat (List.length d.2.2.2.2.2.2.1)))=false:=by rw[decide_eq_true (by rw[h2])];rfl
    refine af q2 ((bT (ago d s.1 s.2.1 hT h2 hok)).trans ?_);cases(List.range d.2.2.2.2.2.2.1.length).all (jv d.2.2.2.2.2.2.1 s.2.1)<;>rfl
   .rw[decide_eq_false h2];have q2:Bool.not (decide (Int.ofNat (List.length s.2.1)=Int.ofNat (List.length d.2.2.2.2.2.2.1)))=true:=by rw[decide_eq_false (fun e=>h2 (Int.ofNat.inj e))];rfl
    exact ao q2 rfl
  .rw[decide_eq_false h1];have q1:Bool.not (decide (Int.ofNat (List.length s.1)=Int.ofNat (List.length d.2.2.1)))=true:=by rw[decide_eq_false (fun e=>h1 (Int.ofNat.inj e))];rfl
   exact ao q1 rfl
 .rw[if_pos h];exact ag e1 (ao (by simp[h]) rfl)
def fl(d:List ae.T)(i:Int):Int:=(gt ae d i).2.2.1
def kg(d:List ae.T)(k:Nat):List Bool:=(List.range k).map fun i=>decide (fl d ((i:Nat):Int)=1)
theorem agT(d:List ae.T)(k:Nat):kg d (k+1)=kg d k++[decide (fl d (k:Int)=1)]:=by unfold kg;rw[List.range_succ,List.map_append];rfl
theorem N9(d:List ae.T)(k:Nat):(kg d k).length=k:=by unfold kg;simp
def nx{α:Type}(d:bg.T)(r:α):Int×List Int×List ae.T×List Int×List Int×List Int×List ab.T×List ae.T×α:=(d.1,(d.2.1,(d.2.2.1,(d.2.2.2.1,(d.2.2.2.2.1,(d.2.2.2.2.2.1,(d.2.2.2.2.2.2.1,(d.2.2.2.2.2.2.2.1,r))))))))
def jl(d:bg.T):cV.T:=match decide (Pl.cL (dS d)=0)with|true=>(kg d.2.2.1 d.2.2.1.length,(List.replicate d.2.2.2.2.2.2.1.length [],()))|false=>([],([],()))
theorem agm(d:bg.T)(T:List ae.T)(hL:T.length<=100000):Zmt (T,((T.length:Int),((0:Int),nx d ([],()))))=some (nx d (kg T T.length,())):=by
 unfold Zmt;delta jY;refine cP (fun i:Nat=>(T,((T.length:Int),((i:Int),nx d (kg T i,()))))) T.length rfl ?_ ?_ (bA (by omega))
 .intro i hi;unfold nx
  try dsimp only
  unfold Dx;refine ao (aj (show(i:Int)<(T.length:Int) by omega)) (ak (aN ⟨by omega,by omega⟩) (ak (mu (L:=kg T i) (by rw[N9];omega) (by decide)) ?_));have e:∀(p q:Int) (M M':List Bool),p=q->M=M'->(some (.inl (T,((T.length:Int),(p,nx d (M,()))))):Option (TL Dg.σs⊕Out C7))=some (.inl (T,((T.length:Int),(q,nx d (M',()))))):=by rintro _ _ _ _ rfl rfl;rfl
  exact e _ _ _ _ (bK (x:=(i:Int)+1) (by omega)) (agT _ _).symm
 .unfold nx
  try dsimp only
  unfold Dx;exact af (av (show ¬(T.length:Int)<(T.length:Int) by omega)) rfl
theorem alG{n:Nat}(h:n<=100000):both (decide ((0:Int)<=(n:Int))) (both (decide ((n:Int)<=(n:Int))) (decide ((24:Int)*(n:Int)<=281474976710656)))=true:=by rw[decide_eq_true (by omega),decide_eq_true (by omega),decide_eq_true (by omega)];rfl
theorem agX(d:bg.T)(ft:Fit (dS d))(hL:d.2.2.1.length<=100000)(hT:d.2.2.2.2.2.2.1.length<=100000):Zqa (d,())=some (jl d,()):=by
 have e1:=po ft;rw[DB]at e1;unfold jl;by_cases h:Pl.cL (dS d)=0
 .rw[decide_eq_true h];exact ag e1 (af (by rw[h];rfl) (ag (agm d d.2.2.1 hL) (ak (alG hT) rfl)))
 .rw[decide_eq_false h];exact ag e1 (ao (by simp[h]) rfl)
def ux(R:List bO.T)(i:Int):Nat:=List.length (gt bO R i).2.1
def nR(R:List bO.T)(i:Int):Int:=(gt bO R i).1
def pF(R:List bO.T)(i:Nat):Bool:=decide (ux R (i:Int)<=100)&&decide (nR R (i:Int)<=1099511627776)&&decide (-1099511627776<=nR R (i:Int))
def uF(R:List bE.T)(i:Int):Nat:=List.length (gt bE R i).2.1
def uE(R:List bE.T)(i:Int):Nat:=List.length (gt bE R i).2.2.1
def pG(R:List bE.T)(i:Nat):Bool:=decide (uF R (i:Int)<=100)&&decide (uE R (i:Int)<=100)
theorem Uo(d:bg.T)(t a w:Int)(y:Bool)(R:List bO.T)(W:List bE.T)(hR:R.length<=100000) :
  Mh (t,((0:Int),nx d (a,(w,(y,(R,(W,())))))))=some (match(List.range R.length).all (pF R)with|true=>.inr (t,nx d (a,(w,(y,(R,(W,()))))))|false=>.inl (false,())):=by
 unfold Mh;delta dV;refine mj (fun i:Nat=>(t,((i:Int),nx d (a,(w,(y,(R,(W,())))))))) (pF R) R.length ?_ ?_ ?_ rfl (bA (by omega))
 .intro i hi hp;unfold pF at hp;simp only[Bool.and_eq_true,decide_eq_true_eq]at hp;obtain⟨⟨h1,h2⟩,h3⟩:=hp;have aT:aw (i:Int) (List.length R)=true:=aN ⟨by omega,by omega⟩;unfold nx
  try dsimp only
  unfold wg;have e:∀p q:Int,p=q->(some (.inl (t,(p,nx d (a,(w,(y,(R,(W,())))))))):Option (TL Cu.σs⊕Out Cq))=some (.inl (t,(q,nx d (a,(w,(y,(R,(W,())))))))):=by rintro _ _ rfl;rfl
  exact ao (aj (show(i:Int)<(R.length:Int) by omega)) (ak aT (af (av (show ¬(100:Int)<((ux R (i:Int):Nat):Int) by omega)) (ak aT (af (av (show ¬(1099511627776:Int)<nR R (i:Int) by omega)) (ak aT (af (av (show ¬nR R (i:Int)<Int.negSucc 1099511627775 by omega)) (e _ _ (bK (x:=(i:Int)+1) (by omega)))))))))
 .intro i hi hp;have aT:aw (i:Int) (List.length R)=true:=aN ⟨by omega,by omega⟩;unfold nx
  try dsimp only
  unfold wg;refine ao (aj (show(i:Int)<(R.length:Int) by omega)) (ak aT ?_);by_cases h1:(100:Int)<((ux R (i:Int):Nat):Int)
  .exact ao (aj h1) rfl
  refine af (av h1) (ak aT ?_);by_cases h2:(1099511627776:Int)<nR R (i:Int)
  .exact ao (aj h2) rfl
  refine af (av h2) (ak aT ?_);by_cases h3:nR R (i:Int)<Int.negSucc 1099511627775
  .exact ao (aj h3) rfl
  unfold pF at hp;rw[decide_eq_true (show ux R (i:Int)<=100 by omega),decide_eq_true (show nR R (i:Int)<=1099511627776 by omega),decide_eq_true (show -1099511627776<=nR R (i:Int) by omega)]at hp;cases hp
 .unfold nx
  try dsimp only
  unfold wg;exact af (av (show ¬(R.length:Int)<(R.length:Int) by omega)) rfl
theorem Un(d:bg.T)(t a w:Int)(y:Bool)(R:List bO.T)(W:List bE.T)(hW:W.length<=100000) :
  Mg (t,((0:Int),nx d (a,(w,(y,(R,(W,())))))))=some (match(List.range W.length).all (pG W)with|true=>.inr (t,nx d ())|false=>.inl (false,())):=by
 unfold Mg;delta dV;refine mj (fun i:Nat=>(t,((i:Int),nx d (a,(w,(y,(R,(W,())))))))) (pG W) W.length ?_ ?_ ?_ rfl (bA (by omega))
 .intro i hi hp;unfold pG at hp;simp only[Bool.and_eq_true,decide_eq_true_eq]at hp;obtain⟨h1,h2⟩:=hp;have aT:aw (i:Int) (List.length W)=true:=aN ⟨by omega,by omega⟩;unfold nx
  try dsimp only
  unfold we;have e:∀p q:Int,p=q->(some (.inl (t,(p,nx d (a,(w,(y,(R,(W,())))))))):Option (TL Ct.σs⊕Out Cp))=some (.inl (t,(q,nx d (a,(w,(y,(R,(W,())))))))):=by rintro _ _ rfl;rfl
  exact ao (aj (show(i:Int)<(W.length:Int) by omega)) (ak aT (af (av (show ¬(100:Int)<((uF W (i:Int):Nat):Int) by omega)) (ak aT (af (av (show ¬(100:Int)<((uE W (i:Int):Nat):Int) by omega)) (e _ _ (bK (x:=(i:Int)+1) (by omega)))))))
 .intro i hi hp;have aT:aw (i:Int) (List.length W)=true:=aN ⟨by omega,by omega⟩;unfold nx
  try dsimp only
  unfold we;refine ao (aj (show(i:Int)<(W.length:Int) by omega)) (ak aT ?_);by_cases h1:(100:Int)<((uF W (i:Int):Nat):Int)
  .exact ao (aj h1) rfl
  refine af (av h1) (ak aT ?_);by_cases h2:(100:Int)<((uE W (i:Int):Nat):Int)
  .exact ao (aj h2) rfl
  unfold pG at hp;rw[decide_eq_true (show uF W (i:Int)<=100 by omega),decide_eq_true (show uE W (i:Int)<=100 by omega)]at hp;cases hp
 .unfold nx
  try dsimp only
  unfold we;exact af (av (show ¬(W.length:Int)<(W.length:Int) by omega)) rfl
def kO(T:List ab.T)(i:Int):List bO.T:=(gt ab T i).2.2.2.1
def kP(T:List ab.T)(i:Int):List bE.T:=(gt ab T i).2.2.2.2.1
def nN(T:List ab.T)(i:Int):Int:=(gt ab T i).2.1
def p4(T:List ab.T)(i:Nat):Bool:=decide ((kO T (i:Int)).length<=6)&&decide ((kP T (i:Int)).length<=6)&&decide (nN T (i:Int)<=100) &&
 (List.range (kO T (i:Int)).length).all (pF (kO T (i:Int)))&&(List.range (kP T (i:Int)).length).all (pG (kP T (i:Int)))
theorem ae5(d:bg.T)(hT:d.2.2.2.2.2.2.1.length<=100000) :
  ZT ((0:Int),nx d ())=some (match(List.range d.2.2.2.2.2.2.1.length).all (p4 d.2.2.2.2.2.2.1)with|true=>.inr ()|false=>.inl (false,())):=by
 unfold ZT;delta u9;refine mj (fun i:Nat=>((i:Int),nx d ())) (p4 d.2.2.2.2.2.2.1) d.2.2.2.2.2.2.1.length ?_ ?_ ?_ rfl (bA (by omega))
 .intro i hi hp;unfold p4 at hp;simp only[Bool.and_eq_true,decide_eq_true_eq]at hp;obtain⟨⟨⟨⟨h1,h2⟩,h3⟩,h4⟩,h5⟩:=hp;have aT:aw (i:Int) (List.length d.2.2.2.2.2.2.1)=true:=aN ⟨by omega,by omega⟩;have e10:=Uo d (i:Int) (gt ab d.2.2.2.2.2.2.1 (i:Int)).1 (nN d.2.2.2.2.2.2.1 (i:Int)) (gt ab d.2.2.2.2.2.2.1 (i:Int)).2.2.1 (kO d.2.2.2.2.2.2.1 (i:Int)) (kP d.2.2.2.2.2.2.1 (i:Int)) (by omega);have e15:=Un d (i:Int) (gt ab d.2.2.2.2.2.2.1 (i:Int)).1 (nN d.2.2.2.2.2.2.1 (i:Int)) (gt ab d.2.2.2.2.2.2.1 (i:Int)).2.2.1 (kO d.2.2.2.2.2.2.1 (i:Int)) (kP d.2.2.2.2.2.2.1 (i:Int)) (by omega);rw[h4]at e10;rw[h5]at e15;unfold nx at e10 e15 |-
  try dsimp only
  unfold wj;have e:∀p q:Int,p=q->(some (.inl (p,nx d ())):Option (TL CO.σs⊕Out CH))=some (.inl (q,nx d ())):=by rintro _ _ rfl;rfl
  exact ao (aj (show(i:Int)<(d.2.2.2.2.2.2.1.length:Int) by omega)) (ak aT (af (av (show ¬(6:Int)<(((kO d.2.2.2.2.2.2.1 (i:Int)).length:Nat):Int) by omega)) (af (av (show ¬(6:Int)<(((kP d.2.2.2.2.2.2.1 (i:Int)).length:Nat):Int) by omega)) (af (av (show ¬(100:Int)<nN d.2.2.2.2.2.2.1 (i:Int) by omega)) ((bT e10).trans ((bT e15).trans (e _ _ (bK (x:=(i:Int)+1) (by omega)))))))))
 .intro i hi hp;have aT:aw (i:Int) (List.length d.2.2.2.2.2.2.1)=true:=aN ⟨by omega,by omega⟩;unfold nx
  try dsimp only
  unfold wj;refine ao (aj (show(i:Int)<(d.2.2.2.2.2.2.1.length:Int) by omega)) (ak aT ?_);by_cases h1:(6:Int)<(((kO d.2.2.2.2.2.2.1 (i:Int)).length:Nat):Int)
  .exact ao (aj h1) rfl
  refine af (av h1) ?_;by_cases h2:(6:Int)<(((kP d.2.2.2.2.2.2.1 (i:Int)).length:Nat):Int)
  .exact ao (aj h2) rfl
  refine af (av h2) ?_;by_cases h3:(100:Int)<nN d.2.2.2.2.2.2.1 (i:Int)
  .exact ao (aj h3) rfl
  refine af (av h3) ?_;have e10:=Uo d (i:Int) (gt ab d.2.2.2.2.2.2.1 (i:Int)).1 (nN d.2.2.2.2.2.2.1 (i:Int)) (gt ab d.2.2.2.2.2.2.1 (i:Int)).2.2.1 (kO d.2.2.2.2.2.2.1 (i:Int)) (kP d.2.2.2.2.2.2.1 (i:Int)) (by omega);have e15:=Un d (i:Int) (gt ab d.2.2.2.2.2.2.1 (i:Int)).1 (nN d.2.2.2.2.2.2.1 (i:Int)) (gt ab d.2.2.2.2.2.2.1 (i:Int)).2.2.1 (kO d.2.2.2.2.2.2.1 (i:Int)) (kP d.2.2.2.2.2.2.1 (i:Int)) (by omega);refine(bT e10).trans ?_;cases h4:(List.range (kO d.2.2.2.2.2.2.1 (i:Int)).length).all (pF (kO d.2.2.2.2.2.2.1 (i:Int)))with|false=>rfl|true=>refine(bT e15).trans ?_;cases h5:(List.range (kP d.2.2.2.2.2.2.1 (i:Int)).length).all (pG (kP d.2.2.2.2.2.2.1 (i:Int)))with|false=>rfl|true=>unfold p4 at hp;rw[h4,h5,decide_eq_true (show(kO d.2.2.2.2.2.2.1 (i:Int)).length<=6 by omega),decide_eq_true (show(kP d.2.2.2.2.2.2.1 (i:Int)).length<=6 by omega),decide_eq_true (show nN d.2.2.2.2.2.2.1 (i:Int)<=100 by omega)]at hp;cases hp
 .unfold nx
  try dsimp only
  unfold wj;exact af (av (show ¬(d.2.2.2.2.2.2.1.length:Int)<(d.2.2.2.2.2.2.1.length:Int) by omega)) rfl
def wV(d:bg.T):Prop:=List.length d.2.1<=2100/\List.length d.2.2.1<=2100/\List.length d.2.2.2.2.2.2.2.1<=2100/\List.length d.2.2.2.1<=1100/\List.length d.2.2.2.2.1<=1100/\List.length d.2.2.2.2.2.1<=1100/\List.length d.2.2.2.2.2.2.1<=6 /\
 (List.range d.2.2.2.2.2.2.1.length).all (p4 d.2.2.2.2.2.2.1)=true
theorem ag7(d:bg.T):∃b,Mv (d,())=some (b,())/\(b=true->wV d):=by
 have key:∀{b:Bool},(b=true->wV d)->Mv (d,())=some (b,())->∃b,Mv (d,())=some (b,())/\(b=true->wV d):=fun h e=>⟨_,e,h⟩;by_cases h1:(2100:Int)<((List.length d.2.1:Nat):Int)
 .exact key (fun h=>by cases h) (ao (aj h1) rfl)
 by_cases h2:(2100:Int)<((List.length d.2.2.1:Nat):Int)
 .exact key (fun h=>by cases h) (af (av h1) (ao (aj h2) rfl))
 by_cases h3:(2100:Int)<((List.length d.2.2.2.2.2.2.2.1:Nat):Int)
 .exact key (fun h=>by cases h) (af (av h1) (af (av h2) (ao (aj h3) rfl)))
 by_cases h4:(1100:Int)<((List.length d.2.2.2.1:Nat):Int)
 .exact key (fun h=>by cases h) (af (av h1) (af (av h2) (af (av h3) (ao (aj h4) rfl))))
 by_cases h5:(1100:Int)<((List.length d.2.2.2.2.1:Nat):Int)
 .exact key (fun h=>by cases h) (af (av h1) (af (av h2) (af (av h3) (af (av h4) (ao (aj h5) rfl)))))
 by_cases h6:(1100:Int)<((List.length d.2.2.2.2.2.1:Nat):Int)
 .exact key (fun h=>by cases h) (af (av h1) (af (av h2) (af (av h3) (af (av h4) (af (av h5) (ao (aj h6) rfl))))))
 by_cases h7:(6:Int)<((List.length d.2.2.2.2.2.2.1:Nat):Int)
 .exact key (fun h=>by cases h) (af (av h1) (af (av h2) (af (av h3) (af (av h4) (af (av h5) (af (av h6) (ao (aj h7) rfl)))))))
 have e4:=ae5 d (by omega);cases h8:(List.range d.2.2.2.2.2.2.1.length).all (p4 d.2.2.2.2.2.2.1)with
 |false=>rw[h8]at e4;exact key (fun h=>by cases h) (af (av h1) (af (av h2) (af (av h3) (af (av h4) (af (av h5) (af (av h6) (af (av h7) (ag e4 rfl))))))))
 |true=>rw[h8]at e4;exact key (fun _=>⟨by omega,by omega,by omega,by omega,by omega,by omega,by omega,h8⟩) (af (av h1) (af (av h2) (af (av h3) (af (av h4) (af (av h5) (af (av h6) (af (av h7) (ag e4 rfl))))))))
theorem ag6(d:bg.T):∃b,Zcw (d,())=some (b,())/\(b=true->wV d):=by
 obtain⟨b,e,h⟩:=ag7 d;cases b with
 |false=>exact⟨false,ag e rfl,fun q=>by cases q⟩
 |true=>
  by_cases h1:((List.length d.2.2.2.2.2.2.2.1:Nat):Int)<=100
  .by_cases h2:((List.length d.2.1:Nat):Int)<=100
   .by_cases h3:((List.length d.2.2.1:Nat):Int)<=100
    .exact⟨_,ag e (ao rfl (ao (aj h1) (ao (aj h2) (ao (aj h3) rfl)))),fun _=>h rfl⟩
    .exact⟨false,ag e (ao rfl (ao (aj h1) (ao (aj h2) (af (av h3) rfl)))),fun q=>by cases q⟩
   .exact⟨false,ag e (ao rfl (ao (aj h1) (af (av h2) rfl))),fun q=>by cases q⟩
  .exact⟨false,ag e (ao rfl (af (av h1) rfl)),fun q=>by cases q⟩
def vF(C:List (List aC.T))(i:Int):Nat:=List.length (gt (.sl aC) C i)
def jt(L:List Bool)(i:Int):Bool:=gt .bool L i
def mG(T:List ae.T)(aB:List Bool)(i:Nat):Bool:=decide (fl T (i:Int)=2)||(decide (fl T (i:Int)=1) == jt aB (i:Int))
def n0(T:List ab.T)(i:Int):Bool:=(gt ab T i).2.2.1
def pM(T:List ab.T)(C:List (List aC.T))(i:Nat):Bool:=n0 T (i:Int)||decide (vF C (i:Int)=0)
theorem ahp(d:bg.T)(T:List ae.T)(aB:List Bool)(C:List (List aC.T))(hT:T.length<=100000)(hl:aB.length=T.length) :
  Zlq (T,((T.length:Int),((0:Int),nx d (aB,(C,())))))=some (match(List.range T.length).all (mG T aB)with|true=>.inr (nx d (aB,(C,())))|false=>.inl ((14:Int),())):=by
 unfold Zlq;delta nF;refine mj (fun i:Nat=>(T,((T.length:Int),((i:Int),nx d (aB,(C,())))))) (mG T aB) T.length ?_ ?_ ?_ rfl (bA (by omega))
 .intro i hi hp;unfold mG at hp;unfold nx
  try dsimp only
  unfold wD;have e:∀p q:Int,p=q->(some (.inl (T,((T.length:Int),(p,nx d (aB,(C,())))))):Option (TL C8.σs⊕Out CX))=some (.inl (T,((T.length:Int),(q,nx d (aB,(C,())))))):=by rintro _ _ rfl;rfl
  refine ao (aj (show(i:Int)<(T.length:Int) by omega)) (ak (aN ⟨by omega,by omega⟩) ?_);by_cases h2:fl T (i:Int)=2
  .exact af (show Bool.not (decide (fl T (i:Int)=2))=false by rw[decide_eq_true h2];rfl) (e _ _ (bK (x:=(i:Int)+1) (by omega)))
  .rw[decide_eq_false h2,Bool.false_or]at hp;refine ao (show Bool.not (decide (fl T (i:Int)=2))=true by rw[decide_eq_false h2];rfl) (ak (aN ⟨by omega,by omega⟩) (af ?_ (e _ _ (bK (x:=(i:Int)+1) (by omega)))));show Bool.not (@decide _ (Bool.decEq (decide (fl T (i:Int)=1)) (jt aB (i:Int))))=false;cases q1:decide (fl T (i:Int)=1)<;>cases q2:jt aB (i:Int)<;>rw[q1,q2]at hp<;>first|rfl|cases hp
 .intro i hi hp;unfold mG at hp;rw[Bool.or_eq_false_iff]at hp;obtain⟨h2,h3⟩:=hp;unfold nx
  try dsimp only
  unfold wD;refine ao (aj (show(i:Int)<(T.length:Int) by omega)) (ak (aN ⟨by omega,by omega⟩) (ao (show Bool.not (decide (fl T (i:Int)=2))=true by rw[h2];rfl) (ak (aN ⟨by omega,by omega⟩) (ao ?_ rfl))));show Bool.not (@decide _ (Bool.decEq (decide (fl T (i:Int)=1)) (jt aB (i:Int))))=true;cases q1:decide (fl T (i:Int)=1)<;>cases q2:jt aB (i:Int)<;>rw[q1,q2]at h3<;>first|rfl|cases h3
 .unfold nx
  try dsimp only
  unfold wD;exact af (av (show ¬(T.length:Int)<(T.length:Int) by omega)) rfl
theorem agY(T:List ab.T)(aB:List Bool)(C:List (List aC.T))(hT:T.length<=100000)(hl:C.length=T.length) :
  Zku (T,((T.length:Int),((0:Int),(aB,(C,())))))=some (match(List.range T.length).all (pM T C)with|true=>.inr ()|false=>.inl ((14:Int),())):=by
 unfold Zku;delta u5;refine mj (fun i:Nat=>(T,((T.length:Int),((i:Int),(aB,(C,())))))) (pM T C) T.length ?_ ?_ ?_ rfl (bA (by omega))
 .intro i hi hp;unfold pM at hp
  try dsimp only
  unfold wB;have e:∀p q:Int,p=q->(some (.inl (T,((T.length:Int),(p,(aB,(C,())))))):Option (TL CY.σs⊕Out CS))=some (.inl (T,((T.length:Int),(q,(aB,(C,())))))):=by rintro _ _ rfl;rfl
  refine ao (aj (show(i:Int)<(T.length:Int) by omega)) (ak (aN ⟨by omega,by omega⟩) ?_);cases h2:n0 T (i:Int)with|true=>exact af (show Bool.not (n0 T (i:Int))=false by rw[h2];rfl) (e _ _ (bK (x:=(i:Int)+1) (by omega)))|false=>rw[h2,Bool.false_or]at hp;have hp:=of_decide_eq_true hp;exact ao (show Bool.not (n0 T (i:Int))=true by rw[h2];rfl) (ak (aN ⟨by omega,by omega⟩) (af (av (show ¬(0:Int)<((vF C (i:Int):Nat):Int) by omega)) (e _ _ (bK (x:=(i:Int)+1) (by omega)))))
 .intro i hi hp;unfold pM at hp;rw[Bool.or_eq_false_iff]at hp;obtain⟨h2,h3⟩:=hp;have h3:=of_decide_eq_false h3
  try dsimp only
  unfold wB;exact ao (aj (show(i:Int)<(T.length:Int) by omega)) (ak (aN ⟨by omega,by omega⟩) (ao (show Bool.not (n0 T (i:Int))=true by rw[h2];rfl) (ak (aN ⟨by omega,by omega⟩) (ao (aj (show(0:Int)<((vF C (i:Int):Nat):Int) by omega)) rfl))))
 .try dsimp only
  unfold wB;exact af (av (show ¬(T.length:Int)<(T.length:Int) by omega)) rfl
theorem ahs(d:bg.T)(aB:List Bool)(C:List (List aC.T))(hT:d.2.2.1.length<=100000)(hl:aB.length=d.2.2.1.length)(aT:∀i:Nat,i<d.2.2.1.length->0<=fl d.2.2.1 (i:Int)/\fl d.2.2.1 (i:Int)<=2) :
  ZQ ((0:Int),nx d (aB,(C,())))=some (match(List.range d.2.2.1.length).all (mG d.2.2.1 aB)with|true=>.inr (nx d (aB,(C,())))|false=>.inl ((14:Int),())):=by
 unfold ZQ;delta jI;refine mj (fun i:Nat=>((i:Int),nx d (aB,(C,())))) (mG d.2.2.1 aB) d.2.2.1.length ?_ ?_ ?_ rfl (bA (by omega))
 .intro i hi hp;obtain⟨i0,i2⟩:=aT i hi;unfold mG at hp;have hb:aw (i:Int) (List.length d.2.2.1)=true:=aN ⟨by omega,by omega⟩;have hb2:aw (i:Int) (List.length aB)=true:=aN ⟨by omega,by rw[hl];omega⟩;unfold nx
  try dsimp only
  unfold wh;have e:∀p q:Int,p=q->(some (.inl (p,nx d (aB,(C,())))):Option (TL CJ.σs⊕Out CC))=some (.inl (q,nx d (aB,(C,())))):=by rintro _ _ rfl;rfl
  have go:=e _ _ (bK (x:=(i:Int)+1) (by omega));refine ao (aj (show(i:Int)<(d.2.2.1.length:Int) by omega)) (ak hb ?_);by_cases h0:fl d.2.2.1 (i:Int)=0
  .have h1:¬fl d.2.2.1 (i:Int)=1:=by omega
   rw[decide_eq_false (show ¬fl d.2.2.1 (i:Int)=2 by omega),decide_eq_false h1]at hp;have hb3:jt aB (i:Int)=false:=by cases q:jt aB (i:Int)<;>rw[q]at hp<;>first|rfl|cases hp
   exact ao (aj h0) (ak hb2 (af (show aQ true (jt aB (i:Int)) false=false by rw[hb3];rfl) (ak hb (af (av h1) go))))
  .refine af (av h0) (ak hb ?_);by_cases h1:fl d.2.2.1 (i:Int)=1
   .rw[decide_eq_false (show ¬fl d.2.2.1 (i:Int)=2 by omega),decide_eq_true h1]at hp;have hb3:jt aB (i:Int)=true:=by cases q:jt aB (i:Int)<;>rw[q]at hp<;>first|rfl|cases hp
    exact ao (aj h1) (ak hb2 (af (show aQ false true (aQ true (Bool.not (jt aB (i:Int))) false)=false by rw[hb3];rfl) go))
   .exact af (av h1) go
 .intro i hi hp;obtain⟨i0,i2⟩:=aT i hi;unfold mG at hp;rw[Bool.or_eq_false_iff]at hp;obtain⟨h2,h3⟩:=hp;have h2:=of_decide_eq_false h2;have hb:aw (i:Int) (List.length d.2.2.1)=true:=aN ⟨by omega,by omega⟩;have hb2:aw (i:Int) (List.length aB)=true:=aN ⟨by omega,by rw[hl];omega⟩;unfold nx
  try dsimp only
  unfold wh;refine ao (aj (show(i:Int)<(d.2.2.1.length:Int) by omega)) (ak hb ?_);by_cases h0:fl d.2.2.1 (i:Int)=0
  .have h1:¬fl d.2.2.1 (i:Int)=1:=by omega
   rw[decide_eq_false h1]at h3;have hb3:jt aB (i:Int)=true:=by cases q:jt aB (i:Int)<;>rw[q]at h3<;>first|rfl|cases h3
   exact ao (aj h0) (ak hb2 (ao (show aQ true (jt aB (i:Int)) false=true by rw[hb3];rfl) rfl))
  .have h1:fl d.2.2.1 (i:Int)=1:=by omega
   rw[decide_eq_true h1]at h3;have hb3:jt aB (i:Int)=false:=by cases q:jt aB (i:Int)<;>rw[q]at h3<;>first|rfl|cases h3
   exact af (av h0) (ak hb (ao (aj h1) (ak hb2 (ao (show aQ false true (aQ true (Bool.not (jt aB (i:Int))) false)=true by rw[hb3];rfl) rfl))))
 .unfold nx
  try dsimp only
  unfold wh;exact af (av (show ¬(d.2.2.1.length:Int)<(d.2.2.1.length:Int) by omega)) rfl
theorem ag1(d:bg.T)(aB:List Bool)(C:List (List aC.T))(hT:d.2.2.2.2.2.2.1.length<=100000)(hl:C.length=d.2.2.2.2.2.2.1.length) :
  ZP ((0:Int),nx d (aB,(C,())))=some (match(List.range d.2.2.2.2.2.2.1.length).all (pM d.2.2.2.2.2.2.1 C)with|true=>.inr ()|false=>.inl ((14:Int),())):=by
 unfold ZP;delta jI;refine mj (fun i:Nat=>((i:Int),nx d (aB,(C,())))) (pM d.2.2.2.2.2.2.1 C) d.2.2.2.2.2.2.1.length ?_ ?_ ?_ rfl (bA (by omega))
 .intro i hi hp;unfold pM at hp;have hb2:aw (i:Int) (List.length C)=true:=aN ⟨by omega,by rw[hl];omega⟩;unfold nx
  try dsimp only
  unfold wc;have e:∀p q:Int,p=q->(some (.inl (p,nx d (aB,(C,())))):Option (TL CD.σs⊕Out Cy))=some (.inl (q,nx d (aB,(C,())))):=by rintro _ _ rfl;rfl
  have go:=e _ _ (bK (x:=(i:Int)+1) (by omega));refine ao (aj (show(i:Int)<(d.2.2.2.2.2.2.1.length:Int) by omega)) (ak (aN ⟨by omega,by omega⟩) ?_);cases h2:n0 d.2.2.2.2.2.2.1 (i:Int)with|true=>exact af (show Bool.not (n0 d.2.2.2.2.2.2.1 (i:Int))=false by rw[h2];rfl) go|false=>rw[h2,Bool.false_or]at hp;have hp:=of_decide_eq_true hp;exact ao (show Bool.not (n0 d.2.2.2.2.2.2.1 (i:Int))=true by rw[h2];rfl) (ak hb2 (af (av (show ¬(0:Int)<((vF C (i:Int):Nat):Int) by omega)) go))
 .intro i hi hp;unfold pM at hp;rw[Bool.or_eq_false_iff]at hp;obtain⟨h2,h3⟩:=hp;have h3:=of_decide_eq_false h3;have hb2:aw (i:Int) (List.length C)=true:=aN ⟨by omega,by rw[hl];omega⟩;unfold nx
  try dsimp only
  unfold wc;exact ao (aj (show(i:Int)<(d.2.2.2.2.2.2.1.length:Int) by omega)) (ak (aN ⟨by omega,by omega⟩) (ao (show Bool.not (n0 d.2.2.2.2.2.2.1 (i:Int))=true by rw[h2];rfl) (ak hb2 (ao (aj (show(0:Int)<((vF C (i:Int):Nat):Int) by omega)) rfl))))
 .unfold nx
  try dsimp only
  unfold wc;exact af (av (show ¬(d.2.2.2.2.2.2.1.length:Int)<(d.2.2.2.2.2.2.1.length:Int) by omega)) rfl
theorem Zys{d:bg.T}{s:cV.T}(h:iS d s=0):Pl.cL (dS d)=0/\s.1.length=d.2.2.1.length/\s.2.1.length=d.2.2.2.2.2.2.1.length:=by
 unfold iS at h;by_cases hc:Pl.cL (dS d)=0
 .rw[if_neg (by simpa using hc)]at h;cases q:dX d s with
  |false=>rw[q]at h;cases h
  |true=>unfold dX at q;simp only[Bool.and_eq_true,decide_eq_true_eq]at q;exact⟨hc,q.1.1,q.1.2⟩
 .rw[if_pos hc]at h;exact absurd h hc
def om(d:bg.T)(aB:List Bool)(C:List (List aC.T)):Int:=match decide (iS d (aB,(C,()))=0)with|false=>iS d (aB,(C,()))|true=>match(List.range d.2.2.1.length).all (mG d.2.2.1 aB)with|false=>14|true=>match(List.range d.2.2.2.2.2.2.1.length).all (pM d.2.2.2.2.2.2.1 C)with|false=>14|true=>0
theorem agC(d:bg.T)(aB:List Bool)(C:List (List aC.T))(ft:Fit (dS d))(hL:d.2.2.1.length<=100000)(hT:d.2.2.2.2.2.2.1.length<=100000) :
  Nu (d,((aB,(C,())),()))=some (om d aB C,()):=by
 have e1:=Zy6 d (aB,(C,())) ft hT;unfold om;by_cases h:iS d (aB,(C,()))=0
 .obtain⟨_,h2,h3⟩:=Zys h;have e5:=ahp d d.2.2.1 aB C hL h2;have e11:=agY d.2.2.2.2.2.2.1 aB C hT h3;rw[decide_eq_true h];refine ag e1 (af (by rw[h];rfl) ((bT e5).trans ?_));cases(List.range d.2.2.1.length).all (mG d.2.2.1 aB)with|false=>rfl|true=>refine(bT e11).trans ?_;cases(List.range d.2.2.2.2.2.2.1.length).all (pM d.2.2.2.2.2.2.1 C)<;>rfl
 .rw[decide_eq_false h];exact ag e1 (ao (by simp[h]) rfl)
theorem ad2{T:List ae.T}{p:Pl.dx->Prop}(h:∀l∈T.map j8,p l)(i:Nat)(hi:i<T.length):∃l,p l/\l.init=fl T (i:Int):=by have hg:=List.getElem?_eq_getElem hi;refine⟨j8 T[i],h _ (List.mem_map_of_mem (List.getElem_mem hi)),?_⟩;unfold fl;rw[bn (σ:=ae) hg];rfl
theorem ad3{d:bg.T}(h:Pl.cL (dS d)=0):∀i:Nat,i<d.2.2.1.length->0<=fl d.2.2.1 (i:Int)/\fl d.2.2.1 (i:Int)<=2:=by
 have hs0:Pl.dt (dS d)=0:=by
  unfold Pl.cL at h;by_cases q:Pl.dt (dS d)=0
  .exact q
  .rw[if_pos q]at h;exact absurd h q
 obtain⟨V,hs⟩:=Pl.oP hs0;intro i hi;obtain⟨l,h1,h2⟩:=ad2 (T:=d.2.2.1) (p:=fun l=>0<=l.init/\l.init<=2) (fun l hl=>hs.init l hl) i hi;rw[<-h2];exact h1
theorem Ts(d:bg.T)(aB:List Bool)(C:List (List aC.T))(ft:Fit (dS d))(hL:d.2.2.1.length<=100000)(hT:d.2.2.2.2.2.2.1.length<=100000)(hok:nC C) :
  ZW (d,((aB,(C,())),()))=some (om d aB C,()):=by
 have e1:=Zya d (aB,(C,())) ft hT hok;unfold om;by_cases h:iS d (aB,(C,()))=0
 .obtain⟨h1,h2,h3⟩:=Zys h;have e5:=ahs d aB C hL h2 (ad3 h1);have e10:=ag1 d aB C hT h3;rw[decide_eq_true h];refine ag e1 (af (by rw[h];rfl) ((bT e5).trans ?_));cases(List.range d.2.2.1.length).all (mG d.2.2.1 aB)with|false=>rfl|true=>refine(bT e10).trans ?_;cases(List.range d.2.2.2.2.2.2.1.length).all (pM d.2.2.2.2.2.2.1 C)<;>rfl
 .rw[decide_eq_false h];exact ag e1 (ao (by simp[h]) rfl)
theorem wf_i64{n:Int}(h:(Lit.int .i64 n).wf=true):cR n:=by
 simp only[Lit.wf,Bool.and_eq_true,decide_eq_true_eq]at h;have h1:IntKind.i64.min = -9223372036854775808:=by decide
 have h2:IntKind.i64.max=9223372036854775807:=by decide
 rw[h1,h2]at h;exact h
theorem qS{L:List Int}(h:mF (.sl (.int .i64)) L):∀x∈L,cR x:=fun x hx=>wf_i64 (h.2 x hx)
theorem uM{α β:Type}(f:α->β)(L:List α){n k:Nat}(h:L.length<=n)(hk:n<=k):(L.map f).length<=k:=by rw[List.length_map];omega
theorem adS{m:ab.T}(h:mF ab m)(hr:List.length m.2.2.2.1<=6)(hw:List.length m.2.2.2.2.1<=6)(hword:@LE.le Int _ m.2.1 100)
  (h10:kp (α:=bO.T) (fun r=>List.length r.2.1<=100/\@LE.le Int _ r.1 1099511627776/\@LE.le Int _ (-1099511627776) r.1) m.2.2.2.1) (h15:kp (α:=bE.T) (fun r=>List.length r.2.1<=100/\List.length r.2.2.1<=100) m.2.2.2.2.1):zm (mW m):=by
 obtain⟨a1,a2,a3,a4,a5,_⟩:=h;refine⟨⟨wf_i64 a2,Int.le_trans hword (by decide)⟩,wf_i64 a1,?_,?_,?_,?_⟩
 .exact uM pY _ hr (by decide)
 .exact uM qQ _ hw (by decide)
 .intro r hr;obtain⟨r',hr',rfl⟩:=List.mem_map.1 hr;obtain⟨b1,b2,b3⟩:=h10 r' hr';have hk:=a4.2 r' hr';exact⟨Nat.le_trans b1 (by decide),b3,b2,qS hk.2.1⟩
 .intro r hr;obtain⟨r',hr',rfl⟩:=List.mem_map.1 hr;obtain⟨b1,b2⟩:=h15 r' hr';have hk:=a5.2 r' hr';exact⟨Nat.le_trans b1 (by decide),Nat.le_trans b2 (by decide),wf_i64 hk.1,qS hk.2.1,qS hk.2.2.1⟩
theorem Hv{α:Type}{σ:Sh}{L:List σ.T}{p:Nat->Bool}{Q:σ.T->Prop}(h:(List.range L.length).all p=true)(hq:∀i x,L[i]?=some x->p i=true->Q x):kp Q L:=by
 have h':∀i,i<L.length->p i=true:=by simpa[List.all_eq_true]using h
 intro x hx;obtain⟨i,hi⟩:=List.getElem?_of_mem hx;exact hq i x hi (h' i (TC hi))
theorem aeZ{d:bg.T}(h:mF bg d)(hl:wV d):Fit (dS d):=by
 obtain⟨a1,a2,a3,a4,a5,a6,a7,a8,_⟩:=h;obtain⟨b1,b2,b3,b4,b5,b6,b7,b8⟩:=hl;have lat3:kp (α:=ae.T) (fun x=>cR x.1/\cR x.2.1/\cR x.2.2.1) d.2.2.1:=fun x hx=>by have:=a3.2 x hx;exact⟨wf_i64 this.1,wf_i64 this.2.1,wf_i64 this.2.2.1⟩
 have and3:kp (α:=ae.T) (fun x=>cR x.1/\cR x.2.1/\cR x.2.2.1) d.2.2.2.2.2.2.2.1:=fun x hx=>by have:=a8.2 x hx;exact⟨wf_i64 this.1,wf_i64 this.2.1,wf_i64 this.2.2.1⟩
 refine⟨wf_i64 a1,⟨Nat.le_trans b1 (by decide),qS a2⟩,⟨?_,?_⟩,⟨Nat.le_trans b4 (by decide),qS a4⟩,⟨Nat.le_trans b5 (by decide),qS a5⟩,⟨Nat.le_trans b6 (by decide),qS a6⟩,⟨?_,?_⟩,⟨?_,?_⟩⟩
 .exact uM j8 _ b2 (by decide)
 .intro l hl;obtain⟨x,hx,rfl⟩:=List.mem_map.1 hl;exact lat3 x hx
 .exact uM mW _ b7 (by decide)
 .intro m hm;obtain⟨x,hx,rfl⟩:=List.mem_map.1 hm;have hQ:=Hv (α:=Unit) (σ:=ab) (Q:=fun x=>List.length x.2.2.2.1<=6/\List.length x.2.2.2.2.1<=6/\@LE.le Int _ x.2.1 100/\(List.range (List.length x.2.2.2.1)).all (pF x.2.2.2.1)=true/\(List.range (List.length x.2.2.2.2.1)).all (pG x.2.2.2.2.1)=true) b8 (fun i x hi hp=>by unfold p4 kO kP nN at hp;rw[bn (σ:=ab) hi]at hp;simp only[Bool.and_eq_true,decide_eq_true_eq]at hp;exact⟨hp.1.1.1.1,hp.1.1.1.2,hp.1.1.2,hp.1.2,hp.2⟩) x hx;obtain⟨c1,c2,c3,c4,c5⟩:=hQ;refine adS (a7.2 x hx) c1 c2 c3 ?_ ?_
  .exact Hv (α:=Unit) (σ:=bO) c4 (fun i r hi hp=>by unfold pF ux nR at hp;rw[bn (σ:=bO) hi]at hp;simp only[Bool.and_eq_true,decide_eq_true_eq]at hp;exact⟨hp.1.1,hp.1.2,hp.2⟩)
  .exact Hv (α:=Unit) (σ:=bE) c5 (fun i r hi hp=>by unfold pG uF uE at hp;rw[bn (σ:=bE) hi]at hp;simp only[Bool.and_eq_true,decide_eq_true_eq]at hp;exact hp)
 .exact uM mS _ b3 (by decide)
 .intro l hl;obtain⟨x,hx,rfl⟩:=List.mem_map.1 hl;exact and3 x hx
