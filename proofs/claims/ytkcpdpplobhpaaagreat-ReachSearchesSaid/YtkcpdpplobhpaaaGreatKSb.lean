import Derived.Test.YtkcpdpplobhpaaaGreatKSa
import Derived.Test.YtkcpdpplobhpaaaGreatKNe
set_option linter.unusedVariables false
set_option linter.unusedSimpArgs false
set_option linter.unnecessarySimpa false
section
namespace Go.Proofs.YtkcpdpplobhpaaaGreat.V
open Go Go.RowKit
theorem mD{D O:Type}{B:D->Option (D⊕O)}(f:Nat->D)(p:Nat->Bool){bad good:O}(n:Nat)(hs:∀i,i<n->p i=true->B (f i)=some (.inl (f (i+1))))(hf:∀i,i<n->p i=false->B (f i)=some (.inr bad))
  (he:B (f n)=some (.inr good)) {d:D}(hd:d=f 0) {N:Nat}(hN:n<N):aQ B N d=some (match(List.range n).all p with|true=>good|false=>bad):=by
 subst hd;have hall:((List.range n).all p=true↔∀i,i<n->p i=true):=by simp[List.all_eq_true]
 have main:∀k i,i+k=n->(∀j,j<i->p j=true)->∀N,k<N->aQ B N (f i)=some (match(List.range n).all p with|true=>good|false=>bad):=by
  intro k
  induction k with
  |zero=>
   intro i hi hp N hN;have:i=n:=by omega
   subst this;obtain⟨N,rfl⟩:∃M,N=M+1:=⟨N-1,by omega⟩;rw[hall.2 hp];simp only[aQ,he]
  |succ k ih=>
   intro i hi hp N hN;obtain⟨N,rfl⟩:∃M,N=M+1:=⟨N-1,by omega⟩;cases hq:p i with
   |true=>
    simp only[aQ,hs i (by omega) hq];exact ih (i+1) (by omega) (fun j hj=>by
     by_cases e:j=i
     .subst e;exact hq
     .exact hp j (by omega)) N (by omega)
   |false=>
    have hz:(List.range n).all p=false:=by cases hz:(List.range n).all p with|false=>rfl|true=>have:=hall.1 hz i (by omega);rw[hq]at this;cases this
    simp only[aQ,hf i (by omega) hq,hz]
 exact main n 0 (by omega) (fun j hj=>by omega) N hN
def jn(v w:Int):Bool:=decide (v / 2^w.toNat=0)
theorem uF{v w:Int}(hw:0<=w/\w<=64):Fp (v,(w,()))=some (jn v w,()):=by
 have hb:Fv (w,())=some (w,()):=by
  show xT w=_;unfold xT;have h1:dj (decide ((64:Int)<w)) (64:Int) w=w:=by unfold dj;rw[bU (by omega)]
  have h2:dj (decide (w<(0:Int))) (0:Int) w=w:=by unfold dj;rw[bU (by omega)]
  show some (dj (decide (dj (decide ((64:Int)<w)) (64:Int) w<0)) 0 (dj (decide ((64:Int)<w)) (64:Int) w),())=_;rw[h1,h2]
 show QY Fv v w=_;unfold QY;refine(cw hb).trans (ai (ak hw.1) ?_);unfold jn;have hm:min w.toNat 64=w.toNat:=by omega
 show some (decide (Int.fdiv v (2^(min w.toNat 64))=0),())=_;rw[hm,Int.fdiv_eq_ediv_of_nonneg _ (Int.pow_nonneg (by decide))]
theorem jU{x:Int}(h:0<=x/\x<=18446744073709551615):IntKind.wrap (.u64:IntKind) x=x:=by unfold IntKind.wrap;simp[IntKind.bits,IntKind.signed];omega
theorem uD{v w:Int}(hv:0<=v/\v<=18446744073709551615)(hw:0<=w/\w<=64):rM (v,(w,()))=some (jn v w,()):=by
 obtain⟨W,rfl⟩:=Int.eq_ofNat_of_zero_le hw.1;have hL:Zf0 (v,((W:Int),((0:Int),())))=some (v / 2^W,()):=by
  unfold Zf0;delta u3;refine cu (fun k:Nat=>(v / 2^k,((W:Int),((k:Int),())))) W (by rw[Int.pow_zero,Int.ediv_one];rfl) ?_ ?_ (bt (by omega))
  .intro k hk;have h0:0<=v / 2^k:=Int.ediv_nonneg hv.1 (Int.pow_nonneg (by decide));have h1:v / 2^k<=v:=Int.ediv_le_self _ hv.1
   try dsimp only
   unfold Fh;have hsel:aV true (@decide _ (Int.decLt (k:Int) (64:Int))) false=decide ((k:Int)<64):=by unfold aV;cases decide ((k:Int)<64)<;>rfl
   rw[je (ak (by omega)),hsel,je (ak (by omega))];rw[Int.tdiv_eq_ediv_of_nonneg h0,jU ⟨Int.ediv_nonneg h0 (by decide),by omega⟩,bZ (x:=(k:Int)+1) (by omega),Int.ediv_ediv_of_nonneg (Int.pow_nonneg (by decide)),<-Int.pow_succ];rfl
  .try dsimp only
   unfold Fh;rw[gb (aA (by omega))];rfl
 exact af hL rfl
def eJ(L:List ar.T)(i:Int):Int:=(gt ar L i).1
def i7(L:List ar.T)(i:Int):Int:=(gt ar L i).2.1
def jB(a w:Int)(L:List ar.T)(i:Nat):Bool:=!decide (i7 L (i:Int)=0)&&jn (eJ L (i:Int)) a&&jn (i7 L (i:Int)) w&&(decide (i=0)||decide (eJ L ((i:Int)-1)<eJ L (i:Int)))
def jj(a w:Int)(L:List ar.T):Bool:=decide (1<=a)&&decide (a<=62)&&decide (1<=w)&&decide (w<=64)&&decide (L.length<=4096)&&(List.range L.length).all (jB a w L)
theorem Zzj{a w:Int}(ha:1<=a/\a<=62)(hw:1<=w/\w<=64)(L:List ar.T)(hl:L.length<=4096) :
  Qx (a,(w,(L,(L,((L.length:Int),((0:Int),()))))))=some (match(List.range L.length).all (jB a w L)with|true=>.inr ()|false=>.inl (false,())):=by
 unfold Qx;delta u6;refine mD (fun i:Nat=>(a,(w,(L,(L,((L.length:Int),((i:Int),()))))))) (jB a w L) L.length ?_ ?_ ?_ rfl (bt (by omega))
 .intro i hi hp;unfold jB at hp;simp only[Bool.and_eq_true,Bool.not_eq_true',decide_eq_false_iff_not]at hp;obtain⟨⟨⟨h1,h2⟩,h3⟩,h4⟩:=hp;have e1:=uF (v:=eJ L (i:Int)) (w:=a) ⟨by omega,by omega⟩;have e2:=uF (v:=i7 L (i:Int)) (w:=w) ⟨by omega,by omega⟩
  try dsimp only
  unfold xR;refine ao (ak (show(i:Int)<(L.length:Int) by omega)) (ai (aK ⟨by omega,by omega⟩) (ag (aA h1) ((cw e1).trans (ag (by rw[h2];rfl) ((cw e2).trans (ag (by rw[h3];rfl) ?_))))));have e:∀p q:Int,p=q->(some (.inl (a,(w,(L,(L,((L.length:Int),(p,()))))))):Option (TL Ff.σs⊕Out E4))=some (.inl (a,(w,(L,(L,((L.length:Int),(q,()))))))):=by rintro _ _ rfl;rfl
  by_cases h0:i=0
  .exact ag (aA (show ¬(0:Int)<(i:Int) by omega)) (e _ _ (bZ (x:=(i:Int)+1) (by omega)))
  .have hm:IntKind.wrap (.i64:IntKind) ((i:Int)-1)=(i:Int)-1:=bZ (by omega);rw[hm];simp only[Bool.or_eq_true,decide_eq_true_eq]at h4;refine ao (ak (show(0:Int)<(i:Int) by omega)) (ai (aK ⟨by omega,by omega⟩) (ag (aA (show ¬eJ L (i:Int)<=eJ L ((i:Int)-1) by omega)) (e _ _ (bZ (x:=(i:Int)+1) (by omega)))))
 .intro i hi hp
  try dsimp only
  unfold xR;refine ao (ak (show(i:Int)<(L.length:Int) by omega)) (ai (aK ⟨by omega,by omega⟩) ?_);by_cases h1:i7 L (i:Int)=0
  .exact ao (ak h1) rfl
  refine ag (aA h1) ?_;have e1:=uF (v:=eJ L (i:Int)) (w:=a) ⟨by omega,by omega⟩;have e2:=uF (v:=i7 L (i:Int)) (w:=w) ⟨by omega,by omega⟩;refine(cw e1).trans ?_;cases h2:jn (eJ L (i:Int)) a with|false=>exact ao rfl rfl|true=>refine ag rfl ((cw e2).trans ?_);cases h3:jn (i7 L (i:Int)) w with|false=>exact ao rfl rfl|true=>refine ag rfl ?_;unfold jB at hp;rw[bU h1,h2,h3]at hp;simp only[Bool.not_false,Bool.and_self,Bool.true_and,Bool.or_eq_false_iff,decide_eq_false_iff_not]at hp;have hm:IntKind.wrap (.i64:IntKind) ((i:Int)-1)=(i:Int)-1:=bZ (by omega);rw[hm];exact ao (ak (show(0:Int)<(i:Int) by omega)) (ai (aK ⟨by omega,by omega⟩) (ao (ak (show eJ L (i:Int)<=eJ L ((i:Int)-1) by omega)) rfl))
 .try dsimp only
  unfold xR;exact ag (aA (show ¬(L.length:Int)<(L.length:Int) by omega)) rfl
theorem aj8(a w:Int)(L:List ar.T):Zj4 (a,(w,(L,())))=some (jj a w L,()):=by
 show QR Fp Qx a w L=_;unfold QR jj;by_cases h1:a<1
 .rw[bU (show ¬1<=a by omega)];exact ao (ak h1) rfl
 rw[bg (show 1<=a by omega)];refine ag (aA h1) ?_;by_cases h2:62<a
 .rw[bU (show ¬a<=62 by omega)];exact ao (ak h2) rfl
 rw[bg (show a<=62 by omega)];refine ag (aA h2) ?_;by_cases h3:w<1
 .rw[bU (show ¬1<=w by omega)];exact ao (ak h3) rfl
 rw[bg (show 1<=w by omega)];refine ag (aA h3) ?_;by_cases h4:64<w
 .rw[bU (show ¬w<=64 by omega)];exact ao (ak h4) rfl
 rw[bg (show w<=64 by omega)];refine ag (aA h4) ?_;by_cases h5:(4096:Int)<(L.length:Int)
 .rw[bU (show ¬L.length<=4096 by omega)];exact ao (ak h5) rfl
 rw[bg (show L.length<=4096 by omega)];refine ag (aA h5) ((cw (Zzj ⟨by omega,by omega⟩ ⟨by omega,by omega⟩ L (by omega))).trans ?_);cases(List.range L.length).all (jB a w L)<;>rfl
def qz(L:List ar.T):Prop:=∀i:Nat,i<L.length->(0<=eJ L (i:Int)/\eJ L (i:Int)<=18446744073709551615)/\(0<=i7 L (i:Int)/\i7 L (i:Int)<=18446744073709551615)
theorem Zzg{a w:Int}(ha:1<=a/\a<=62)(hw:1<=w/\w<=64)(L:List ar.T)(hl:L.length<=4096)(hok:qz L) :
  PR (a,(w,(L,((0:Int),()))))=some (match(List.range L.length).all (jB a w L)with|true=>.inr ()|false=>.inl (false,())):=by
 unfold PR;delta u4;refine mD (fun i:Nat=>(a,(w,(L,((i:Int),()))))) (jB a w L) L.length ?_ ?_ ?_ rfl (bt (by omega))
 .intro i hi hp;unfold jB at hp;simp only[Bool.and_eq_true,Bool.not_eq_true',decide_eq_false_iff_not]at hp;obtain⟨⟨⟨h1,h2⟩,h3⟩,h4⟩:=hp;have e1:=uD (v:=eJ L (i:Int)) (w:=a) (hok i hi).1 ⟨by omega,by omega⟩;have e2:=uD (v:=i7 L (i:Int)) (w:=w) (hok i hi).2 ⟨by omega,by omega⟩;have aY:aq (i:Int) (List.length L)=true:=aK ⟨by omega,by omega⟩
  try dsimp only
  unfold xD;refine ao (ak (show(i:Int)<(L.length:Int) by omega)) ?_;have e:∀p q:Int,p=q->(some (.inl (a,(w,(L,(p,()))))):Option (TL EJ.σs⊕Out EC))=some (.inl (a,(w,(L,(q,()))))):=by rintro _ _ rfl;rfl
  by_cases h0:i=0
  .exact ag (aA (show ¬(0:Int)<(i:Int) by omega)) (ai aY ((cw e1).trans (ag (by rw[h2];rfl) (ai aY ((cw e2).trans (ag (by rw[h3];rfl) (ai aY (ag (aA h1) (e _ _ (bZ (x:=(i:Int)+1) (by omega)))))))))))
  .have hm:IntKind.wrap (.i64:IntKind) ((i:Int)-1)=(i:Int)-1:=bZ (by omega);rw[hm];simp only[Bool.or_eq_true,decide_eq_true_eq]at h4;refine ao (ak (show(0:Int)<(i:Int) by omega)) (ai aY (ai (aK ⟨by omega,by omega⟩) (ag (aA (show ¬eJ L (i:Int)<=eJ L ((i:Int)-1) by omega)) ?_)));exact ai aY ((cw e1).trans (ag (by rw[h2];rfl) (ai aY ((cw e2).trans (ag (by rw[h3];rfl) (ai aY (ag (aA h1) (e _ _ (bZ (x:=(i:Int)+1) (by omega))))))))))
 .intro i hi hp;have aY:aq (i:Int) (List.length L)=true:=aK ⟨by omega,by omega⟩;have e1:=uD (v:=eJ L (i:Int)) (w:=a) (hok i hi).1 ⟨by omega,by omega⟩;have e2:=uD (v:=i7 L (i:Int)) (w:=w) (hok i hi).2 ⟨by omega,by omega⟩
  try dsimp only
  unfold xD;refine ao (ak (show(i:Int)<(L.length:Int) by omega)) ?_;unfold jB at hp;by_cases h0:i=0
  .refine ag (aA (show ¬(0:Int)<(i:Int) by omega)) (ai aY ((cw e1).trans ?_));cases h2:jn (eJ L (i:Int)) a with
   |false=>exact ao rfl rfl|true=>
    refine ag rfl (ai aY ((cw e2).trans ?_));cases h3:jn (i7 L (i:Int)) w with
    |false=>exact ao rfl rfl|true=>
     by_cases h1:i7 L (i:Int)=0
     .exact ag rfl (ai aY (ao (ak h1) rfl))
     .rw[bU h1,h2,h3,bg h0]at hp;cases hp
  .have hm:IntKind.wrap (.i64:IntKind) ((i:Int)-1)=(i:Int)-1:=bZ (by omega);rw[hm];refine ao (ak (show(0:Int)<(i:Int) by omega)) (ai aY (ai (aK ⟨by omega,by omega⟩) ?_));by_cases h4:eJ L (i:Int)<=eJ L ((i:Int)-1)
   .exact ao (ak h4) rfl
   refine ag (aA h4) (ai aY ((cw e1).trans ?_));cases h2:jn (eJ L (i:Int)) a with
   |false=>exact ao rfl rfl|true=>
    refine ag rfl (ai aY ((cw e2).trans ?_));cases h3:jn (i7 L (i:Int)) w with
    |false=>exact ao rfl rfl|true=>
     by_cases h1:i7 L (i:Int)=0
     .exact ag rfl (ai aY (ao (ak h1) rfl))
     .rw[bU h1,h2,h3,bU h0,bg (show eJ L ((i:Int)-1)<eJ L (i:Int) by omega)]at hp;cases hp
 .try dsimp only
  unfold xD;exact ag (aA (show ¬(L.length:Int)<(L.length:Int) by omega)) rfl
theorem Zwj(a w:Int)(L:List ar.T)(hok:qz L):Zdq (a,(w,(L,())))=some (jj a w L,()):=by
 show Qg rM PR a w L=_;unfold Qg jj;by_cases h1:a<1
 .rw[bU (show ¬1<=a by omega)];exact ao (ak h1) rfl
 rw[bg (show 1<=a by omega)];refine ag (aA h1) ?_;by_cases h2:62<a
 .rw[bU (show ¬a<=62 by omega)];exact ao (ak h2) rfl
 rw[bg (show a<=62 by omega)];refine ag (aA h2) ?_;by_cases h3:w<1
 .rw[bU (show ¬1<=w by omega)];exact ao (ak h3) rfl
 rw[bg (show 1<=w by omega)];refine ag (aA h3) ?_;by_cases h4:64<w
 .rw[bU (show ¬w<=64 by omega)];exact ao (ak h4) rfl
 rw[bg (show w<=64 by omega)];refine ag (aA h4) ?_;by_cases h5:(4096:Int)<(L.length:Int)
 .rw[bU (show ¬L.length<=4096 by omega)];exact ao (ak h5) rfl
 rw[bg (show L.length<=4096 by omega)];refine ag (aA h5) ((cw (Zzg ⟨by omega,by omega⟩ ⟨by omega,by omega⟩ L (by omega) hok)).trans ?_);cases(List.range L.length).all (jB a w L)<;>rfl
theorem Xg{α:Type}{l:List α}{i:Nat}{x:α}(h:l[i]?=some x):i<l.length:=by
 rcases Nat.lt_or_ge i l.length with q|q
 .exact q
 .rw[List.getElem?_eq_none q]at h;cases h
theorem akn{α:Type}{l:List α}{i:Nat}{x:α}(h:l[i]?=some x):l.take (i+1)=l.take i++[x]:=by rw[List.take_add_one,h];rfl
theorem WG{σ:Sh}{k:Int}{v:σ.T}:∀{M:dp σ},(∀p∈M,p.1<k)->dR k v M=M++[(k,v,())]
 |[],_=>rfl|p::M,h=>by have hp:=h p (by simp);rw[dR,bU (show ¬k<p.1 by omega),bU (show ¬p.1=k by omega)];simp only[];rw[WG (fun q hq=>h q (by simp[hq]))];rfl
theorem WY{a w:Int}{L:List ar.T}(h:(List.range L.length).all (jB a w L)=true):∀i,i<L.length->∀j,j<i->eJ L (j:Int)<eJ L (i:Int):=by
 have h':∀i,i<L.length->jB a w L i=true:=by simpa[List.all_eq_true]using h
 intro i
 induction i with
 |zero=>intro _ j hj;omega|succ i ih=>
  intro hi j hj;have hc:=h' (i+1) hi;unfold jB at hc;simp only[Bool.and_eq_true,Bool.or_eq_true,decide_eq_true_eq]at hc;have h4:=hc.2;have e:(((i+1:Nat):Int)-1)=(i:Int):=by omega
  rw[e]at h4;have h5:eJ L (i:Int)<eJ L ((i+1:Nat):Int):=by omega
  by_cases q:j=i
  .subst q;exact h5
  .have:=ih (by omega) j (by omega);omega
theorem RH(a w:Int)(L:List ar.T):xL (a,(w,(L,())))=some (match jj a w L with|true=>.inr ((0:Int),(a,(w,(L,()))))|false=>.inl ((14:Int),())):=by
 have e1:=aj8 a w L;show Q0 Zj4 Qz a w L=_;unfold Q0;refine(cw e1).trans ?_;cases hr:jj a w L with
 |false=>exact ao rfl rfl|true=>
  refine ag rfl ?_;unfold jj at hr;simp only[Bool.and_eq_true,decide_eq_true_eq]at hr;obtain⟨⟨_,hl⟩,hall⟩:=hr;have hs:=WY hall;have eL:Qz (L,((L.length:Int),((0:Int),(a,(w,([],()))))))=some (a,(w,(L,()))):=by
   unfold Qz;delta u6;refine cu (fun i:Nat=>(L,((L.length:Int),((i:Int),(a,(w,(L.take i,()))))))) L.length rfl ?_ ?_ (bt (by omega))
   .intro i hi;have hc:=aT hi
    try dsimp only
    unfold FH;refine ao (ak (show(i:Int)<(L.length:Int) by omega)) (ai (aK ⟨by omega,by omega⟩) ?_);have e:∀(p q:Int) (M M':dp (.int .u64)),p=q->M=M'->(some (.inl (L,((L.length:Int),(p,(a,(w,(M,()))))))):Option (TL Fo.σs⊕Out Fg))=some (.inl (L,((L.length:Int),(q,(a,(w,(M',()))))))):=by rintro _ _ _ _ rfl rfl;rfl
    refine e _ _ _ _ (bZ (x:=(i:Int)+1) (by omega)) ?_;rw[aZ (σ:=ar) hc];have hlast:=WG (σ:=.int .u64) (k:=L[i].1) (v:=L[i].2.1) (M:=L.take i) (fun p hp=>by
     obtain⟨j,hj⟩:=List.getElem?_of_mem hp;have hjl:j<i:=Nat.lt_of_lt_of_le (Xg hj) (List.length_take_le i L);have hj:(L:List ar.T)[j]?=some p:=by rw[<-hj];exact(List.getElem?_take_of_lt hjl).symm
     have:=hs i hi j hjl;unfold eJ at this;rw[aZ (σ:=ar) hj,aZ (σ:=ar) hc]at this;exact this)
    refine hlast.trans ?_;exact(akn hc).symm
   .try dsimp only
    unfold FH;refine ag (aA (show ¬(L.length:Int)<(L.length:Int) by omega)) ?_;rw[dt];rfl
  exact af eL rfl
def j6(T:List ab.T)(cs:List (List ar.T))(i:Nat):Bool:=jj (gt ab T (i:Int)).1 (gt ab T (i:Int)).2.1 (gt (.sl ar) cs (i:Int))
def We(T:List ab.T)(cs:List (List ar.T))(i:Nat):dB:=nP (gt ab T (i:Int)).1 (gt ab T (i:Int)).2.1 (gt (.sl ar) cs (i:Int))
def kQ(T:List ab.T)(cs:List (List ar.T))(k:Nat):List dB:=(List.range k).map (We T cs)
theorem ak1(T:List ab.T)(aF:List Bool)(cs:List (List ar.T))(hT:T.length<=100000)(hc:cs.length=T.length) :
  Qy (T,((T.length:Int),((0:Int),(aF,(cs,([],()))))))=some (match(List.range T.length).all (j6 T cs)with|true=>.inr (kQ T cs T.length,())|false=>.inl ((14:Int),())):=by
 unfold Qy;delta u6;refine mD (fun i:Nat=>(T,((T.length:Int),((i:Int),(aF,(cs,(kQ T cs i,()))))))) (j6 T cs) T.length ?_ ?_ ?_ rfl (bt (by omega))
 .intro i hi hp;have e1:=RH (gt ab T (i:Int)).1 (gt ab T (i:Int)).2.1 (gt (.sl ar) cs (i:Int));have hp':jj (gt ab T (i:Int)).1 (gt ab T (i:Int)).2.1 (gt (.sl ar) cs (i:Int))=true:=hp;rw[hp']at e1;have hlen:(kQ T cs i).length=i:=by unfold kQ;simp
  try dsimp only
  unfold xU;refine ao (ak (show(i:Int)<(T.length:Int) by omega)) (ai (aK ⟨by omega,by omega⟩) (ai (aK ⟨by omega,by omega⟩) ((cw e1).trans (ag rfl (ai (pj (L:=kQ T cs i) (by rw[hlen];omega) (by decide)) ?_)))));have e:∀(p q:Int) (M M':List dB),p=q->M=M'->(some (.inl (T,((T.length:Int),(p,(aF,(cs,(M,()))))))):Option (TL Fl.σs⊕Out Fb))=some (.inl (T,((T.length:Int),(q,(aF,(cs,(M',()))))))):=by rintro _ _ _ _ rfl rfl;rfl
  refine e _ _ _ _ (bZ (x:=(i:Int)+1) (by omega)) ?_;show kQ T cs i++[We T cs i]=kQ T cs (i+1);unfold kQ;rw[List.range_succ,dV];rfl
 .intro i hi hp;have e1:=RH (gt ab T (i:Int)).1 (gt ab T (i:Int)).2.1 (gt (.sl ar) cs (i:Int));have hp':jj (gt ab T (i:Int)).1 (gt ab T (i:Int)).2.1 (gt (.sl ar) cs (i:Int))=false:=hp;rw[hp']at e1
  try dsimp only
  unfold xU;exact ao (ak (show(i:Int)<(T.length:Int) by omega)) (ai (aK ⟨by omega,by omega⟩) (ai (aK ⟨by omega,by omega⟩) ((cw e1).trans (ai rfl rfl))))
 .try dsimp only
  unfold xU;exact ag (aA (show ¬(T.length:Int)<(T.length:Int) by omega)) rfl
def gk(d:ba.T)(s:cr.T):Bool:=decide (s.1.length=d.2.2.1.length)&&decide (s.2.1.length=d.2.2.2.2.2.2.1.length)&&(List.range d.2.2.2.2.2.2.1.length).all (j6 d.2.2.2.2.2.2.1 s.2.1)
theorem acT(d:ba.T)(s:cr.T)(hT:d.2.2.2.2.2.2.1.length<=100000) :
  Zq8 (d.1,(d.2.1,(d.2.2.1,(d.2.2.2.1,(d.2.2.2.2.1,(d.2.2.2.2.2.1,(d.2.2.2.2.2.2.1,(d.2.2.2.2.2.2.2.1,(s.1,(s.2.1,())))))))))) =
   some (match gk d s with|true=>((0:Int),(kQ d.2.2.2.2.2.2.1 s.2.1 d.2.2.2.2.2.2.1.length,()))|false=>((14:Int),([],()))):=by
 show QZ xL Qy d.1 d.2.1 d.2.2.1 d.2.2.2.1 d.2.2.2.2.1 d.2.2.2.2.2.1 d.2.2.2.2.2.2.1 d.2.2.2.2.2.2.2.1 s.1 s.2.1=_;unfold QZ gk;by_cases h1:s.1.length=d.2.2.1.length
 .rw[bg h1];have q1:Bool.not (decide (Int.ofNat (List.length s.1)=Int.ofNat (List.length d.2.2.1)))=false:=by rw[bg (by rw[h1])];rfl
  refine ag q1 ?_;by_cases h2:s.2.1.length=d.2.2.2.2.2.2.1.length
  .rw[bg h2];have q2:Bool.not (decide (Int.ofNat (List.length s.2.1)=Int.ofNat (List.length d.2.2.2.2.2.2.1)))=false:=by rw[bg (by rw[h2])];rfl
   refine ag q2 ((cw (ak1 d.2.2.2.2.2.2.1 s.1 s.2.1 hT h2)).trans ?_);cases(List.range d.2.2.2.2.2.2.1.length).all (j6 d.2.2.2.2.2.2.1 s.2.1)<;>rfl
  .rw[bU h2];have q2:Bool.not (decide (Int.ofNat (List.length s.2.1)=Int.ofNat (List.length d.2.2.2.2.2.2.1)))=true:=by rw[bU (fun e=>h2 (Int.ofNat.inj e))];rfl
   exact ao q2 rfl
 .rw[bU h1];have q1:Bool.not (decide (Int.ofNat (List.length s.1)=Int.ofNat (List.length d.2.2.1)))=true:=by rw[bU (fun e=>h1 (Int.ofNat.inj e))];rfl
  exact ao q1 rfl
def j5(d:ba.T)(s:cr.T):Int:=if Pl.dD (fx d)≠0 then Pl.dD (fx d)else match gk d s with|true=>0|false=>14
theorem Zy6(d:ba.T)(s:cr.T)(ft:Fit (fx d))(hT:d.2.2.2.2.2.2.1.length<=100000):Zhp (d,(s,()))=some (j5 d s,()):=by
 have e1:=ur ft;rw[FJ]at e1;have e2:=acT d s hT;unfold j5;by_cases h:Pl.dD (fx d)=0
 .rw[if_neg (by simpa using h)];refine af e1 (ag (by rw[h];rfl) (af e2 ?_));cases gk d s<;>rfl
 .rw[if_pos h];exact af e1 (ao (by simp[h]) rfl)
def px(cs:List (List ar.T)):Prop:=∀c∈cs,qz c
theorem ajO(d:ba.T)(aF:List Bool)(cs:List (List ar.T))(hT:d.2.2.2.2.2.2.1.length<=100000)(hc:cs.length=d.2.2.2.2.2.2.1.length)(hok:px cs) :
  Zew ((0:Int),(d.1,(d.2.1,(d.2.2.1,(d.2.2.2.1,(d.2.2.2.2.1,(d.2.2.2.2.2.1,(d.2.2.2.2.2.2.1,(d.2.2.2.2.2.2.2.1,(aF,(cs,()))))))))))) =
   some (match(List.range d.2.2.2.2.2.2.1.length).all (j6 d.2.2.2.2.2.2.1 cs)with|true=>.inr ()|false=>.inl ((14:Int),())):=by
 have hok':∀i:Nat,i<d.2.2.2.2.2.2.1.length->qz (gt (.sl ar) cs (i:Int)):=by intro i hi;have hg:=List.getElem?_eq_getElem (l:=cs) (i:=i) (by omega);rw[aZ (σ:=.sl ar) hg];exact hok _ (List.getElem_mem (by omega))
 unfold Zew;delta jl;refine mD (fun i:Nat=>((i:Int),(d.1,(d.2.1,(d.2.2.1,(d.2.2.2.1,(d.2.2.2.2.1,(d.2.2.2.2.2.1,(d.2.2.2.2.2.2.1,(d.2.2.2.2.2.2.2.1,(aF,(cs,())))))))))))) (j6 d.2.2.2.2.2.2.1 cs) d.2.2.2.2.2.2.1.length ?_ ?_ ?_ rfl (bt (by omega))
 .intro i hi hp;have e1:=Zwj (gt ab d.2.2.2.2.2.2.1 (i:Int)).1 (gt ab d.2.2.2.2.2.2.1 (i:Int)).2.1 (gt (.sl ar) cs (i:Int)) (hok' i hi);have hp':jj (gt ab d.2.2.2.2.2.2.1 (i:Int)).1 (gt ab d.2.2.2.2.2.2.1 (i:Int)).2.1 (gt (.sl ar) cs (i:Int))=true:=hp;rw[hp']at e1
  try dsimp only
  unfold xF;have e:∀(p q:Int),p=q->(some (.inl (p,(d.1,(d.2.1,(d.2.2.1,(d.2.2.2.1,(d.2.2.2.2.1,(d.2.2.2.2.2.1,(d.2.2.2.2.2.2.1,(d.2.2.2.2.2.2.2.1,(aF,(cs,())))))))))))):Option (TL EO.σs⊕Out EI))=some (.inl (q,(d.1,(d.2.1,(d.2.2.1,(d.2.2.2.1,(d.2.2.2.2.1,(d.2.2.2.2.2.1,(d.2.2.2.2.2.2.1,(d.2.2.2.2.2.2.2.1,(aF,(cs,())))))))))))):=by rintro _ _ rfl;rfl
  exact ao (ak (show(i:Int)<(d.2.2.2.2.2.2.1.length:Int) by omega)) (ai (aK ⟨by omega,by omega⟩) (ai (aK ⟨by omega,by omega⟩) (ai (aK ⟨by omega,by omega⟩) ((cw e1).trans (ag rfl (e _ _ (bZ (x:=(i:Int)+1) (by omega))))))))
 .intro i hi hp;have e1:=Zwj (gt ab d.2.2.2.2.2.2.1 (i:Int)).1 (gt ab d.2.2.2.2.2.2.1 (i:Int)).2.1 (gt (.sl ar) cs (i:Int)) (hok' i hi);have hp':jj (gt ab d.2.2.2.2.2.2.1 (i:Int)).1 (gt ab d.2.2.2.2.2.2.1 (i:Int)).2.1 (gt (.sl ar) cs (i:Int))=false:=hp;rw[hp']at e1
  try dsimp only
  unfold xF;exact ao (ak (show(i:Int)<(d.2.2.2.2.2.2.1.length:Int) by omega)) (ai (aK ⟨by omega,by omega⟩) (ai (aK ⟨by omega,by omega⟩) (ai (aK ⟨by omega,by omega⟩) ((cw e1).trans (ao rfl rfl)))))
 .try dsimp only
  unfold xF;exact ag (aA (show ¬(d.2.2.2.2.2.2.1.length:Int)<(d.2.2.2.2.2.2.1.length:Int) by omega)) rfl
theorem Zya(d:ba.T)(s:cr.T)(ft:Fit (fx d))(hT:d.2.2.2.2.2.2.1.length<=100000)(hok:px s.2.1):Zbn (d,(s,()))=some (j5 d s,()):=by
 have e1:=Ge ft;rw[FJ]at e1;unfold j5;by_cases h:Pl.dD (fx d)=0
 .rw[if_neg (by simpa using h)];refine af e1 (ag (by rw[h];rfl) ?_);unfold gk;by_cases h1:s.1.length=d.2.2.1.length
  .rw[bg h1];have q1:Bool.not (decide (Int.ofNat (List.length s.1)=Int.ofNat (List.length d.2.2.1)))=false:=by rw[bg (by rw[h1])];rfl
   refine ag q1 ?_;by_cases h2:s.2.1.length=d.2.2.2.2.2.2.1.length
   .rw[bg h2];have q2:Bool.not (decide (Int.ofNat (List.length s.2.1)=Int.ofNat (List.length d.2.2.2.2.2.2.1)))=false:=by rw[bg (by rw[h2])];rfl
    refine ag q2 ((cw (ajO d s.1 s.2.1 hT h2 hok)).trans ?_);cases(List.range d.2.2.2.2.2.2.1.length).all (j6 d.2.2.2.2.2.2.1 s.2.1)<;>rfl
   .rw[bU h2];have q2:Bool.not (decide (Int.ofNat (List.length s.2.1)=Int.ofNat (List.length d.2.2.2.2.2.2.1)))=true:=by rw[bU (fun e=>h2 (Int.ofNat.inj e))];rfl
    exact ao q2 rfl
  .rw[bU h1];have q1:Bool.not (decide (Int.ofNat (List.length s.1)=Int.ofNat (List.length d.2.2.1)))=true:=by rw[bU (fun e=>h1 (Int.ofNat.inj e))];rfl
   exact ao q1 rfl
 .rw[if_pos h];exact af e1 (ao (by simp[h]) rfl)
def gm(d:List ae.T)(i:Int):Int:=(gt ae d i).2.2.1
def kZ(d:List ae.T)(k:Nat):List Bool:=(List.range k).map fun i=>decide (gm d ((i:Nat):Int)=1)
theorem akk(d:List ae.T)(k:Nat):kZ d (k+1)=kZ d k++[decide (gm d (k:Int)=1)]:=by unfold kZ;rw[List.range_succ,dV];rfl
theorem Rl(d:List ae.T)(k:Nat):(kZ d k).length=k:=by unfold kZ;simp
def nx{α:Type}(d:ba.T)(r:α):Int×List Int×List ae.T×List Int×List Int×List Int×List ab.T×List ae.T×α:=(d.1,(d.2.1,(d.2.2.1,(d.2.2.2.1,(d.2.2.2.2.1,(d.2.2.2.2.2.1,(d.2.2.2.2.2.2.1,(d.2.2.2.2.2.2.2.1,r))))))))
def jQ(d:ba.T):cr.T:=match decide (Pl.dD (fx d)=0)with|true=>(kZ d.2.2.1 d.2.2.1.length,(List.replicate d.2.2.2.2.2.2.1.length [],()))|false=>([],([],()))
theorem ajM(d:ba.T)(T:List ae.T)(hL:T.length<=100000):Zmt (T,((T.length:Int),((0:Int),nx d ([],()))))=some (nx d (kZ T T.length,())):=by
 unfold Zmt;delta iZ;refine cu (fun i:Nat=>(T,((T.length:Int),((i:Int),nx d (kZ T i,()))))) T.length rfl ?_ ?_ (bt (by omega))
 .intro i hi;unfold nx
  try dsimp only
  unfold FF;refine ao (ak (show(i:Int)<(T.length:Int) by omega)) (ai (aK ⟨by omega,by omega⟩) (ai (pj (L:=kZ T i) (by rw[Rl];omega) (by decide)) ?_));have e:∀(p q:Int) (M M':List Bool),p=q->M=M'->(some (.inl (T,((T.length:Int),(p,nx d (M,()))))):Option (TL Fm.σs⊕Out Fc))=some (.inl (T,((T.length:Int),(q,nx d (M',()))))):=by rintro _ _ _ _ rfl rfl;rfl
  exact e _ _ _ _ (bZ (x:=(i:Int)+1) (by omega)) (akk _ _).symm
 .unfold nx
  try dsimp only
  unfold FF;exact ag (aA (show ¬(T.length:Int)<(T.length:Int) by omega)) rfl
theorem apI{n:Nat}(h:n<=100000):both (decide ((0:Int)<=(n:Int))) (both (decide ((n:Int)<=(n:Int))) (decide ((24:Int)*(n:Int)<=281474976710656)))=true:=by rw[bg (by omega),bg (by omega),bg (by omega)];rfl
theorem ako(d:ba.T)(ft:Fit (fx d))(hL:d.2.2.1.length<=100000)(hT:d.2.2.2.2.2.2.1.length<=100000):Zqa (d,())=some (jQ d,()):=by
 have e1:=ur ft;rw[FJ]at e1;unfold jQ;by_cases h:Pl.dD (fx d)=0
 .rw[bg h];exact af e1 (ag (by rw[h];rfl) (af (ajM d d.2.2.1 hL) (ai (apI hT) rfl)))
 .rw[bU h];exact af e1 (ao (by simp[h]) rfl)
def vz(R:List cj.T)(i:Int):Nat:=List.length (gt cj R i).2.1
def oL(R:List cj.T)(i:Int):Int:=(gt cj R i).1
def qA(R:List cj.T)(i:Nat):Bool:=decide (vz R (i:Int)<=100)&&decide (oL R (i:Int)<=1099511627776)&&decide (-1099511627776<=oL R (i:Int))
def vI(R:List bI.T)(i:Int):Nat:=List.length (gt bI R i).2.1
def vH(R:List bI.T)(i:Int):Nat:=List.length (gt bI R i).2.2.1
def qC(R:List bI.T)(i:Nat):Bool:=decide (vI R (i:Int)<=100)&&decide (vH R (i:Int)<=100)
theorem XY(d:ba.T)(t a w:Int)(y:Bool)(R:List cj.T)(W:List bI.T)(hR:R.length<=100000) :
  PD (t,((0:Int),nx d (a,(w,(y,(R,(W,())))))))=some (match(List.range R.length).all (qA R)with|true=>.inr (t,nx d (a,(w,(y,(R,(W,()))))))|false=>.inl (false,())):=by
 unfold PD;delta fg;refine mD (fun i:Nat=>(t,((i:Int),nx d (a,(w,(y,(R,(W,())))))))) (qA R) R.length ?_ ?_ ?_ rfl (bt (by omega))
 .intro i hi hp;unfold qA at hp;simp only[Bool.and_eq_true,decide_eq_true_eq]at hp;obtain⟨⟨h1,h2⟩,h3⟩:=hp;have aY:aq (i:Int) (List.length R)=true:=aK ⟨by omega,by omega⟩;unfold nx
  try dsimp only
  unfold xB;have e:∀p q:Int,p=q->(some (.inl (t,(p,nx d (a,(w,(y,(R,(W,())))))))):Option (TL Er.σs⊕Out Em))=some (.inl (t,(q,nx d (a,(w,(y,(R,(W,())))))))):=by rintro _ _ rfl;rfl
  exact ao (ak (show(i:Int)<(R.length:Int) by omega)) (ai aY (ag (aA (show ¬(100:Int)<((vz R (i:Int):Nat):Int) by omega)) (ai aY (ag (aA (show ¬(1099511627776:Int)<oL R (i:Int) by omega)) (ai aY (ag (aA (show ¬oL R (i:Int)<Int.negSucc 1099511627775 by omega)) (e _ _ (bZ (x:=(i:Int)+1) (by omega)))))))))
 .intro i hi hp;have aY:aq (i:Int) (List.length R)=true:=aK ⟨by omega,by omega⟩;unfold nx
  try dsimp only
  unfold xB;refine ao (ak (show(i:Int)<(R.length:Int) by omega)) (ai aY ?_);by_cases h1:(100:Int)<((vz R (i:Int):Nat):Int)
  .exact ao (ak h1) rfl
  refine ag (aA h1) (ai aY ?_);by_cases h2:(1099511627776:Int)<oL R (i:Int)
  .exact ao (ak h2) rfl
  refine ag (aA h2) (ai aY ?_);by_cases h3:oL R (i:Int)<Int.negSucc 1099511627775
  .exact ao (ak h3) rfl
  unfold qA at hp;rw[bg (show vz R (i:Int)<=100 by omega),bg (show oL R (i:Int)<=1099511627776 by omega),bg (show -1099511627776<=oL R (i:Int) by omega)]at hp;cases hp
 .unfold nx
  try dsimp only
  unfold xB;exact ag (aA (show ¬(R.length:Int)<(R.length:Int) by omega)) rfl
theorem XX(d:ba.T)(t a w:Int)(y:Bool)(R:List cj.T)(W:List bI.T)(hW:W.length<=100000) :
  PC (t,((0:Int),nx d (a,(w,(y,(R,(W,())))))))=some (match(List.range W.length).all (qC W)with|true=>.inr (t,nx d ())|false=>.inl (false,())):=by
 unfold PC;delta fg;refine mD (fun i:Nat=>(t,((i:Int),nx d (a,(w,(y,(R,(W,())))))))) (qC W) W.length ?_ ?_ ?_ rfl (bt (by omega))
 .intro i hi hp;unfold qC at hp;simp only[Bool.and_eq_true,decide_eq_true_eq]at hp;obtain⟨h1,h2⟩:=hp;have aY:aq (i:Int) (List.length W)=true:=aK ⟨by omega,by omega⟩;unfold nx
  try dsimp only
  unfold xA;have e:∀p q:Int,p=q->(some (.inl (t,(p,nx d (a,(w,(y,(R,(W,())))))))):Option (TL Ep.σs⊕Out El))=some (.inl (t,(q,nx d (a,(w,(y,(R,(W,())))))))):=by rintro _ _ rfl;rfl
  exact ao (ak (show(i:Int)<(W.length:Int) by omega)) (ai aY (ag (aA (show ¬(100:Int)<((vI W (i:Int):Nat):Int) by omega)) (ai aY (ag (aA (show ¬(100:Int)<((vH W (i:Int):Nat):Int) by omega)) (e _ _ (bZ (x:=(i:Int)+1) (by omega)))))))
 .intro i hi hp;have aY:aq (i:Int) (List.length W)=true:=aK ⟨by omega,by omega⟩;unfold nx
  try dsimp only
  unfold xA;refine ao (ak (show(i:Int)<(W.length:Int) by omega)) (ai aY ?_);by_cases h1:(100:Int)<((vI W (i:Int):Nat):Int)
  .exact ao (ak h1) rfl
  refine ag (aA h1) (ai aY ?_);by_cases h2:(100:Int)<((vH W (i:Int):Nat):Int)
  .exact ao (ak h2) rfl
  unfold qC at hp;rw[bg (show vI W (i:Int)<=100 by omega),bg (show vH W (i:Int)<=100 by omega)]at hp;cases hp
 .unfold nx
  try dsimp only
  unfold xA;exact ag (aA (show ¬(W.length:Int)<(W.length:Int) by omega)) rfl
def lO(T:List ab.T)(i:Int):List cj.T:=(gt ab T i).2.2.2.1
def lP(T:List ab.T)(i:Int):List bI.T:=(gt ab T i).2.2.2.2.1
def oH(T:List ab.T)(i:Int):Int:=(gt ab T i).2.1
def p4(T:List ab.T)(i:Nat):Bool:=decide ((lO T (i:Int)).length<=6)&&decide ((lP T (i:Int)).length<=6)&&decide (oH T (i:Int)<=100) &&
 (List.range (lO T (i:Int)).length).all (qA (lO T (i:Int)))&&(List.range (lP T (i:Int)).length).all (qC (lP T (i:Int)))
theorem aiw(d:ba.T)(hT:d.2.2.2.2.2.2.1.length<=100000) :
  Zen ((0:Int),nx d ())=some (match(List.range d.2.2.2.2.2.2.1.length).all (p4 d.2.2.2.2.2.2.1)with|true=>.inr ()|false=>.inl (false,())):=by
 unfold Zen;delta u9;refine mD (fun i:Nat=>((i:Int),nx d ())) (p4 d.2.2.2.2.2.2.1) d.2.2.2.2.2.2.1.length ?_ ?_ ?_ rfl (bt (by omega))
 .intro i hi hp;unfold p4 at hp;simp only[Bool.and_eq_true,decide_eq_true_eq]at hp;obtain⟨⟨⟨⟨h1,h2⟩,h3⟩,h4⟩,h5⟩:=hp;have aY:aq (i:Int) (List.length d.2.2.2.2.2.2.1)=true:=aK ⟨by omega,by omega⟩;have e10:=XY d (i:Int) (gt ab d.2.2.2.2.2.2.1 (i:Int)).1 (oH d.2.2.2.2.2.2.1 (i:Int)) (gt ab d.2.2.2.2.2.2.1 (i:Int)).2.2.1 (lO d.2.2.2.2.2.2.1 (i:Int)) (lP d.2.2.2.2.2.2.1 (i:Int)) (by omega);have e15:=XX d (i:Int) (gt ab d.2.2.2.2.2.2.1 (i:Int)).1 (oH d.2.2.2.2.2.2.1 (i:Int)) (gt ab d.2.2.2.2.2.2.1 (i:Int)).2.2.1 (lO d.2.2.2.2.2.2.1 (i:Int)) (lP d.2.2.2.2.2.2.1 (i:Int)) (by omega);rw[h4]at e10;rw[h5]at e15;unfold nx at e10 e15 |-
  try dsimp only
  unfold xE;have e:∀p q:Int,p=q->(some (.inl (p,nx d ())):Option (TL EM.σs⊕Out EF))=some (.inl (q,nx d ())):=by rintro _ _ rfl;rfl
  exact ao (ak (show(i:Int)<(d.2.2.2.2.2.2.1.length:Int) by omega)) (ai aY (ag (aA (show ¬(6:Int)<(((lO d.2.2.2.2.2.2.1 (i:Int)).length:Nat):Int) by omega)) (ag (aA (show ¬(6:Int)<(((lP d.2.2.2.2.2.2.1 (i:Int)).length:Nat):Int) by omega)) (ag (aA (show ¬(100:Int)<oH d.2.2.2.2.2.2.1 (i:Int) by omega)) ((cw e10).trans ((cw e15).trans (e _ _ (bZ (x:=(i:Int)+1) (by omega)))))))))
 .intro i hi hp;have aY:aq (i:Int) (List.length d.2.2.2.2.2.2.1)=true:=aK ⟨by omega,by omega⟩;unfold nx
  try dsimp only
  unfold xE;refine ao (ak (show(i:Int)<(d.2.2.2.2.2.2.1.length:Int) by omega)) (ai aY ?_);by_cases h1:(6:Int)<(((lO d.2.2.2.2.2.2.1 (i:Int)).length:Nat):Int)
  .exact ao (ak h1) rfl
  refine ag (aA h1) ?_;by_cases h2:(6:Int)<(((lP d.2.2.2.2.2.2.1 (i:Int)).length:Nat):Int)
  .exact ao (ak h2) rfl
  refine ag (aA h2) ?_;by_cases h3:(100:Int)<oH d.2.2.2.2.2.2.1 (i:Int)
  .exact ao (ak h3) rfl
  refine ag (aA h3) ?_;have e10:=XY d (i:Int) (gt ab d.2.2.2.2.2.2.1 (i:Int)).1 (oH d.2.2.2.2.2.2.1 (i:Int)) (gt ab d.2.2.2.2.2.2.1 (i:Int)).2.2.1 (lO d.2.2.2.2.2.2.1 (i:Int)) (lP d.2.2.2.2.2.2.1 (i:Int)) (by omega);have e15:=XX d (i:Int) (gt ab d.2.2.2.2.2.2.1 (i:Int)).1 (oH d.2.2.2.2.2.2.1 (i:Int)) (gt ab d.2.2.2.2.2.2.1 (i:Int)).2.2.1 (lO d.2.2.2.2.2.2.1 (i:Int)) (lP d.2.2.2.2.2.2.1 (i:Int)) (by omega);refine(cw e10).trans ?_;cases h4:(List.range (lO d.2.2.2.2.2.2.1 (i:Int)).length).all (qA (lO d.2.2.2.2.2.2.1 (i:Int)))with|false=>rfl|true=>refine(cw e15).trans ?_;cases h5:(List.range (lP d.2.2.2.2.2.2.1 (i:Int)).length).all (qC (lP d.2.2.2.2.2.2.1 (i:Int)))with|false=>rfl|true=>unfold p4 at hp;rw[h4,h5,bg (show(lO d.2.2.2.2.2.2.1 (i:Int)).length<=6 by omega),bg (show(lP d.2.2.2.2.2.2.1 (i:Int)).length<=6 by omega),bg (show oH d.2.2.2.2.2.2.1 (i:Int)<=100 by omega)]at hp;cases hp
 .unfold nx
  try dsimp only
  unfold xE;exact ag (aA (show ¬(d.2.2.2.2.2.2.1.length:Int)<(d.2.2.2.2.2.2.1.length:Int) by omega)) rfl
def ye(d:ba.T):Prop:=List.length d.2.1<=2100/\List.length d.2.2.1<=2100/\List.length d.2.2.2.2.2.2.2.1<=2100/\List.length d.2.2.2.1<=1100/\List.length d.2.2.2.2.1<=1100/\List.length d.2.2.2.2.2.1<=1100/\List.length d.2.2.2.2.2.2.1<=6 /\
 (List.range d.2.2.2.2.2.2.1.length).all (p4 d.2.2.2.2.2.2.1)=true
theorem aky(d:ba.T):∃b,PS (d,())=some (b,())/\(b=true->ye d):=by
 have key:∀{b:Bool},(b=true->ye d)->PS (d,())=some (b,())->∃b,PS (d,())=some (b,())/\(b=true->ye d):=fun h e=>⟨_,e,h⟩;by_cases h1:(2100:Int)<((List.length d.2.1:Nat):Int)
 .exact key (fun h=>by cases h) (ao (ak h1) rfl)
 by_cases h2:(2100:Int)<((List.length d.2.2.1:Nat):Int)
 .exact key (fun h=>by cases h) (ag (aA h1) (ao (ak h2) rfl))
 by_cases h3:(2100:Int)<((List.length d.2.2.2.2.2.2.2.1:Nat):Int)
 .exact key (fun h=>by cases h) (ag (aA h1) (ag (aA h2) (ao (ak h3) rfl)))
 by_cases h4:(1100:Int)<((List.length d.2.2.2.1:Nat):Int)
 .exact key (fun h=>by cases h) (ag (aA h1) (ag (aA h2) (ag (aA h3) (ao (ak h4) rfl))))
 by_cases h5:(1100:Int)<((List.length d.2.2.2.2.1:Nat):Int)
 .exact key (fun h=>by cases h) (ag (aA h1) (ag (aA h2) (ag (aA h3) (ag (aA h4) (ao (ak h5) rfl)))))
 by_cases h6:(1100:Int)<((List.length d.2.2.2.2.2.1:Nat):Int)
 .exact key (fun h=>by cases h) (ag (aA h1) (ag (aA h2) (ag (aA h3) (ag (aA h4) (ag (aA h5) (ao (ak h6) rfl))))))
 by_cases h7:(6:Int)<((List.length d.2.2.2.2.2.2.1:Nat):Int)
 .exact key (fun h=>by cases h) (ag (aA h1) (ag (aA h2) (ag (aA h3) (ag (aA h4) (ag (aA h5) (ag (aA h6) (ao (ak h7) rfl)))))))
 have e4:=aiw d (by omega);cases h8:(List.range d.2.2.2.2.2.2.1.length).all (p4 d.2.2.2.2.2.2.1)with
 |false=>rw[h8]at e4;exact key (fun h=>by cases h) (ag (aA h1) (ag (aA h2) (ag (aA h3) (ag (aA h4) (ag (aA h5) (ag (aA h6) (ag (aA h7) (af e4 rfl))))))))
 |true=>rw[h8]at e4;exact key (fun _=>⟨by omega,by omega,by omega,by omega,by omega,by omega,by omega,h8⟩) (ag (aA h1) (ag (aA h2) (ag (aA h3) (ag (aA h4) (ag (aA h5) (ag (aA h6) (ag (aA h7) (af e4 rfl))))))))
theorem akx(d:ba.T):∃b,Zcw (d,())=some (b,())/\(b=true->ye d):=by
 obtain⟨b,e,h⟩:=aky d;cases b with
 |false=>exact⟨false,af e rfl,fun q=>by cases q⟩
 |true=>
  by_cases h1:((List.length d.2.2.2.2.2.2.2.1:Nat):Int)<=100
  .by_cases h2:((List.length d.2.1:Nat):Int)<=100
   .by_cases h3:((List.length d.2.2.1:Nat):Int)<=100
    .exact⟨_,af e (ao rfl (ao (ak h1) (ao (ak h2) (ao (ak h3) rfl)))),fun _=>h rfl⟩
    .exact⟨false,af e (ao rfl (ao (ak h1) (ao (ak h2) (ag (aA h3) rfl)))),fun q=>by cases q⟩
   .exact⟨false,af e (ao rfl (ao (ak h1) (ag (aA h2) rfl))),fun q=>by cases q⟩
  .exact⟨false,af e (ao rfl (ag (aA h1) rfl)),fun q=>by cases q⟩
def wY(C:List (List ar.T))(i:Int):Nat:=List.length (gt (.sl ar) C i)
def jZ(L:List Bool)(i:Int):Bool:=gt .bool L i
def nG(T:List ae.T)(aF:List Bool)(i:Nat):Bool:=decide (gm T (i:Int)=2)||(decide (gm T (i:Int)=1) == jZ aF (i:Int))
def oZ(T:List ab.T)(i:Int):Bool:=(gt ab T i).2.2.1
def pM(T:List ab.T)(C:List (List ar.T))(i:Nat):Bool:=oZ T (i:Int)||decide (wY C (i:Int)=0)
theorem akQ(d:ba.T)(T:List ae.T)(aF:List Bool)(C:List (List ar.T))(hT:T.length<=100000)(hl:aF.length=T.length) :
  Zlq (T,((T.length:Int),((0:Int),nx d (aF,(C,())))))=some (match(List.range T.length).all (nG T aF)with|true=>.inr (nx d (aF,(C,())))|false=>.inl ((14:Int),())):=by
 unfold Zlq;delta gZ;refine mD (fun i:Nat=>(T,((T.length:Int),((i:Int),nx d (aF,(C,())))))) (nG T aF) T.length ?_ ?_ ?_ rfl (bt (by omega))
 .intro i hi hp;unfold nG at hp;unfold nx
  try dsimp only
  unfold xQ;have e:∀p q:Int,p=q->(some (.inl (T,((T.length:Int),(p,nx d (aF,(C,())))))):Option (TL Fe.σs⊕Out EX))=some (.inl (T,((T.length:Int),(q,nx d (aF,(C,())))))):=by rintro _ _ rfl;rfl
  refine ao (ak (show(i:Int)<(T.length:Int) by omega)) (ai (aK ⟨by omega,by omega⟩) ?_);by_cases h2:gm T (i:Int)=2
  .exact ag (show Bool.not (decide (gm T (i:Int)=2))=false by rw[bg h2];rfl) (e _ _ (bZ (x:=(i:Int)+1) (by omega)))
  .rw[bU h2,Bool.false_or]at hp;refine ao (show Bool.not (decide (gm T (i:Int)=2))=true by rw[bU h2];rfl) (ai (aK ⟨by omega,by omega⟩) (ag ?_ (e _ _ (bZ (x:=(i:Int)+1) (by omega)))));show Bool.not (@decide _ (Bool.decEq (decide (gm T (i:Int)=1)) (jZ aF (i:Int))))=false;cases q1:decide (gm T (i:Int)=1)<;>cases q2:jZ aF (i:Int)<;>rw[q1,q2]at hp<;>first|rfl|cases hp
 .intro i hi hp;unfold nG at hp;rw[Bool.or_eq_false_iff]at hp;obtain⟨h2,h3⟩:=hp;unfold nx
  try dsimp only
  unfold xQ;refine ao (ak (show(i:Int)<(T.length:Int) by omega)) (ai (aK ⟨by omega,by omega⟩) (ao (show Bool.not (decide (gm T (i:Int)=2))=true by rw[h2];rfl) (ai (aK ⟨by omega,by omega⟩) (ao ?_ rfl))));show Bool.not (@decide _ (Bool.decEq (decide (gm T (i:Int)=1)) (jZ aF (i:Int))))=true;cases q1:decide (gm T (i:Int)=1)<;>cases q2:jZ aF (i:Int)<;>rw[q1,q2]at h3<;>first|rfl|cases h3
 .unfold nx
  try dsimp only
  unfold xQ;exact ag (aA (show ¬(T.length:Int)<(T.length:Int) by omega)) rfl
theorem akp(T:List ab.T)(aF:List Bool)(C:List (List ar.T))(hT:T.length<=100000)(hl:C.length=T.length) :
  Zku (T,((T.length:Int),((0:Int),(aF,(C,())))))=some (match(List.range T.length).all (pM T C)with|true=>.inr ()|false=>.inl ((14:Int),())):=by
 unfold Zku;delta u5;refine mD (fun i:Nat=>(T,((T.length:Int),((i:Int),(aF,(C,())))))) (pM T C) T.length ?_ ?_ ?_ rfl (bt (by omega))
 .intro i hi hp;unfold pM at hp
  try dsimp only
  unfold xO;have e:∀p q:Int,p=q->(some (.inl (T,((T.length:Int),(p,(aF,(C,())))))):Option (TL E0.σs⊕Out ES))=some (.inl (T,((T.length:Int),(q,(aF,(C,())))))):=by rintro _ _ rfl;rfl
  refine ao (ak (show(i:Int)<(T.length:Int) by omega)) (ai (aK ⟨by omega,by omega⟩) ?_);cases h2:oZ T (i:Int)with|true=>exact ag (show Bool.not (oZ T (i:Int))=false by rw[h2];rfl) (e _ _ (bZ (x:=(i:Int)+1) (by omega)))|false=>rw[h2,Bool.false_or]at hp;have hp:=of_decide_eq_true hp;exact ao (show Bool.not (oZ T (i:Int))=true by rw[h2];rfl) (ai (aK ⟨by omega,by omega⟩) (ag (aA (show ¬(0:Int)<((wY C (i:Int):Nat):Int) by omega)) (e _ _ (bZ (x:=(i:Int)+1) (by omega)))))
 .intro i hi hp;unfold pM at hp;rw[Bool.or_eq_false_iff]at hp;obtain⟨h2,h3⟩:=hp;have h3:=of_decide_eq_false h3
  try dsimp only
  unfold xO;exact ao (ak (show(i:Int)<(T.length:Int) by omega)) (ai (aK ⟨by omega,by omega⟩) (ao (show Bool.not (oZ T (i:Int))=true by rw[h2];rfl) (ai (aK ⟨by omega,by omega⟩) (ao (ak (show(0:Int)<((wY C (i:Int):Nat):Int) by omega)) rfl))))
 .try dsimp only
  unfold xO;exact ag (aA (show ¬(T.length:Int)<(T.length:Int) by omega)) rfl
theorem akT(d:ba.T)(aF:List Bool)(C:List (List ar.T))(hT:d.2.2.1.length<=100000)(hl:aF.length=d.2.2.1.length)(aY:∀i:Nat,i<d.2.2.1.length->0<=gm d.2.2.1 (i:Int)/\gm d.2.2.1 (i:Int)<=2) :
  Zec ((0:Int),nx d (aF,(C,())))=some (match(List.range d.2.2.1.length).all (nG d.2.2.1 aF)with|true=>.inr (nx d (aF,(C,())))|false=>.inl ((14:Int),())):=by
 unfold Zec;delta jl;refine mD (fun i:Nat=>((i:Int),nx d (aF,(C,())))) (nG d.2.2.1 aF) d.2.2.1.length ?_ ?_ ?_ rfl (bt (by omega))
 .intro i hi hp;obtain⟨i0,i2⟩:=aY i hi;unfold nG at hp;have hb:aq (i:Int) (List.length d.2.2.1)=true:=aK ⟨by omega,by omega⟩;have hb2:aq (i:Int) (List.length aF)=true:=aK ⟨by omega,by rw[hl];omega⟩;unfold nx
  try dsimp only
  unfold xC;have e:∀p q:Int,p=q->(some (.inl (p,nx d (aF,(C,())))):Option (TL EH.σs⊕Out EA))=some (.inl (q,nx d (aF,(C,())))):=by rintro _ _ rfl;rfl
  have go:=e _ _ (bZ (x:=(i:Int)+1) (by omega));refine ao (ak (show(i:Int)<(d.2.2.1.length:Int) by omega)) (ai hb ?_);by_cases h0:gm d.2.2.1 (i:Int)=0
  .have h1:¬gm d.2.2.1 (i:Int)=1:=by omega
   rw[bU (show ¬gm d.2.2.1 (i:Int)=2 by omega),bU h1]at hp;have hb3:jZ aF (i:Int)=false:=by cases q:jZ aF (i:Int)<;>rw[q]at hp<;>first|rfl|cases hp
   exact ao (ak h0) (ai hb2 (ag (show aV true (jZ aF (i:Int)) false=false by rw[hb3];rfl) (ai hb (ag (aA h1) go))))
  .refine ag (aA h0) (ai hb ?_);by_cases h1:gm d.2.2.1 (i:Int)=1
   .rw[bU (show ¬gm d.2.2.1 (i:Int)=2 by omega),bg h1]at hp;have hb3:jZ aF (i:Int)=true:=by cases q:jZ aF (i:Int)<;>rw[q]at hp<;>first|rfl|cases hp
    exact ao (ak h1) (ai hb2 (ag (show aV false true (aV true (Bool.not (jZ aF (i:Int))) false)=false by rw[hb3];rfl) go))
   .exact ag (aA h1) go
 .intro i hi hp;obtain⟨i0,i2⟩:=aY i hi;unfold nG at hp;rw[Bool.or_eq_false_iff]at hp;obtain⟨h2,h3⟩:=hp;have h2:=of_decide_eq_false h2;have hb:aq (i:Int) (List.length d.2.2.1)=true:=aK ⟨by omega,by omega⟩;have hb2:aq (i:Int) (List.length aF)=true:=aK ⟨by omega,by rw[hl];omega⟩;unfold nx
  try dsimp only
  unfold xC;refine ao (ak (show(i:Int)<(d.2.2.1.length:Int) by omega)) (ai hb ?_);by_cases h0:gm d.2.2.1 (i:Int)=0
  .have h1:¬gm d.2.2.1 (i:Int)=1:=by omega
   rw[bU h1]at h3;have hb3:jZ aF (i:Int)=true:=by cases q:jZ aF (i:Int)<;>rw[q]at h3<;>first|rfl|cases h3
   exact ao (ak h0) (ai hb2 (ao (show aV true (jZ aF (i:Int)) false=true by rw[hb3];rfl) rfl))
  .have h1:gm d.2.2.1 (i:Int)=1:=by omega
   rw[bg h1]at h3;have hb3:jZ aF (i:Int)=false:=by cases q:jZ aF (i:Int)<;>rw[q]at h3<;>first|rfl|cases h3
   exact ag (aA h0) (ai hb (ao (ak h1) (ai hb2 (ao (show aV false true (aV true (Bool.not (jZ aF (i:Int))) false)=true by rw[hb3];rfl) rfl))))
 .unfold nx
  try dsimp only
  unfold xC;exact ag (aA (show ¬(d.2.2.1.length:Int)<(d.2.2.1.length:Int) by omega)) rfl
theorem aks(d:ba.T)(aF:List Bool)(C:List (List ar.T))(hT:d.2.2.2.2.2.2.1.length<=100000)(hl:C.length=d.2.2.2.2.2.2.1.length) :
  Ze4 ((0:Int),nx d (aF,(C,())))=some (match(List.range d.2.2.2.2.2.2.1.length).all (pM d.2.2.2.2.2.2.1 C)with|true=>.inr ()|false=>.inl ((14:Int),())):=by
 unfold Ze4;delta jl;refine mD (fun i:Nat=>((i:Int),nx d (aF,(C,())))) (pM d.2.2.2.2.2.2.1 C) d.2.2.2.2.2.2.1.length ?_ ?_ ?_ rfl (bt (by omega))
 .intro i hi hp;unfold pM at hp;have hb2:aq (i:Int) (List.length C)=true:=aK ⟨by omega,by rw[hl];omega⟩;unfold nx
  try dsimp only
  unfold xz;have e:∀p q:Int,p=q->(some (.inl (p,nx d (aF,(C,())))):Option (TL EB.σs⊕Out Eu))=some (.inl (q,nx d (aF,(C,())))):=by rintro _ _ rfl;rfl
  have go:=e _ _ (bZ (x:=(i:Int)+1) (by omega));refine ao (ak (show(i:Int)<(d.2.2.2.2.2.2.1.length:Int) by omega)) (ai (aK ⟨by omega,by omega⟩) ?_);cases h2:oZ d.2.2.2.2.2.2.1 (i:Int)with|true=>exact ag (show Bool.not (oZ d.2.2.2.2.2.2.1 (i:Int))=false by rw[h2];rfl) go|false=>rw[h2,Bool.false_or]at hp;have hp:=of_decide_eq_true hp;exact ao (show Bool.not (oZ d.2.2.2.2.2.2.1 (i:Int))=true by rw[h2];rfl) (ai hb2 (ag (aA (show ¬(0:Int)<((wY C (i:Int):Nat):Int) by omega)) go))
 .intro i hi hp;unfold pM at hp;rw[Bool.or_eq_false_iff]at hp;obtain⟨h2,h3⟩:=hp;have h3:=of_decide_eq_false h3;have hb2:aq (i:Int) (List.length C)=true:=aK ⟨by omega,by rw[hl];omega⟩;unfold nx
  try dsimp only
  unfold xz;exact ao (ak (show(i:Int)<(d.2.2.2.2.2.2.1.length:Int) by omega)) (ai (aK ⟨by omega,by omega⟩) (ao (show Bool.not (oZ d.2.2.2.2.2.2.1 (i:Int))=true by rw[h2];rfl) (ai hb2 (ao (ak (show(0:Int)<((wY C (i:Int):Nat):Int) by omega)) rfl))))
 .unfold nx
  try dsimp only
  unfold xz;exact ag (aA (show ¬(d.2.2.2.2.2.2.1.length:Int)<(d.2.2.2.2.2.2.1.length:Int) by omega)) rfl
theorem Zys{d:ba.T}{s:cr.T}(h:j5 d s=0):Pl.dD (fx d)=0/\s.1.length=d.2.2.1.length/\s.2.1.length=d.2.2.2.2.2.2.1.length:=by
 unfold j5 at h;by_cases hc:Pl.dD (fx d)=0
 .rw[if_neg (by simpa using hc)]at h;cases q:gk d s with
  |false=>rw[q]at h;cases h
  |true=>unfold gk at q;simp only[Bool.and_eq_true,decide_eq_true_eq]at q;exact⟨hc,q.1.1,q.1.2⟩
 .rw[if_pos hc]at h;exact absurd h hc
def po(d:ba.T)(aF:List Bool)(C:List (List ar.T)):Int:=match decide (j5 d (aF,(C,()))=0)with|false=>j5 d (aF,(C,()))|true=>match(List.range d.2.2.1.length).all (nG d.2.2.1 aF)with|false=>14|true=>match(List.range d.2.2.2.2.2.2.1.length).all (pM d.2.2.2.2.2.2.1 C)with|false=>14|true=>0
theorem aj2(d:ba.T)(aF:List Bool)(C:List (List ar.T))(ft:Fit (fx d))(hL:d.2.2.1.length<=100000)(hT:d.2.2.2.2.2.2.1.length<=100000) :
  QH (d,((aF,(C,())),()))=some (po d aF C,()):=by
 have e1:=Zy6 d (aF,(C,())) ft hT;unfold po;by_cases h:j5 d (aF,(C,()))=0
 .obtain⟨_,h2,h3⟩:=Zys h;have e5:=akQ d d.2.2.1 aF C hL h2;have e11:=akp d.2.2.2.2.2.2.1 aF C hT h3;rw[bg h];refine af e1 (ag (by rw[h];rfl) ((cw e5).trans ?_));cases(List.range d.2.2.1.length).all (nG d.2.2.1 aF)with|false=>rfl|true=>refine(cw e11).trans ?_;cases(List.range d.2.2.2.2.2.2.1.length).all (pM d.2.2.2.2.2.2.1 C)<;>rfl
 .rw[bU h];exact af e1 (ao (by simp[h]) rfl)
theorem ahq{T:List ae.T}{p:Pl.dY->Prop}(h:∀l∈T.map kV,p l)(i:Nat)(hi:i<T.length):∃l,p l/\l.init=gm T (i:Int):=by have hg:=aT hi;refine⟨kV T[i],h _ (List.mem_map_of_mem (List.getElem_mem hi)),?_⟩;unfold gm;rw[aZ (σ:=ae) hg];rfl
theorem ahr{d:ba.T}(h:Pl.dD (fx d)=0):∀i:Nat,i<d.2.2.1.length->0<=gm d.2.2.1 (i:Int)/\gm d.2.2.1 (i:Int)<=2:=by
 have hs0:Pl.dM (fx d)=0:=by
  unfold Pl.dD at h;by_cases q:Pl.dM (fx d)=0
  .exact q
  .rw[if_pos q]at h;exact absurd h q
 obtain⟨V,hs⟩:=Pl.pS hs0;intro i hi;obtain⟨l,h1,h2⟩:=ahq (T:=d.2.2.1) (p:=fun l=>0<=l.init/\l.init<=2) (fun l hl=>hs.init l hl) i hi;rw[<-h2];exact h1
theorem aj6(d:ba.T)(aF:List Bool)(C:List (List ar.T))(ft:Fit (fx d))(hL:d.2.2.1.length<=100000)(hT:d.2.2.2.2.2.2.1.length<=100000)(hok:px C) :
  P4 (d,((aF,(C,())),()))=some (po d aF C,()):=by
 have e1:=Zya d (aF,(C,())) ft hT hok;unfold po;by_cases h:j5 d (aF,(C,()))=0
 .obtain⟨h1,h2,h3⟩:=Zys h;have e5:=akT d aF C hL h2 (ahr h1);have e10:=aks d aF C hT h3;rw[bg h];refine af e1 (ag (by rw[h];rfl) ((cw e5).trans ?_));cases(List.range d.2.2.1.length).all (nG d.2.2.1 aF)with|false=>rfl|true=>refine(cw e10).trans ?_;cases(List.range d.2.2.2.2.2.2.1.length).all (pM d.2.2.2.2.2.2.1 C)<;>rfl
 .rw[bU h];exact af e1 (ao (by simp[h]) rfl)
theorem wf_i64{n:Int}(h:(Lit.int .i64 n).wf=true):dk n:=by
 simp only[Lit.wf,Bool.and_eq_true,decide_eq_true_eq]at h;have h1:IntKind.i64.min = -9223372036854775808:=by decide
 have h2:IntKind.i64.max=9223372036854775807:=by decide
 rw[h1,h2]at h;exact h
theorem rY{L:List Int}(h:nF (.sl (.int .i64)) L):∀x∈L,dk x:=fun x hx=>wf_i64 (h.2 x hx)
theorem vQ{α β:Type}(f:α->β)(L:List α){n k:Nat}(h:L.length<=n)(hk:n<=k):(L.map f).length<=k:=by rw[aO];omega
theorem ahf{m:ab.T}(h:nF ab m)(hr:List.length m.2.2.2.1<=6)(hw:List.length m.2.2.2.2.1<=6)(hword:@LE.le Int _ m.2.1 100)
  (h10:lj (α:=cj.T) (fun r=>List.length r.2.1<=100/\@LE.le Int _ r.1 1099511627776/\@LE.le Int _ (-1099511627776) r.1) m.2.2.2.1) (h15:lj (α:=bI.T) (fun r=>List.length r.2.1<=100/\List.length r.2.2.1<=100) m.2.2.2.2.1):AH (nX m):=by
 obtain⟨a1,a2,a3,a4,a5,_⟩:=h;refine⟨⟨wf_i64 a2,Int.le_trans hword (by decide)⟩,wf_i64 a1,?_,?_,?_,?_⟩
 .exact vQ qV _ hr (by decide)
 .exact vQ rX _ hw (by decide)
 .intro r hr;obtain⟨r',hr',rfl⟩:=List.mem_map.1 hr;obtain⟨b1,b2,b3⟩:=h10 r' hr';have hk:=a4.2 r' hr';exact⟨Nat.le_trans b1 (by decide),b3,b2,rY hk.2.1⟩
 .intro r hr;obtain⟨r',hr',rfl⟩:=List.mem_map.1 hr;obtain⟨b1,b2⟩:=h15 r' hr';have hk:=a5.2 r' hr';exact⟨Nat.le_trans b1 (by decide),Nat.le_trans b2 (by decide),wf_i64 hk.1,rY hk.2.1,rY hk.2.2.1⟩
theorem J8{α:Type}{σ:Sh}{L:List σ.T}{p:Nat->Bool}{Q:σ.T->Prop}(h:(List.range L.length).all p=true)(hq:∀i x,L[i]?=some x->p i=true->Q x):lj Q L:=by
 have h':∀i,i<L.length->p i=true:=by simpa[List.all_eq_true]using h
 intro x hx;obtain⟨i,hi⟩:=List.getElem?_of_mem hx;exact hq i x hi (h' i (Xg hi))
theorem aiq{d:ba.T}(h:nF ba d)(hl:ye d):Fit (fx d):=by
 obtain⟨a1,a2,a3,a4,a5,a6,a7,a8,_⟩:=h;obtain⟨b1,b2,b3,b4,b5,b6,b7,b8⟩:=hl;have lat3:lj (α:=ae.T) (fun x=>dk x.1/\dk x.2.1/\dk x.2.2.1) d.2.2.1:=fun x hx=>by have:=a3.2 x hx;exact⟨wf_i64 this.1,wf_i64 this.2.1,wf_i64 this.2.2.1⟩
 have and3:lj (α:=ae.T) (fun x=>dk x.1/\dk x.2.1/\dk x.2.2.1) d.2.2.2.2.2.2.2.1:=fun x hx=>by have:=a8.2 x hx;exact⟨wf_i64 this.1,wf_i64 this.2.1,wf_i64 this.2.2.1⟩
 refine⟨wf_i64 a1,⟨Nat.le_trans b1 (by decide),rY a2⟩,⟨?_,?_⟩,⟨Nat.le_trans b4 (by decide),rY a4⟩,⟨Nat.le_trans b5 (by decide),rY a5⟩,⟨Nat.le_trans b6 (by decide),rY a6⟩,⟨?_,?_⟩,⟨?_,?_⟩⟩
 .exact vQ kV _ b2 (by decide)
 .intro l hl;obtain⟨x,hx,rfl⟩:=List.mem_map.1 hl;exact lat3 x hx
 .exact vQ nX _ b7 (by decide)
 .intro m hm;obtain⟨x,hx,rfl⟩:=List.mem_map.1 hm;have hQ:=J8 (α:=Unit) (σ:=ab) (Q:=fun x=>List.length x.2.2.2.1<=6/\List.length x.2.2.2.2.1<=6/\@LE.le Int _ x.2.1 100/\(List.range (List.length x.2.2.2.1)).all (qA x.2.2.2.1)=true/\(List.range (List.length x.2.2.2.2.1)).all (qC x.2.2.2.2.1)=true) b8 (fun i x hi hp=>by unfold p4 lO lP oH at hp;rw[aZ (σ:=ab) hi]at hp;simp only[Bool.and_eq_true,decide_eq_true_eq]at hp;exact⟨hp.1.1.1.1,hp.1.1.1.2,hp.1.1.2,hp.1.2,hp.2⟩) x hx;obtain⟨c1,c2,c3,c4,c5⟩:=hQ;refine ahf (a7.2 x hx) c1 c2 c3 ?_ ?_
  .exact J8 (α:=Unit) (σ:=cj) c4 (fun i r hi hp=>by unfold qA vz oL at hp;rw[aZ (σ:=cj) hi]at hp;simp only[Bool.and_eq_true,decide_eq_true_eq]at hp;exact⟨hp.1.1,hp.1.2,hp.2⟩)
  .exact J8 (α:=Unit) (σ:=bI) c5 (fun i r hi hp=>by unfold qC vI vH at hp;rw[aZ (σ:=bI) hi]at hp;simp only[Bool.and_eq_true,decide_eq_true_eq]at hp;exact hp)
 .exact vQ nV _ b3 (by decide)
 .intro l hl;obtain⟨x,hx,rfl⟩:=List.mem_map.1 hl;exact and3 x hx
