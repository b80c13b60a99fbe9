import Derived.Test.YtkcpdpplobhpaaaGreatWSa
import Derived.Test.YtkcpdpplobhpaaaGreatWNe
set_option linter.unusedVariables false
set_option linter.unusedSimpArgs false
set_option linter.unnecessarySimpa false
section
namespace Go.Proofs.YtkcpdpplobhpaaaGreat.V
open Go Go.RowKit
theorem o0{D O:Type}{B:D->Option (D⊕O)}(f:Nat->D)(p:Nat->Bool){bad good:O}(n:Nat)(hs:∀i,i<n->p i=true->B (f i)=some (.inl (f (i+1))))(hf:∀i,i<n->p i=false->B (f i)=some (.inr bad))
  (he:B (f n)=some (.inr good)) {d:D}(hd:d=f 0) {N:Nat}(hN:n<N):aX B N d=some (match(List.range n).all p with|true=>good|false=>bad):=by
 subst hd;have hall:((List.range n).all p=true↔∀i,i<n->p i=true):=by simp[List.all_eq_true]
 have main:∀k i,i+k=n->(∀j,j<i->p j=true)->∀N,k<N->aX B N (f i)=some (match(List.range n).all p with|true=>good|false=>bad):=by
  intro k
  induction k with
  |zero=>
   intro i hi hp N hN;have:i=n:=by omega
   subst this;obtain⟨N,rfl⟩:∃M,N=M+1:=⟨N-1,by omega⟩;rw[hall.2 hp];simp only[aX,he]
  |succ k ih=>
   intro i hi hp N hN;obtain⟨N,rfl⟩:∃M,N=M+1:=⟨N-1,by omega⟩;cases hq:p i with
   |true=>
    simp only[aX,hs i (by omega) hq];exact ih (i+1) (by omega) (fun j hj=>by
     by_cases e:j=i
     .subst e;exact hq
     .exact hp j (by omega)) N (by omega)
   |false=>
    have hz:(List.range n).all p=false:=by cases hz:(List.range n).all p with|false=>rfl|true=>have:=hall.1 hz i (by omega);rw[hq]at this;cases this
    simp only[aX,hf i (by omega) hq,hz]
 exact main n 0 (by omega) (fun j hj=>by omega) N hN
def jD(v w:Int):Bool:=decide (v / 2^w.toNat=0)
theorem uo{v w:Int}(hw:0<=w/\w<=64):Fh (v,(w,()))=some (jD v w,()):=by
 have hb:Fm (w,())=some (w,()):=by
  show xS w=_;unfold xS;have h1:du (decide ((64:Int)<w)) (64:Int) w=w:=by unfold du;rw[cw (by omega)]
  have h2:du (decide (w<(0:Int))) (0:Int) w=w:=by unfold du;rw[cw (by omega)]
  show some (du (decide (du (decide ((64:Int)<w)) (64:Int) w<0)) 0 (du (decide ((64:Int)<w)) (64:Int) w),())=_;rw[h1,h2]
 show Qg Fm v w=_;unfold Qg;refine(cL hb).trans (ak (ar hw.1) ?_);unfold jD;have hm:min w.toNat 64=w.toNat:=by omega
 show some (decide (Int.fdiv v (2^(min w.toNat 64))=0),())=_;rw[hm,Int.fdiv_eq_ediv_of_nonneg _ (Int.pow_nonneg (by decide))]
theorem mu{x:Int}(h:0<=x/\x<=18446744073709551615):IntKind.wrap (.u64:IntKind) x=x:=by unfold IntKind.wrap;simp[IntKind.bits,IntKind.signed];omega
theorem yg{v w:Int}(hv:0<=v/\v<=18446744073709551615)(hw:0<=w/\w<=64):xD (v,(w,()))=some (jD v w,()):=by
 obtain⟨W,rfl⟩:=ie hw.1;have hL:Zf0 (v,((W:Int),((0:Int),())))=some (v / 2^W,()):=by
  unfold Zf0;delta u3;refine dn (fun k:Nat=>(v / 2^k,((W:Int),((k:Int),())))) W (by rw[Int.pow_zero,Int.ediv_one];rfl) ?_ ?_ (bL (by omega))
  .intro k hk;have h0:0<=v / 2^k:=Int.ediv_nonneg hv.1 (Int.pow_nonneg (by decide));have h1:v / 2^k<=v:=Int.ediv_le_self _ hv.1
   try dsimp only
   unfold Fa;have hsel:bn true (@decide _ (Int.decLt (k:Int) (64:Int))) false=decide ((k:Int)<64):=by unfold bn;cases decide ((k:Int)<64)<;>rfl
   rw[je (ar (by omega)),hsel,je (ar (by omega))];rw[Int.tdiv_eq_ediv_of_nonneg h0,mu ⟨Int.ediv_nonneg h0 (by decide),by omega⟩,cf (x:=(k:Int)+1) (by omega),Int.ediv_ediv_of_nonneg (Int.pow_nonneg (by decide)),<-Int.pow_succ];rfl
  .try dsimp only
   unfold Fa;rw[gd (au (by omega))];rfl
 exact ah hL rfl
def ez(L:List aA.T)(i:Int):Int:=(gt aA L i).1
def ib(L:List aA.T)(i:Int):Int:=(gt aA L i).2.1
def jC(a w:Int)(L:List aA.T)(i:Nat):Bool:=!decide (ib L (i:Int)=0)&&jD (ez L (i:Int)) a&&jD (ib L (i:Int)) w&&(decide (i=0)||decide (ez L ((i:Int)-1)<ez L (i:Int)))
def jT(a w:Int)(L:List aA.T):Bool:=decide (1<=a)&&decide (a<=62)&&decide (1<=w)&&decide (w<=64)&&decide (L.length<=4096)&&(List.range L.length).all (jC a w L)
theorem Zzj{a w:Int}(ha:1<=a/\a<=62)(hw:1<=w/\w<=64)(L:List aA.T)(hl:L.length<=4096) :
  PR (a,(w,(L,(L,((L.length:Int),((0:Int),()))))))=some (match(List.range L.length).all (jC a w L)with|true=>.inr ()|false=>.inl (false,())):=by
 unfold PR;delta u6;refine o0 (fun i:Nat=>(a,(w,(L,(L,((L.length:Int),((i:Int),()))))))) (jC a w L) L.length ?_ ?_ ?_ rfl (bL (by omega))
 .intro i hi hp;unfold jC at hp;simp only[Bool.and_eq_true,Bool.not_eq_true',decide_eq_false_iff_not]at hp;obtain⟨⟨⟨h1,h2⟩,h3⟩,h4⟩:=hp;have e1:=uo (v:=ez L (i:Int)) (w:=a) ⟨by omega,by omega⟩;have e2:=uo (v:=ib L (i:Int)) (w:=w) ⟨by omega,by omega⟩
  try dsimp only
  unfold xQ;refine ax (ar (show(i:Int)<(L.length:Int) by omega)) (ak (aK ⟨by omega,by omega⟩) (ag (au h1) ((cL e1).trans (ag (by rw[h2];rfl) ((cL e2).trans (ag (by rw[h3];rfl) ?_))))));have e:∀p q:Int,p=q->(some (.inl (a,(w,(L,(L,((L.length:Int),(p,()))))))):Option (TL E4.σs⊕Out ER))=some (.inl (a,(w,(L,(L,((L.length:Int),(q,()))))))):=by rintro _ _ rfl;rfl
  by_cases h0:i=0
  .exact ag (au (show ¬(0:Int)<(i:Int) by omega)) (e _ _ (cf (x:=(i:Int)+1) (by omega)))
  .have hm:IntKind.wrap (.i64:IntKind) ((i:Int)-1)=(i:Int)-1:=cf (by omega);rw[hm];simp only[Bool.or_eq_true,decide_eq_true_eq]at h4;refine ax (ar (show(0:Int)<(i:Int) by omega)) (ak (aK ⟨by omega,by omega⟩) (ag (au (show ¬ez L (i:Int)<=ez L ((i:Int)-1) by omega)) (e _ _ (cf (x:=(i:Int)+1) (by omega)))))
 .intro i hi hp
  try dsimp only
  unfold xQ;refine ax (ar (show(i:Int)<(L.length:Int) by omega)) (ak (aK ⟨by omega,by omega⟩) ?_);by_cases h1:ib L (i:Int)=0
  .exact ax (ar h1) rfl
  refine ag (au h1) ?_;have e1:=uo (v:=ez L (i:Int)) (w:=a) ⟨by omega,by omega⟩;have e2:=uo (v:=ib L (i:Int)) (w:=w) ⟨by omega,by omega⟩;refine(cL e1).trans ?_;cases h2:jD (ez L (i:Int)) a with|false=>exact ax rfl rfl|true=>refine ag rfl ((cL e2).trans ?_);cases h3:jD (ib L (i:Int)) w with|false=>exact ax rfl rfl|true=>refine ag rfl ?_;unfold jC at hp;rw[cw h1,h2,h3]at hp;simp only[Bool.not_false,Bool.and_self,Bool.true_and,Bool.or_eq_false_iff,decide_eq_false_iff_not]at hp;have hm:IntKind.wrap (.i64:IntKind) ((i:Int)-1)=(i:Int)-1:=cf (by omega);rw[hm];exact ax (ar (show(0:Int)<(i:Int) by omega)) (ak (aK ⟨by omega,by omega⟩) (ax (ar (show ez L (i:Int)<=ez L ((i:Int)-1) by omega)) rfl))
 .try dsimp only
  unfold xQ;exact ag (au (show ¬(L.length:Int)<(L.length:Int) by omega)) rfl
theorem ajf(a w:Int)(L:List aA.T):Zj4 (a,(w,(L,())))=some (jT a w L,()):=by
 show P9 Fh PR a w L=_;unfold P9 jT;by_cases h1:a<1
 .rw[cw (show ¬1<=a by omega)];exact ax (ar h1) rfl
 rw[bG (show 1<=a by omega)];refine ag (au h1) ?_;by_cases h2:62<a
 .rw[cw (show ¬a<=62 by omega)];exact ax (ar h2) rfl
 rw[bG (show a<=62 by omega)];refine ag (au h2) ?_;by_cases h3:w<1
 .rw[cw (show ¬1<=w by omega)];exact ax (ar h3) rfl
 rw[bG (show 1<=w by omega)];refine ag (au h3) ?_;by_cases h4:64<w
 .rw[cw (show ¬w<=64 by omega)];exact ax (ar h4) rfl
 rw[bG (show w<=64 by omega)];refine ag (au h4) ?_;by_cases h5:(4096:Int)<(L.length:Int)
 .rw[cw (show ¬L.length<=4096 by omega)];exact ax (ar h5) rfl
 rw[bG (show L.length<=4096 by omega)];refine ag (au h5) ((cL (Zzj ⟨by omega,by omega⟩ ⟨by omega,by omega⟩ L (by omega))).trans ?_);cases(List.range L.length).all (jC a w L)<;>rfl
def oh(L:List aA.T):Prop:=∀i:Nat,i<L.length->(0<=ez L (i:Int)/\ez L (i:Int)<=18446744073709551615)/\(0<=ib L (i:Int)/\ib L (i:Int)<=18446744073709551615)
theorem Zzg{a w:Int}(ha:1<=a/\a<=62)(hw:1<=w/\w<=64)(L:List aA.T)(hl:L.length<=4096)(hok:oh L) :
  O6 (a,(w,(L,((0:Int),()))))=some (match(List.range L.length).all (jC a w L)with|true=>.inr ()|false=>.inl (false,())):=by
 unfold O6;delta u4;refine o0 (fun i:Nat=>(a,(w,(L,((i:Int),()))))) (jC a w L) L.length ?_ ?_ ?_ rfl (bL (by omega))
 .intro i hi hp;unfold jC at hp;simp only[Bool.and_eq_true,Bool.not_eq_true',decide_eq_false_iff_not]at hp;obtain⟨⟨⟨h1,h2⟩,h3⟩,h4⟩:=hp;have e1:=yg (v:=ez L (i:Int)) (w:=a) (hok i hi).1 ⟨by omega,by omega⟩;have e2:=yg (v:=ib L (i:Int)) (w:=w) (hok i hi).2 ⟨by omega,by omega⟩;have aY:av (i:Int) (List.length L)=true:=aK ⟨by omega,by omega⟩
  try dsimp only
  unfold xG;refine ax (ar (show(i:Int)<(L.length:Int) by omega)) ?_;have e:∀p q:Int,p=q->(some (.inl (a,(w,(L,(p,()))))):Option (TL Ew.σs⊕Out Ej))=some (.inl (a,(w,(L,(q,()))))):=by rintro _ _ rfl;rfl
  by_cases h0:i=0
  .exact ag (au (show ¬(0:Int)<(i:Int) by omega)) (ak aY ((cL e1).trans (ag (by rw[h2];rfl) (ak aY ((cL e2).trans (ag (by rw[h3];rfl) (ak aY (ag (au h1) (e _ _ (cf (x:=(i:Int)+1) (by omega)))))))))))
  .have hm:IntKind.wrap (.i64:IntKind) ((i:Int)-1)=(i:Int)-1:=cf (by omega);rw[hm];simp only[Bool.or_eq_true,decide_eq_true_eq]at h4;refine ax (ar (show(0:Int)<(i:Int) by omega)) (ak aY (ak (aK ⟨by omega,by omega⟩) (ag (au (show ¬ez L (i:Int)<=ez L ((i:Int)-1) by omega)) ?_)));exact ak aY ((cL e1).trans (ag (by rw[h2];rfl) (ak aY ((cL e2).trans (ag (by rw[h3];rfl) (ak aY (ag (au h1) (e _ _ (cf (x:=(i:Int)+1) (by omega))))))))))
 .intro i hi hp;have aY:av (i:Int) (List.length L)=true:=aK ⟨by omega,by omega⟩;have e1:=yg (v:=ez L (i:Int)) (w:=a) (hok i hi).1 ⟨by omega,by omega⟩;have e2:=yg (v:=ib L (i:Int)) (w:=w) (hok i hi).2 ⟨by omega,by omega⟩
  try dsimp only
  unfold xG;refine ax (ar (show(i:Int)<(L.length:Int) by omega)) ?_;unfold jC at hp;by_cases h0:i=0
  .refine ag (au (show ¬(0:Int)<(i:Int) by omega)) (ak aY ((cL e1).trans ?_));cases h2:jD (ez L (i:Int)) a with
   |false=>exact ax rfl rfl|true=>
    refine ag rfl (ak aY ((cL e2).trans ?_));cases h3:jD (ib L (i:Int)) w with
    |false=>exact ax rfl rfl|true=>
     by_cases h1:ib L (i:Int)=0
     .exact ag rfl (ak aY (ax (ar h1) rfl))
     .rw[cw h1,h2,h3,bG h0]at hp;cases hp
  .have hm:IntKind.wrap (.i64:IntKind) ((i:Int)-1)=(i:Int)-1:=cf (by omega);rw[hm];refine ax (ar (show(0:Int)<(i:Int) by omega)) (ak aY (ak (aK ⟨by omega,by omega⟩) ?_));by_cases h4:ez L (i:Int)<=ez L ((i:Int)-1)
   .exact ax (ar h4) rfl
   refine ag (au h4) (ak aY ((cL e1).trans ?_));cases h2:jD (ez L (i:Int)) a with
   |false=>exact ax rfl rfl|true=>
    refine ag rfl (ak aY ((cL e2).trans ?_));cases h3:jD (ib L (i:Int)) w with
    |false=>exact ax rfl rfl|true=>
     by_cases h1:ib L (i:Int)=0
     .exact ag rfl (ak aY (ax (ar h1) rfl))
     .rw[cw h1,h2,h3,cw h0,bG (show ez L ((i:Int)-1)<ez L (i:Int) by omega)]at hp;cases hp
 .try dsimp only
  unfold xG;exact ag (au (show ¬(L.length:Int)<(L.length:Int) by omega)) rfl
theorem Zwj(a w:Int)(L:List aA.T)(hok:oh L):Zdq (a,(w,(L,())))=some (jT a w L,()):=by
 show Pw xD O6 a w L=_;unfold Pw jT;by_cases h1:a<1
 .rw[cw (show ¬1<=a by omega)];exact ax (ar h1) rfl
 rw[bG (show 1<=a by omega)];refine ag (au h1) ?_;by_cases h2:62<a
 .rw[cw (show ¬a<=62 by omega)];exact ax (ar h2) rfl
 rw[bG (show a<=62 by omega)];refine ag (au h2) ?_;by_cases h3:w<1
 .rw[cw (show ¬1<=w by omega)];exact ax (ar h3) rfl
 rw[bG (show 1<=w by omega)];refine ag (au h3) ?_;by_cases h4:64<w
 .rw[cw (show ¬w<=64 by omega)];exact ax (ar h4) rfl
 rw[bG (show w<=64 by omega)];refine ag (au h4) ?_;by_cases h5:(4096:Int)<(L.length:Int)
 .rw[cw (show ¬L.length<=4096 by omega)];exact ax (ar h5) rfl
 rw[bG (show L.length<=4096 by omega)];refine ag (au h5) ((cL (Zzg ⟨by omega,by omega⟩ ⟨by omega,by omega⟩ L (by omega) hok)).trans ?_);cases(List.range L.length).all (jC a w L)<;>rfl
theorem WM{α:Type}{l:List α}{i:Nat}{x:α}(h:l[i]?=some x):i<l.length:=by
 rcases de i l.length with q|q
 .exact q
 .rw[ep q]at h;cases h
theorem ajt{α:Type}{l:List α}{i:Nat}{x:α}(h:l[i]?=some x):l.take (i+1)=l.take i++[x]:=by rw[List.take_add_one,h];rfl
theorem Wg{σ:Sh}{k:Int}{v:σ.T}:∀{M:dN σ},(∀p∈M,p.1<k)->iq k v M=M++[(k,v,())]
 |[],_=>rfl|p::M,h=>by have hp:=h p (by simp);rw[iq,cw (show ¬k<p.1 by omega),cw (show ¬p.1=k by omega)];simp only[];rw[Wg (fun q hq=>h q (by simp[hq]))];rfl
theorem Ww{a w:Int}{L:List aA.T}(h:(List.range L.length).all (jC a w L)=true):∀i,i<L.length->∀j,j<i->ez L (j:Int)<ez L (i:Int):=by
 have h':∀i,i<L.length->jC a w L i=true:=by simpa[List.all_eq_true]using h
 intro i
 induction i with
 |zero=>intro _ j hj;omega|succ i ih=>
  intro hi j hj;have hc:=h' (i+1) hi;unfold jC at hc;simp only[Bool.and_eq_true,Bool.or_eq_true,decide_eq_true_eq]at hc;have h4:=hc.2;have e:(((i+1:Nat):Int)-1)=(i:Int):=by omega
  rw[e]at h4;have h5:ez L (i:Int)<ez L ((i+1:Nat):Int):=by omega
  by_cases q:j=i
  .subst q;exact h5
  .have:=ih (by omega) j (by omega);omega
theorem QR(a w:Int)(L:List aA.T):tV (a,(w,(L,())))=some (match jT a w L with|true=>.inr ((0:Int),(a,(w,(L,()))))|false=>.inl ((14:Int),())):=by
 have e1:=ajf a w L;show Qj Zj4 PT a w L=_;unfold Qj;refine(cL e1).trans ?_;cases hr:jT a w L with
 |false=>exact ax rfl rfl|true=>
  refine ag rfl ?_;unfold jT at hr;simp only[Bool.and_eq_true,decide_eq_true_eq]at hr;obtain⟨⟨_,hl⟩,hall⟩:=hr;have hs:=Ww hall;have eL:PT (L,((L.length:Int),((0:Int),(a,(w,([],()))))))=some (a,(w,(L,()))):=by
   unfold PT;delta u6;refine dn (fun i:Nat=>(L,((L.length:Int),((i:Int),(a,(w,(L.take i,()))))))) L.length rfl ?_ ?_ (bL (by omega))
   .intro i hi;have hc:=aN hi
    try dsimp only
    unfold Fy;refine ax (ar (show(i:Int)<(L.length:Int) by omega)) (ak (aK ⟨by omega,by omega⟩) ?_);have e:∀(p q:Int) (M M':dN (.int .u64)),p=q->M=M'->(some (.inl (L,((L.length:Int),(p,(a,(w,(M,()))))))):Option (TL Fg.σs⊕Out E5))=some (.inl (L,((L.length:Int),(q,(a,(w,(M',()))))))):=by rintro _ _ _ _ rfl rfl;rfl
    refine e _ _ _ _ (cf (x:=(i:Int)+1) (by omega)) ?_;rw[bF (σ:=aA) hc];have hlast:=Wg (σ:=.int .u64) (k:=L[i].1) (v:=L[i].2.1) (M:=L.take i) (fun p hp=>by
     obtain⟨j,hj⟩:=List.getElem?_of_mem hp;have hjl:j<i:=iS (WM hj) (List.length_take_le i L);have hj:(L:List aA.T)[j]?=some p:=by rw[<-hj];exact(List.getElem?_take_of_lt hjl).symm
     have:=hs i hi j hjl;unfold ez at this;rw[bF (σ:=aA) hj,bF (σ:=aA) hc]at this;exact this)
    refine hlast.trans ?_;exact(ajt hc).symm
   .try dsimp only
    unfold Fy;refine ag (au (show ¬(L.length:Int)<(L.length:Int) by omega)) ?_;rw[dS];rfl
  exact ah eL rfl
def kY(T:List ab.T)(cs:List (List aA.T))(i:Nat):Bool:=jT (gt ab T (i:Int)).1 (gt ab T (i:Int)).2.1 (gt (.sl aA) cs (i:Int))
def VJ(T:List ab.T)(cs:List (List aA.T))(i:Nat):eu:=nJ (gt ab T (i:Int)).1 (gt ab T (i:Int)).2.1 (gt (.sl aA) cs (i:Int))
def kZ(T:List ab.T)(cs:List (List aA.T))(k:Nat):List eu:=(List.range k).map (VJ T cs)
theorem aj2(T:List ab.T)(aE:List Bool)(cs:List (List aA.T))(hT:T.length<=100000)(hc:cs.length=T.length) :
  PS (T,((T.length:Int),((0:Int),(aE,(cs,([],()))))))=some (match(List.range T.length).all (kY T cs)with|true=>.inr (kZ T cs T.length,())|false=>.inl ((14:Int),())):=by
 unfold PS;delta u6;refine o0 (fun i:Nat=>(T,((T.length:Int),((i:Int),(aE,(cs,(kZ T cs i,()))))))) (kY T cs) T.length ?_ ?_ ?_ rfl (bL (by omega))
 .intro i hi hp;have e1:=QR (gt ab T (i:Int)).1 (gt ab T (i:Int)).2.1 (gt (.sl aA) cs (i:Int));have hp':jT (gt ab T (i:Int)).1 (gt ab T (i:Int)).2.1 (gt (.sl aA) cs (i:Int))=true:=hp;rw[hp']at e1;have hlen:(kZ T cs i).length=i:=by unfold kZ;simp
  try dsimp only
  unfold xT;refine ax (ar (show(i:Int)<(T.length:Int) by omega)) (ak (aK ⟨by omega,by omega⟩) (ak (aK ⟨by omega,by omega⟩) ((cL e1).trans (ag rfl (ak (qd (L:=kZ T cs i) (by rw[hlen];omega) (by decide)) ?_)))));have e:∀(p q:Int) (M M':List eu),p=q->M=M'->(some (.inl (T,((T.length:Int),(p,(aE,(cs,(M,()))))))):Option (TL Ff.σs⊕Out E0))=some (.inl (T,((T.length:Int),(q,(aE,(cs,(M',()))))))):=by rintro _ _ _ _ rfl rfl;rfl
  refine e _ _ _ _ (cf (x:=(i:Int)+1) (by omega)) ?_;show kZ T cs i++[VJ T cs i]=kZ T cs (i+1);unfold kZ;rw[List.range_succ,eJ];rfl
 .intro i hi hp;have e1:=QR (gt ab T (i:Int)).1 (gt ab T (i:Int)).2.1 (gt (.sl aA) cs (i:Int));have hp':jT (gt ab T (i:Int)).1 (gt ab T (i:Int)).2.1 (gt (.sl aA) cs (i:Int))=false:=hp;rw[hp']at e1
  try dsimp only
  unfold xT;exact ax (ar (show(i:Int)<(T.length:Int) by omega)) (ak (aK ⟨by omega,by omega⟩) (ak (aK ⟨by omega,by omega⟩) ((cL e1).trans (ak rfl rfl))))
 .try dsimp only
  unfold xT;exact ag (au (show ¬(T.length:Int)<(T.length:Int) by omega)) rfl
def iN(d:ca.T)(s:gK.T):Bool:=decide (s.1.length=d.2.2.1.length)&&decide (s.2.1.length=d.2.2.2.2.2.2.1.length)&&(List.range d.2.2.2.2.2.2.1.length).all (kY d.2.2.2.2.2.2.1 s.2.1)
theorem abx(d:ca.T)(s:gK.T)(hT:d.2.2.2.2.2.2.1.length<=100000) :
  Zq8 (d.1,(d.2.1,(d.2.2.1,(d.2.2.2.1,(d.2.2.2.2.1,(d.2.2.2.2.2.1,(d.2.2.2.2.2.2.1,(d.2.2.2.2.2.2.2.1,(s.1,(s.2.1,())))))))))) =
   some (match iN d s with|true=>((0:Int),(kZ d.2.2.2.2.2.2.1 s.2.1 d.2.2.2.2.2.2.1.length,()))|false=>((14:Int),([],()))):=by
 show Qi tV PS d.1 d.2.1 d.2.2.1 d.2.2.2.1 d.2.2.2.2.1 d.2.2.2.2.2.1 d.2.2.2.2.2.2.1 d.2.2.2.2.2.2.2.1 s.1 s.2.1=_;unfold Qi iN;by_cases h1:s.1.length=d.2.2.1.length
 .rw[bG h1];have q1:Bool.not (decide (Int.ofNat (List.length s.1)=Int.ofNat (List.length d.2.2.1)))=false:=by rw[bG (by rw[h1])];rfl
  refine ag q1 ?_;by_cases h2:s.2.1.length=d.2.2.2.2.2.2.1.length
  .rw[bG h2];have q2:Bool.not (decide (Int.ofNat (List.length s.2.1)=Int.ofNat (List.length d.2.2.2.2.2.2.1)))=false:=by rw[bG (by rw[h2])];rfl
   refine ag q2 ((cL (aj2 d.2.2.2.2.2.2.1 s.1 s.2.1 hT h2)).trans ?_);cases(List.range d.2.2.2.2.2.2.1.length).all (kY d.2.2.2.2.2.2.1 s.2.1)<;>rfl
  .rw[cw h2];have q2:Bool.not (decide (Int.ofNat (List.length s.2.1)=Int.ofNat (List.length d.2.2.2.2.2.2.1)))=true:=by rw[cw (fun e=>h2 (Int.ofNat.inj e))];rfl
   exact ax q2 rfl
 .rw[cw h1];have q1:Bool.not (decide (Int.ofNat (List.length s.1)=Int.ofNat (List.length d.2.2.1)))=true:=by rw[cw (fun e=>h1 (Int.ofNat.inj e))];rfl
  exact ax q1 rfl
def kb(d:ca.T)(s:gK.T):Int:=if Pl.dF (js d)≠0 then Pl.dF (js d)else match iN d s with|true=>0|false=>14
theorem Zy6(d:ca.T)(s:gK.T)(ft:Fit (js d))(hT:d.2.2.2.2.2.2.1.length<=100000):Zhp (d,(s,()))=some (kb d s,()):=by
 have e1:=xZ ft;rw[Qh]at e1;have e2:=abx d s hT;unfold kb;by_cases h:Pl.dF (js d)=0
 .rw[if_neg (by simpa using h)];refine ah e1 (ag (by rw[h];rfl) (ah e2 ?_));cases iN d s<;>rfl
 .rw[if_pos h];exact ah e1 (ax (by simp[h]) rfl)
def pb(cs:List (List aA.T)):Prop:=∀c∈cs,oh c
theorem aiV(d:ca.T)(aE:List Bool)(cs:List (List aA.T))(hT:d.2.2.2.2.2.2.1.length<=100000)(hc:cs.length=d.2.2.2.2.2.2.1.length)(hok:pb cs) :
  Zew ((0:Int),(d.1,(d.2.1,(d.2.2.1,(d.2.2.2.1,(d.2.2.2.2.1,(d.2.2.2.2.2.1,(d.2.2.2.2.2.2.1,(d.2.2.2.2.2.2.2.1,(aE,(cs,()))))))))))) =
   some (match(List.range d.2.2.2.2.2.2.1.length).all (kY d.2.2.2.2.2.2.1 cs)with|true=>.inr ()|false=>.inl ((14:Int),())):=by
 have hok':∀i:Nat,i<d.2.2.2.2.2.2.1.length->oh (gt (.sl aA) cs (i:Int)):=by intro i hi;have hg:=List.getElem?_eq_getElem (l:=cs) (i:=i) (by omega);rw[bF (σ:=.sl aA) hg];exact hok _ (dk (by omega))
 unfold Zew;delta kV;refine o0 (fun i:Nat=>((i:Int),(d.1,(d.2.1,(d.2.2.1,(d.2.2.2.1,(d.2.2.2.2.1,(d.2.2.2.2.2.1,(d.2.2.2.2.2.2.1,(d.2.2.2.2.2.2.2.1,(aE,(cs,())))))))))))) (kY d.2.2.2.2.2.2.1 cs) d.2.2.2.2.2.2.1.length ?_ ?_ ?_ rfl (bL (by omega))
 .intro i hi hp;have e1:=Zwj (gt ab d.2.2.2.2.2.2.1 (i:Int)).1 (gt ab d.2.2.2.2.2.2.1 (i:Int)).2.1 (gt (.sl aA) cs (i:Int)) (hok' i hi);have hp':jT (gt ab d.2.2.2.2.2.2.1 (i:Int)).1 (gt ab d.2.2.2.2.2.2.1 (i:Int)).2.1 (gt (.sl aA) cs (i:Int))=true:=hp;rw[hp']at e1
  try dsimp only
  unfold xK;have e:∀(p q:Int),p=q->(some (.inl (p,(d.1,(d.2.1,(d.2.2.1,(d.2.2.2.1,(d.2.2.2.2.1,(d.2.2.2.2.2.1,(d.2.2.2.2.2.2.1,(d.2.2.2.2.2.2.2.1,(aE,(cs,())))))))))))):Option (TL EF.σs⊕Out Et))=some (.inl (q,(d.1,(d.2.1,(d.2.2.1,(d.2.2.2.1,(d.2.2.2.2.1,(d.2.2.2.2.2.1,(d.2.2.2.2.2.2.1,(d.2.2.2.2.2.2.2.1,(aE,(cs,())))))))))))):=by rintro _ _ rfl;rfl
  exact ax (ar (show(i:Int)<(d.2.2.2.2.2.2.1.length:Int) by omega)) (ak (aK ⟨by omega,by omega⟩) (ak (aK ⟨by omega,by omega⟩) (ak (aK ⟨by omega,by omega⟩) ((cL e1).trans (ag rfl (e _ _ (cf (x:=(i:Int)+1) (by omega))))))))
 .intro i hi hp;have e1:=Zwj (gt ab d.2.2.2.2.2.2.1 (i:Int)).1 (gt ab d.2.2.2.2.2.2.1 (i:Int)).2.1 (gt (.sl aA) cs (i:Int)) (hok' i hi);have hp':jT (gt ab d.2.2.2.2.2.2.1 (i:Int)).1 (gt ab d.2.2.2.2.2.2.1 (i:Int)).2.1 (gt (.sl aA) cs (i:Int))=false:=hp;rw[hp']at e1
  try dsimp only
  unfold xK;exact ax (ar (show(i:Int)<(d.2.2.2.2.2.2.1.length:Int) by omega)) (ak (aK ⟨by omega,by omega⟩) (ak (aK ⟨by omega,by omega⟩) (ak (aK ⟨by omega,by omega⟩) ((cL e1).trans (ax rfl rfl)))))
 .try dsimp only
  unfold xK;exact ag (au (show ¬(d.2.2.2.2.2.2.1.length:Int)<(d.2.2.2.2.2.2.1.length:Int) by omega)) rfl
theorem Zya(d:ca.T)(s:gK.T)(ft:Fit (js d))(hT:d.2.2.2.2.2.2.1.length<=100000)(hok:pb s.2.1):Zbn (d,(s,()))=some (kb d s,()):=by
 have e1:=QQ ft;rw[Qh]at e1;unfold kb;by_cases h:Pl.dF (js d)=0
 .rw[if_neg (by simpa using h)];refine ah e1 (ag (by rw[h];rfl) ?_);unfold iN;by_cases h1:s.1.length=d.2.2.1.length
  .rw[bG h1];have q1:Bool.not (decide (Int.ofNat (List.length s.1)=Int.ofNat (List.length d.2.2.1)))=false:=by rw[bG (by rw[h1])];rfl
   refine ag q1 ?_;by_cases h2:s.2.1.length=d.2.2.2.2.2.2.1.length
   .rw[bG h2];have q2:Bool.not (decide (Int.ofNat (List.length s.2.1)=Int.ofNat (List.length d.2.2.2.2.2.2.1)))=false:=by rw[bG (by rw[h2])];rfl
    refine ag q2 ((cL (aiV d s.1 s.2.1 hT h2 hok)).trans ?_);cases(List.range d.2.2.2.2.2.2.1.length).all (kY d.2.2.2.2.2.2.1 s.2.1)<;>rfl
   .rw[cw h2];have q2:Bool.not (decide (Int.ofNat (List.length s.2.1)=Int.ofNat (List.length d.2.2.2.2.2.2.1)))=true:=by rw[cw (fun e=>h2 (Int.ofNat.inj e))];rfl
    exact ax q2 rfl
  .rw[cw h1];have q1:Bool.not (decide (Int.ofNat (List.length s.1)=Int.ofNat (List.length d.2.2.1)))=true:=by rw[cw (fun e=>h1 (Int.ofNat.inj e))];rfl
   exact ax q1 rfl
 .rw[if_pos h];exact ah e1 (ax (by simp[h]) rfl)
def nx{α:Type}(d:ca.T)(r:α):Int×List Int×List ae.T×List Int×List Int×List Int×List ab.T×List ae.T×α:=(d.1,(d.2.1,(d.2.2.1,(d.2.2.2.1,(d.2.2.2.2.1,(d.2.2.2.2.2.1,(d.2.2.2.2.2.2.1,(d.2.2.2.2.2.2.2.1,r))))))))
theorem ah9(x:Bool):Bool.not (@decide _ (Bool.decEq x x))=false:=by cases x<;>rfl
theorem WD(L:List Bool)(hL:L.length<=100000):EK (L,(L,()))=some (true,()):=by
 have eL:Zez (L,(L,((0:Int),())))=some (.inr ()):=by
  unfold Zez;delta u3;refine dn (fun i:Nat=>(L,(L,((i:Int),())))) L.length rfl ?_ ?_ (bL (by omega))
  .intro i hi
   try dsimp only
   unfold E8;have e:∀p q:Int,p=q->(some (.inl (L,(L,(p,())))):Option (TL EH.σs⊕Out Ey))=some (.inl (L,(L,(q,())))):=by rintro _ _ rfl;rfl
   exact ax (ar (show(i:Int)<(L.length:Int) by omega)) (ak (aK ⟨by omega,by omega⟩) (ak (aK ⟨by omega,by omega⟩) (ag (ah9 (gt .bool L (i:Int))) (e _ _ (cf (x:=(i:Int)+1) (by omega))))))
  .try dsimp only
   unfold E8;exact ag (au (show ¬(L.length:Int)<(L.length:Int) by omega)) rfl
 have q:Bool.not (decide (Int.ofNat (List.length L)=Int.ofNat (List.length L)))=false:=by rw[bG rfl];rfl
 exact ag q (ah eL rfl)
theorem aja(L:List aA.T)(hL:L.length<=100000):Zdv (L,(L,()))=some (true,()):=by
 have eL:Zey (L,(L,((0:Int),())))=some (.inr ()):=by
  unfold Zey;delta u3;refine dn (fun i:Nat=>(L,(L,((i:Int),())))) L.length rfl ?_ ?_ (bL (by omega))
  .intro i hi
   try dsimp only
   unfold E7;have q:Bool.not (both (@decide _ (Int.instDecidableEq (ez L (i:Int)) (ez L (i:Int)))) (both (@decide _ (Int.instDecidableEq (ib L (i:Int)) (ib L (i:Int)))) true))=false:=by rw[bG rfl,bG rfl];rfl
   have e:∀p q:Int,p=q->(some (.inl (L,(L,(p,())))):Option (TL EG.σs⊕Out Eu))=some (.inl (L,(L,(q,())))):=by rintro _ _ rfl;rfl
   exact ax (ar (show(i:Int)<(L.length:Int) by omega)) (ak (aK ⟨by omega,by omega⟩) (ak (aK ⟨by omega,by omega⟩) (ag q (e _ _ (cf (x:=(i:Int)+1) (by omega))))))
  .try dsimp only
   unfold E7;exact ag (au (show ¬(L.length:Int)<(L.length:Int) by omega)) rfl
 have q:Bool.not (decide (Int.ofNat (List.length L)=Int.ofNat (List.length L)))=false:=by rw[bG rfl];rfl
 exact ag q (ah eL rfl)
theorem ai9(a:List Bool)(C:List (List aA.T))(hC:C.length<=100000)(hc:∀c∈C,c.length<=100000):Zev ((0:Int),(a,(C,(a,(C,())))))=some (.inr ()):=by
 unfold Zev;delta u5;refine dn (fun i:Nat=>((i:Int),(a,(C,(a,(C,())))))) C.length rfl ?_ ?_ (bL (by omega))
 .intro i hi;have hg:=aN hi;have e1:=aja (gt (.sl aA) C (i:Int)) (by rw[bF (σ:=.sl aA) hg];exact hc _ (dk hi))
  try dsimp only
  unfold E6;have e:∀p q:Int,p=q->(some (.inl (p,(a,(C,(a,(C,())))))):Option (TL EE.σs⊕Out Es))=some (.inl (q,(a,(C,(a,(C,())))))):=by rintro _ _ rfl;rfl
  exact ax (ar (show(i:Int)<(C.length:Int) by omega)) (ak (aK ⟨by omega,by omega⟩) (ak (aK ⟨by omega,by omega⟩) ((cL e1).trans (ag rfl (e _ _ (cf (x:=(i:Int)+1) (by omega)))))))
 .try dsimp only
  unfold E6;exact ag (au (show ¬(C.length:Int)<(C.length:Int) by omega)) rfl
theorem WC(a:List Bool)(C:List (List aA.T))(ha:a.length<=100000)(hC:C.length<=100000)(hc:∀c∈C,c.length<=100000):Zgi ((a,(C,())),((a,(C,())),()))=some (true,()):=by
 have q:Bool.not (decide (Int.ofNat (List.length C)=Int.ofNat (List.length C)))=false:=by rw[bG rfl];rfl
 exact ah (WD a ha) (ag rfl (ag q (ah (ai9 a C hC hc) rfl)))
def vz(R:List bg.T)(i:Int):Nat:=List.length (gt bg R i).2.1
def oH(R:List bg.T)(i:Int):Int:=(gt bg R i).1
def ql(R:List bg.T)(i:Nat):Bool:=decide (vz R (i:Int)<=100)&&decide (oH R (i:Int)<=1099511627776)&&decide (-1099511627776<=oH R (i:Int))
def vH(R:List aH.T)(i:Int):Nat:=List.length (gt aH R i).2.1
def vG(R:List aH.T)(i:Int):Nat:=List.length (gt aH R i).2.2.1
def qm(R:List aH.T)(i:Nat):Bool:=decide (vH R (i:Int)<=100)&&decide (vG R (i:Int)<=100)
theorem XB(d:ca.T)(t a w:Int)(y:Bool)(R:List bg.T)(W:List aH.T)(hR:R.length<=100000) :
  OV (t,((0:Int),nx d (a,(w,(y,(R,(W,())))))))=some (match(List.range R.length).all (ql R)with|true=>.inr (t,nx d (a,(w,(y,(R,(W,()))))))|false=>.inl (false,())):=by
 unfold OV;delta fB;refine o0 (fun i:Nat=>(t,((i:Int),nx d (a,(w,(y,(R,(W,())))))))) (ql R) R.length ?_ ?_ ?_ rfl (bL (by omega))
 .intro i hi hp;unfold ql at hp;simp only[Bool.and_eq_true,decide_eq_true_eq]at hp;obtain⟨⟨h1,h2⟩,h3⟩:=hp;have aY:av (i:Int) (List.length R)=true:=aK ⟨by omega,by omega⟩;unfold nx
  try dsimp only
  unfold xF;have e:∀p q:Int,p=q->(some (.inl (t,(p,nx d (a,(w,(y,(R,(W,())))))))):Option (TL Ec.σs⊕Out D9))=some (.inl (t,(q,nx d (a,(w,(y,(R,(W,())))))))):=by rintro _ _ rfl;rfl
  exact ax (ar (show(i:Int)<(R.length:Int) by omega)) (ak aY (ag (au (show ¬(100:Int)<((vz R (i:Int):Nat):Int) by omega)) (ak aY (ag (au (show ¬(1099511627776:Int)<oH R (i:Int) by omega)) (ak aY (ag (au (show ¬oH R (i:Int)<Int.negSucc 1099511627775 by omega)) (e _ _ (cf (x:=(i:Int)+1) (by omega)))))))))
 .intro i hi hp;have aY:av (i:Int) (List.length R)=true:=aK ⟨by omega,by omega⟩;unfold nx
  try dsimp only
  unfold xF;refine ax (ar (show(i:Int)<(R.length:Int) by omega)) (ak aY ?_);by_cases h1:(100:Int)<((vz R (i:Int):Nat):Int)
  .exact ax (ar h1) rfl
  refine ag (au h1) (ak aY ?_);by_cases h2:(1099511627776:Int)<oH R (i:Int)
  .exact ax (ar h2) rfl
  refine ag (au h2) (ak aY ?_);by_cases h3:oH R (i:Int)<Int.negSucc 1099511627775
  .exact ax (ar h3) rfl
  unfold ql at hp;rw[bG (show vz R (i:Int)<=100 by omega),bG (show oH R (i:Int)<=1099511627776 by omega),bG (show -1099511627776<=oH R (i:Int) by omega)]at hp;cases hp
 .unfold nx
  try dsimp only
  unfold xF;exact ag (au (show ¬(R.length:Int)<(R.length:Int) by omega)) rfl
theorem XA(d:ca.T)(t a w:Int)(y:Bool)(R:List bg.T)(W:List aH.T)(hW:W.length<=100000) :
  OU (t,((0:Int),nx d (a,(w,(y,(R,(W,())))))))=some (match(List.range W.length).all (qm W)with|true=>.inr (t,nx d ())|false=>.inl (false,())):=by
 unfold OU;delta fB;refine o0 (fun i:Nat=>(t,((i:Int),nx d (a,(w,(y,(R,(W,())))))))) (qm W) W.length ?_ ?_ ?_ rfl (bL (by omega))
 .intro i hi hp;unfold qm at hp;simp only[Bool.and_eq_true,decide_eq_true_eq]at hp;obtain⟨h1,h2⟩:=hp;have aY:av (i:Int) (List.length W)=true:=aK ⟨by omega,by omega⟩;unfold nx
  try dsimp only
  unfold xE;have e:∀p q:Int,p=q->(some (.inl (t,(p,nx d (a,(w,(y,(R,(W,())))))))):Option (TL Eb.σs⊕Out D8))=some (.inl (t,(q,nx d (a,(w,(y,(R,(W,())))))))):=by rintro _ _ rfl;rfl
  exact ax (ar (show(i:Int)<(W.length:Int) by omega)) (ak aY (ag (au (show ¬(100:Int)<((vH W (i:Int):Nat):Int) by omega)) (ak aY (ag (au (show ¬(100:Int)<((vG W (i:Int):Nat):Int) by omega)) (e _ _ (cf (x:=(i:Int)+1) (by omega)))))))
 .intro i hi hp;have aY:av (i:Int) (List.length W)=true:=aK ⟨by omega,by omega⟩;unfold nx
  try dsimp only
  unfold xE;refine ax (ar (show(i:Int)<(W.length:Int) by omega)) (ak aY ?_);by_cases h1:(100:Int)<((vH W (i:Int):Nat):Int)
  .exact ax (ar h1) rfl
  refine ag (au h1) (ak aY ?_);by_cases h2:(100:Int)<((vG W (i:Int):Nat):Int)
  .exact ax (ar h2) rfl
  unfold qm at hp;rw[bG (show vH W (i:Int)<=100 by omega),bG (show vG W (i:Int)<=100 by omega)]at hp;cases hp
 .unfold nx
  try dsimp only
  unfold xE;exact ag (au (show ¬(W.length:Int)<(W.length:Int) by omega)) rfl
def lW(T:List ab.T)(i:Int):List bg.T:=(gt ab T i).2.2.2.1
def lY(T:List ab.T)(i:Int):List aH.T:=(gt ab T i).2.2.2.2.1
def oE(T:List ab.T)(i:Int):Int:=(gt ab T i).2.1
def p4(T:List ab.T)(i:Nat):Bool:=decide ((lW T (i:Int)).length<=6)&&decide ((lY T (i:Int)).length<=6)&&decide (oE T (i:Int)<=100) &&
 (List.range (lW T (i:Int)).length).all (ql (lW T (i:Int)))&&(List.range (lY T (i:Int)).length).all (qm (lY T (i:Int)))
theorem ahA(d:ca.T)(hT:d.2.2.2.2.2.2.1.length<=100000) :
  Zen ((0:Int),nx d ())=some (match(List.range d.2.2.2.2.2.2.1.length).all (p4 d.2.2.2.2.2.2.1)with|true=>.inr ()|false=>.inl (false,())):=by
 unfold Zen;delta u9;refine o0 (fun i:Nat=>((i:Int),nx d ())) (p4 d.2.2.2.2.2.2.1) d.2.2.2.2.2.2.1.length ?_ ?_ ?_ rfl (bL (by omega))
 .intro i hi hp;unfold p4 at hp;simp only[Bool.and_eq_true,decide_eq_true_eq]at hp;obtain⟨⟨⟨⟨h1,h2⟩,h3⟩,h4⟩,h5⟩:=hp;have aY:av (i:Int) (List.length d.2.2.2.2.2.2.1)=true:=aK ⟨by omega,by omega⟩;have e10:=XB d (i:Int) (gt ab d.2.2.2.2.2.2.1 (i:Int)).1 (oE d.2.2.2.2.2.2.1 (i:Int)) (gt ab d.2.2.2.2.2.2.1 (i:Int)).2.2.1 (lW d.2.2.2.2.2.2.1 (i:Int)) (lY d.2.2.2.2.2.2.1 (i:Int)) (by omega);have e15:=XA d (i:Int) (gt ab d.2.2.2.2.2.2.1 (i:Int)).1 (oE d.2.2.2.2.2.2.1 (i:Int)) (gt ab d.2.2.2.2.2.2.1 (i:Int)).2.2.1 (lW d.2.2.2.2.2.2.1 (i:Int)) (lY d.2.2.2.2.2.2.1 (i:Int)) (by omega);rw[h4]at e10;rw[h5]at e15;unfold nx at e10 e15 |-
  try dsimp only
  unfold xJ;have e:∀p q:Int,p=q->(some (.inl (p,nx d ())):Option (TL ED.σs⊕Out Ep))=some (.inl (q,nx d ())):=by rintro _ _ rfl;rfl
  exact ax (ar (show(i:Int)<(d.2.2.2.2.2.2.1.length:Int) by omega)) (ak aY (ag (au (show ¬(6:Int)<(((lW d.2.2.2.2.2.2.1 (i:Int)).length:Nat):Int) by omega)) (ag (au (show ¬(6:Int)<(((lY d.2.2.2.2.2.2.1 (i:Int)).length:Nat):Int) by omega)) (ag (au (show ¬(100:Int)<oE d.2.2.2.2.2.2.1 (i:Int) by omega)) ((cL e10).trans ((cL e15).trans (e _ _ (cf (x:=(i:Int)+1) (by omega)))))))))
 .intro i hi hp;have aY:av (i:Int) (List.length d.2.2.2.2.2.2.1)=true:=aK ⟨by omega,by omega⟩;unfold nx
  try dsimp only
  unfold xJ;refine ax (ar (show(i:Int)<(d.2.2.2.2.2.2.1.length:Int) by omega)) (ak aY ?_);by_cases h1:(6:Int)<(((lW d.2.2.2.2.2.2.1 (i:Int)).length:Nat):Int)
  .exact ax (ar h1) rfl
  refine ag (au h1) ?_;by_cases h2:(6:Int)<(((lY d.2.2.2.2.2.2.1 (i:Int)).length:Nat):Int)
  .exact ax (ar h2) rfl
  refine ag (au h2) ?_;by_cases h3:(100:Int)<oE d.2.2.2.2.2.2.1 (i:Int)
  .exact ax (ar h3) rfl
  refine ag (au h3) ?_;have e10:=XB d (i:Int) (gt ab d.2.2.2.2.2.2.1 (i:Int)).1 (oE d.2.2.2.2.2.2.1 (i:Int)) (gt ab d.2.2.2.2.2.2.1 (i:Int)).2.2.1 (lW d.2.2.2.2.2.2.1 (i:Int)) (lY d.2.2.2.2.2.2.1 (i:Int)) (by omega);have e15:=XA d (i:Int) (gt ab d.2.2.2.2.2.2.1 (i:Int)).1 (oE d.2.2.2.2.2.2.1 (i:Int)) (gt ab d.2.2.2.2.2.2.1 (i:Int)).2.2.1 (lW d.2.2.2.2.2.2.1 (i:Int)) (lY d.2.2.2.2.2.2.1 (i:Int)) (by omega);refine(cL e10).trans ?_;cases h4:(List.range (lW d.2.2.2.2.2.2.1 (i:Int)).length).all (ql (lW d.2.2.2.2.2.2.1 (i:Int)))with|false=>rfl|true=>refine(cL e15).trans ?_;cases h5:(List.range (lY d.2.2.2.2.2.2.1 (i:Int)).length).all (qm (lY d.2.2.2.2.2.2.1 (i:Int)))with|false=>rfl|true=>unfold p4 at hp;rw[h4,h5,bG (show(lW d.2.2.2.2.2.2.1 (i:Int)).length<=6 by omega),bG (show(lY d.2.2.2.2.2.2.1 (i:Int)).length<=6 by omega),bG (show oE d.2.2.2.2.2.2.1 (i:Int)<=100 by omega)]at hp;cases hp
 .unfold nx
  try dsimp only
  unfold xJ;exact ag (au (show ¬(d.2.2.2.2.2.2.1.length:Int)<(d.2.2.2.2.2.2.1.length:Int) by omega)) rfl
def ui(d:ca.T):Prop:=List.length d.2.1<=2100/\List.length d.2.2.1<=2100/\List.length d.2.2.2.2.2.2.2.1<=2100/\List.length d.2.2.2.1<=1100/\List.length d.2.2.2.2.1<=1100/\List.length d.2.2.2.2.2.1<=1100/\List.length d.2.2.2.2.2.2.1<=6 /\
 (List.range d.2.2.2.2.2.2.1.length).all (p4 d.2.2.2.2.2.2.1)=true
theorem ajC(d:ca.T):∃b,O7 (d,())=some (b,())/\(b=true->ui d):=by
 have key:∀{b:Bool},(b=true->ui d)->O7 (d,())=some (b,())->∃b,O7 (d,())=some (b,())/\(b=true->ui d):=fun h e=>⟨_,e,h⟩;by_cases h1:(2100:Int)<((List.length d.2.1:Nat):Int)
 .exact key (fun h=>by cases h) (ax (ar h1) rfl)
 by_cases h2:(2100:Int)<((List.length d.2.2.1:Nat):Int)
 .exact key (fun h=>by cases h) (ag (au h1) (ax (ar h2) rfl))
 by_cases h3:(2100:Int)<((List.length d.2.2.2.2.2.2.2.1:Nat):Int)
 .exact key (fun h=>by cases h) (ag (au h1) (ag (au h2) (ax (ar h3) rfl)))
 by_cases h4:(1100:Int)<((List.length d.2.2.2.1:Nat):Int)
 .exact key (fun h=>by cases h) (ag (au h1) (ag (au h2) (ag (au h3) (ax (ar h4) rfl))))
 by_cases h5:(1100:Int)<((List.length d.2.2.2.2.1:Nat):Int)
 .exact key (fun h=>by cases h) (ag (au h1) (ag (au h2) (ag (au h3) (ag (au h4) (ax (ar h5) rfl)))))
 by_cases h6:(1100:Int)<((List.length d.2.2.2.2.2.1:Nat):Int)
 .exact key (fun h=>by cases h) (ag (au h1) (ag (au h2) (ag (au h3) (ag (au h4) (ag (au h5) (ax (ar h6) rfl))))))
 by_cases h7:(6:Int)<((List.length d.2.2.2.2.2.2.1:Nat):Int)
 .exact key (fun h=>by cases h) (ag (au h1) (ag (au h2) (ag (au h3) (ag (au h4) (ag (au h5) (ag (au h6) (ax (ar h7) rfl)))))))
 have e4:=ahA d (by omega);cases h8:(List.range d.2.2.2.2.2.2.1.length).all (p4 d.2.2.2.2.2.2.1)with
 |false=>rw[h8]at e4;exact key (fun h=>by cases h) (ag (au h1) (ag (au h2) (ag (au h3) (ag (au h4) (ag (au h5) (ag (au h6) (ag (au h7) (ah e4 rfl))))))))
 |true=>rw[h8]at e4;exact key (fun _=>⟨by omega,by omega,by omega,by omega,by omega,by omega,by omega,h8⟩) (ag (au h1) (ag (au h2) (ag (au h3) (ag (au h4) (ag (au h5) (ag (au h6) (ag (au h7) (ah e4 rfl))))))))
theorem ajB(d:ca.T):∃b,Zcw (d,())=some (b,())/\(b=true->ui d):=by
 obtain⟨b,e,h⟩:=ajC d;cases b with
 |false=>exact⟨false,ah e rfl,fun q=>by cases q⟩
 |true=>
  by_cases h1:((List.length d.2.2.2.2.2.2.2.1:Nat):Int)<=100
  .by_cases h2:((List.length d.2.1:Nat):Int)<=100
   .by_cases h3:((List.length d.2.2.1:Nat):Int)<=100
    .exact⟨_,ah e (ax rfl (ax (ar h1) (ax (ar h2) (ax (ar h3) rfl)))),fun _=>h rfl⟩
    .exact⟨false,ah e (ax rfl (ax (ar h1) (ax (ar h2) (ag (au h3) rfl)))),fun q=>by cases q⟩
   .exact⟨false,ah e (ax rfl (ax (ar h1) (ag (au h2) rfl))),fun q=>by cases q⟩
  .exact⟨false,ah e (ax rfl (ag (au h1) rfl)),fun q=>by cases q⟩
def qW(C:List (List aA.T))(i:Int):Nat:=List.length (gt (.sl aA) C i)
def q9(I:List (List Bool))(i:Int):Nat:=List.length (gt (.sl .bool) I i)
theorem aj4(aE:List Bool)(C:List (List aA.T))(I:List (List Bool))(hC:C.length<=100000) :
  Zek (I,((0:Int),(aE,(C,()))))=some (match(List.range C.length).all (fun i=>decide (qW C ((i:Nat):Int)<=100))with|true=>.inr (I,())|false=>.inl (false,())):=by
 unfold Zek;delta u4;refine o0 (fun i:Nat=>(I,((i:Int),(aE,(C,()))))) (fun i=>decide (qW C ((i:Nat):Int)<=100)) C.length ?_ ?_ ?_ rfl (bL (by omega))
 .intro i hi hp;have hp:=of_decide_eq_true hp
  try dsimp only
  unfold xI;have e:∀p q:Int,p=q->(some (.inl (I,(p,(aE,(C,()))))):Option (TL EC.σs⊕Out Eo))=some (.inl (I,(q,(aE,(C,()))))):=by rintro _ _ rfl;rfl
  exact ax (ar (show(i:Int)<(C.length:Int) by omega)) (ak (aK ⟨by omega,by omega⟩) (ag (au (show ¬(100:Int)<((qW C (i:Int):Nat):Int) by omega)) (e _ _ (cf (x:=(i:Int)+1) (by omega)))))
 .intro i hi hp;have hp:=of_decide_eq_false hp
  try dsimp only
  unfold xI;exact ax (ar (show(i:Int)<(C.length:Int) by omega)) (ak (aK ⟨by omega,by omega⟩) (ax (ar (show(100:Int)<((qW C (i:Int):Nat):Int) by omega)) rfl))
 .try dsimp only
  unfold xI;exact ag (au (show ¬(C.length:Int)<(C.length:Int) by omega)) rfl
theorem aj3(I:List (List Bool))(hI:I.length<=100000) :
  Zej (I,((0:Int),()))=some (match(List.range I.length).all (fun i=>decide (q9 I ((i:Nat):Int)<=200))with|true=>.inr ()|false=>.inl (false,())):=by
 unfold Zej;delta u2;refine o0 (fun i:Nat=>(I,((i:Int),()))) (fun i=>decide (q9 I ((i:Nat):Int)<=200)) I.length ?_ ?_ ?_ rfl (bL (by omega))
 .intro i hi hp;have hp:=of_decide_eq_true hp
  try dsimp only
  unfold xH;have e:∀p q:Int,p=q->(some (.inl (I,(p,()))):Option (TL EB.σs⊕Out Em))=some (.inl (I,(q,()))):=by rintro _ _ rfl;rfl
  exact ax (ar (show(i:Int)<(I.length:Int) by omega)) (ak (aK ⟨by omega,by omega⟩) (ag (au (show ¬(200:Int)<((q9 I (i:Int):Nat):Int) by omega)) (e _ _ (cf (x:=(i:Int)+1) (by omega)))))
 .intro i hi hp;have hp:=of_decide_eq_false hp
  try dsimp only
  unfold xH;exact ax (ar (show(i:Int)<(I.length:Int) by omega)) (ak (aK ⟨by omega,by omega⟩) (ax (ar (show(200:Int)<((q9 I (i:Int):Nat):Int) by omega)) rfl))
 .try dsimp only
  unfold xH;exact ag (au (show ¬(I.length:Int)<(I.length:Int) by omega)) rfl
def ahB(aE:List Bool)(C:List (List aA.T))(I:List (List Bool)):Prop:=aE.length<=200/\C.length<=10/\I.length<=40/\(∀i:Nat,i<C.length->qW C (i:Int)<=100)/\∀i:Nat,i<I.length->q9 I (i:Int)<=200
theorem ajA(d:ca.T)(aE:List Bool)(C:List (List aA.T))(I:List (List Bool)):∃b,Zfz (d,((aE,(C,())),(I,())))=some (b,())/\(b=true->ui d/\ahB aE C I):=by
 obtain⟨b,e,h⟩:=ajB d;cases b with
 |false=>exact⟨false,ah e (ax rfl rfl),fun q=>by cases q⟩
 |true=>
  by_cases h1:(200:Int)<((aE.length:Nat):Int)
  .exact⟨false,ah e (ag rfl (ax (ar h1) rfl)),fun q=>by cases q⟩
  by_cases h2:(10:Int)<((C.length:Nat):Int)
  .exact⟨false,ah e (ag rfl (ag (au h1) (ax (ar h2) rfl))),fun q=>by cases q⟩
  by_cases h3:(40:Int)<((I.length:Nat):Int)
  .exact⟨false,ah e (ag rfl (ag (au h1) (ag (au h2) (ax (ar h3) rfl)))),fun q=>by cases q⟩
  have e4:=aj4 aE C I (by omega);have e9:=aj3 I (by omega);cases h4:(List.range C.length).all (fun i=>decide (qW C ((i:Nat):Int)<=100))with
  |false=>rw[h4]at e4;exact⟨false,ah e (ag rfl (ag (au h1) (ag (au h2) (ag (au h3) (ah e4 rfl))))),fun q=>by cases q⟩
  |true=>
   rw[h4]at e4;cases h5:(List.range I.length).all (fun i=>decide (q9 I ((i:Nat):Int)<=200))with
   |false=>rw[h5]at e9;exact⟨false,ah e (ag rfl (ag (au h1) (ag (au h2) (ag (au h3) (ah e4 (ah e9 rfl)))))),fun q=>by cases q⟩
   |true=>
    rw[h5]at e9;have h4':∀i:Nat,i<C.length->qW C (i:Int)<=100:=by simpa[List.all_eq_true]using h4
    have h5':∀i:Nat,i<I.length->q9 I (i:Int)<=200:=by simpa[List.all_eq_true]using h5
    exact⟨true,ah e (ag rfl (ag (au h1) (ag (au h2) (ag (au h3) (ah e4 (ah e9 rfl)))))),fun _=>⟨h rfl,by omega,by omega,by omega,h4',h5'⟩⟩
theorem wf_i64{n:Int}(h:(Lit.int .i64 n).wf=true):cS n:=by
 simp only[Lit.wf,Bool.and_eq_true,decide_eq_true_eq]at h;have h1:IntKind.i64.min = -9223372036854775808:=by decide
 have h2:IntKind.i64.max=9223372036854775807:=by decide
 rw[h1,h2]at h;exact h
theorem wf_u64{n:Int}(h:(Lit.int .u64 n).wf=true):0<=n/\n<=18446744073709551615:=by
 simp only[Lit.wf,Bool.and_eq_true,decide_eq_true_eq]at h;have h1:IntKind.u64.min=0:=by decide
 have h2:IntKind.u64.max=18446744073709551615:=by decide
 rw[h1,h2]at h;exact h
theorem rJ{L:List Int}(h:lj (.sl (.int .i64)) L):∀x∈L,cS x:=fun x hx=>wf_i64 (h.2 x hx)
theorem ahK{c:List aA.T}(h:lj (.sl aA) c):oh c:=by intro i hi;have hg:=aN hi;have hc:=h.2 _ (dk hi);unfold ez ib;rw[bF (σ:=aA) hg];exact⟨wf_u64 hc.1,wf_u64 hc.2.1⟩
theorem ahL{C:List (List aA.T)}(h:lj (.sl (.sl aA)) C):pb C:=fun c hc=>ahK (h.2 c hc)
theorem vR{α β:Type}(f:α->β)(L:List α){n k:Nat}(h:L.length<=n)(hk:n<=k):(L.map f).length<=k:=by rw[aI];omega
theorem agq{m:ab.T}(h:lj ab m)(hr:List.length m.2.2.2.1<=6)(hw:List.length m.2.2.2.2.1<=6)(hword:@LE.le Int _ m.2.1 100)
  (h10:lD (α:=bg.T) (fun r=>List.length r.2.1<=100/\@LE.le Int _ r.1 1099511627776/\@LE.le Int _ (-1099511627776) r.1) m.2.2.2.1) (h15:lD (α:=aH.T) (fun r=>List.length r.2.1<=100/\List.length r.2.2.1<=100) m.2.2.2.2.1):Bp (nS m):=by
 obtain⟨a1,a2,a3,a4,a5,_⟩:=h;refine⟨⟨wf_i64 a2,Int.le_trans hword (by decide)⟩,wf_i64 a1,?_,?_,?_,?_⟩
 .exact vR qE _ hr (by decide)
 .exact vR rI _ hw (by decide)
 .intro r hr;obtain⟨r',hr',rfl⟩:=List.mem_map.1 hr;obtain⟨b1,b2,b3⟩:=h10 r' hr';have hk:=a4.2 r' hr';exact⟨dK b1 (by decide),b3,b2,rJ hk.2.1⟩
 .intro r hr;obtain⟨r',hr',rfl⟩:=List.mem_map.1 hr;obtain⟨b1,b2⟩:=h15 r' hr';have hk:=a5.2 r' hr';exact⟨dK b1 (by decide),dK b2 (by decide),wf_i64 hk.1,rJ hk.2.1,rJ hk.2.2.1⟩
theorem KC{α:Type}{σ:Sh}{L:List σ.T}{p:Nat->Bool}{Q:σ.T->Prop}(h:(List.range L.length).all p=true)(hq:∀i x,L[i]?=some x->p i=true->Q x):lD Q L:=by
 have h':∀i,i<L.length->p i=true:=by simpa[List.all_eq_true]using h
 intro x hx;obtain⟨i,hi⟩:=List.getElem?_of_mem hx;exact hq i x hi (h' i (WM hi))
theorem ahr{d:ca.T}(h:lj ca d)(hl:ui d):Fit (js d):=by
 obtain⟨a1,a2,a3,a4,a5,a6,a7,a8,_⟩:=h;obtain⟨b1,b2,b3,b4,b5,b6,b7,b8⟩:=hl;have lat3:lD (α:=ae.T) (fun x=>cS x.1/\cS x.2.1/\cS x.2.2.1) d.2.2.1:=fun x hx=>by have:=a3.2 x hx;exact⟨wf_i64 this.1,wf_i64 this.2.1,wf_i64 this.2.2.1⟩
 have and3:lD (α:=ae.T) (fun x=>cS x.1/\cS x.2.1/\cS x.2.2.1) d.2.2.2.2.2.2.2.1:=fun x hx=>by have:=a8.2 x hx;exact⟨wf_i64 this.1,wf_i64 this.2.1,wf_i64 this.2.2.1⟩
 refine⟨wf_i64 a1,⟨dK b1 (by decide),rJ a2⟩,⟨?_,?_⟩,⟨dK b4 (by decide),rJ a4⟩,⟨dK b5 (by decide),rJ a5⟩,⟨dK b6 (by decide),rJ a6⟩,⟨?_,?_⟩,⟨?_,?_⟩⟩
 .exact vR mq _ b2 (by decide)
 .intro l hl;obtain⟨x,hx,rfl⟩:=List.mem_map.1 hl;exact lat3 x hx
 .exact vR nS _ b7 (by decide)
 .intro m hm;obtain⟨x,hx,rfl⟩:=List.mem_map.1 hm;have hQ:=KC (α:=Unit) (σ:=ab) (Q:=fun x=>List.length x.2.2.2.1<=6/\List.length x.2.2.2.2.1<=6/\@LE.le Int _ x.2.1 100/\(List.range (List.length x.2.2.2.1)).all (ql x.2.2.2.1)=true/\(List.range (List.length x.2.2.2.2.1)).all (qm x.2.2.2.2.1)=true) b8 (fun i x hi hp=>by unfold p4 lW lY oE at hp;rw[bF (σ:=ab) hi]at hp;simp only[Bool.and_eq_true,decide_eq_true_eq]at hp;exact⟨hp.1.1.1.1,hp.1.1.1.2,hp.1.1.2,hp.1.2,hp.2⟩) x hx;obtain⟨c1,c2,c3,c4,c5⟩:=hQ;refine agq (a7.2 x hx) c1 c2 c3 ?_ ?_
  .exact KC (α:=Unit) (σ:=bg) c4 (fun i r hi hp=>by unfold ql vz oH at hp;rw[bF (σ:=bg) hi]at hp;simp only[Bool.and_eq_true,decide_eq_true_eq]at hp;exact⟨hp.1.1,hp.1.2,hp.2⟩)
  .exact KC (α:=Unit) (σ:=aH) c5 (fun i r hi hp=>by unfold qm vH vG at hp;rw[bF (σ:=aH) hi]at hp;simp only[Bool.and_eq_true,decide_eq_true_eq]at hp;exact hp)
 .exact vR nR _ b3 (by decide)
 .intro l hl;obtain⟨x,hx,rfl⟩:=List.mem_map.1 hl;exact and3 x hx
