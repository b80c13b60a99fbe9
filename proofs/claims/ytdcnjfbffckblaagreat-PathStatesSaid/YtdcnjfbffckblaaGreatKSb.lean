import Derived.Test.YtdcnjfbffckblaaGreatKSa
import Derived.Test.YtdcnjfbffckblaaGreatKNe
set_option linter.unusedVariables false
set_option linter.unusedSimpArgs false
set_option linter.unnecessarySimpa false
section
namespace Go.Proofs.YtdcnjfbffckblaaGreat.V
open Go Go.RowKit
theorem nL{D O:Type}{B:D->Option (D⊕O)}(f:Nat->D)(p:Nat->Bool){bad good:O}(n:Nat)(hs:∀i,i<n->p i=true->B (f i)=some (.inl (f (i+1))))(hf:∀i,i<n->p i=false->B (f i)=some (.inr bad))
  (he:B (f n)=some (.inr good)) {d:D}(hd:d=f 0) {N:Nat}(hN:n<N):bj B N d=some (match(List.range n).all p with|true=>good|false=>bad):=by
 subst hd;have hall:((List.range n).all p=true↔∀i,i<n->p i=true):=by simp[List.all_eq_true]
 have main:∀k i,i+k=n->(∀j,j<i->p j=true)->∀N,k<N->bj B N (f i)=some (match(List.range n).all p with|true=>good|false=>bad):=by
  intro k
  induction k with
  |zero=>
   intro i hi hp N hN;have:i=n:=by omega
   subst this;obtain⟨N,rfl⟩:∃M,N=M+1:=⟨N-1,by omega⟩;rw[hall.2 hp];simp only[bj,he]
  |succ k ih=>
   intro i hi hp N hN;obtain⟨N,rfl⟩:∃M,N=M+1:=⟨N-1,by omega⟩;cases hq:p i with
   |true=>
    simp only[bj,hs i (by omega) hq];exact ih (i+1) (by omega) (fun j hj=>by
     by_cases e:j=i
     .subst e;exact hq
     .exact hp j (by omega)) N (by omega)
   |false=>
    have hz:(List.range n).all p=false:=by cases hz:(List.range n).all p with|false=>rfl|true=>have:=hall.1 hz i (by omega);rw[hq]at this;cases this
    simp only[bj,hf i (by omega) hq,hz]
 exact main n 0 (by omega) (fun j hj=>by omega) N hN
def ky(v w:Int):Bool:=decide (v / 2^w.toNat=0)
theorem o7{x:Int}(h:0<=x/\x<=18446744073709551615):IntKind.wrap (.u64:IntKind) x=x:=by unfold IntKind.wrap;simp[IntKind.bits,IntKind.signed];omega
theorem yK{v w:Int}(hv:0<=v/\v<=18446744073709551615)(hw:0<=w/\w<=64):E0 (v,(w,()))=some (ky v w,()):=by
 obtain⟨W,rfl⟩:=Int.eq_ofNat_of_zero_le hw.1;have hL:P6 (v,((W:Int),((0:Int),())))=some (v / 2^W,()):=by
  unfold P6;delta u3;refine dg (fun k:Nat=>(v / 2^k,((W:Int),((k:Int),())))) W (by rw[Int.pow_zero,Int.ediv_one];rfl) ?_ ?_ (bM (by omega))
  .intro k hk;have h0:0<=v / 2^k:=Int.ediv_nonneg hv.1 (Int.pow_nonneg (by decide));have h1:v / 2^k<=v:=Int.ediv_le_self _ hv.1
   try dsimp only
   unfold xV;have hsel:bD true (@decide _ (Int.decLt (k:Int) (64:Int))) false=decide ((k:Int)<64):=by unfold bD;cases decide ((k:Int)<64)<;>rfl
   rw[gz (ax (by omega)),hsel,gz (ax (by omega))];rw[Int.tdiv_eq_ediv_of_nonneg h0,o7 ⟨Int.ediv_nonneg h0 (by decide),by omega⟩,bR (x:=(k:Int)+1) (by omega),Int.ediv_ediv_of_nonneg (Int.pow_nonneg (by decide)),<-Int.pow_succ];rfl
  .try dsimp only
   unfold xV;rw[eK (aj (by omega))];rfl
 exact aE hL rfl
def eF(L:List ar.T)(i:Int):Int:=(gt ar L i).1
def gK(L:List ar.T)(i:Int):Int:=(gt ar L i).2.1
def jl(a w:Int)(L:List ar.T)(i:Nat):Bool:=!decide (gK L (i:Int)=0)&&ky (eF L (i:Int)) a&&ky (gK L (i:Int)) w&&(decide (i=0)||decide (eF L ((i:Int)-1)<eF L (i:Int)))
def nY(a w:Int)(L:List ar.T):Bool:=decide (1<=a)&&decide (a<=62)&&decide (1<=w)&&decide (w<=64)&&decide (L.length<=4096)&&(List.range L.length).all (jl a w L)
def pS(L:List ar.T):Prop:=∀i:Nat,i<L.length->(0<=eF L (i:Int)/\eF L (i:Int)<=18446744073709551615)/\(0<=gK L (i:Int)/\gK L (i:Int)<=18446744073709551615)
theorem Zzg{a w:Int}(ha:1<=a/\a<=62)(hw:1<=w/\w<=64)(L:List ar.T)(hl:L.length<=4096)(hok:pS L) :
  E6 (a,(w,(L,((0:Int),()))))=some (match(List.range L.length).all (jl a w L)with|true=>.inr ()|false=>.inl (false,())):=by
 unfold E6;delta u4;refine nL (fun i:Nat=>(a,(w,(L,((i:Int),()))))) (jl a w L) L.length ?_ ?_ ?_ rfl (bM (by omega))
 .intro i hi hp;unfold jl at hp;simp only[Bool.and_eq_true,Bool.not_eq_true',decide_eq_false_iff_not]at hp;obtain⟨⟨⟨h1,h2⟩,h3⟩,h4⟩:=hp;have e1:=yK (v:=eF L (i:Int)) (w:=a) (hok i hi).1 ⟨by omega,by omega⟩;have e2:=yK (v:=gK L (i:Int)) (w:=w) (hok i hi).2 ⟨by omega,by omega⟩;have ba:ah (i:Int) (List.length L)=true:=aP ⟨by omega,by omega⟩
  try dsimp only
  unfold sf;refine ao (ax (show(i:Int)<(L.length:Int) by omega)) ?_;have e:∀p q:Int,p=q->(some (.inl (a,(w,(L,(p,()))))):Option (TL xu.σs⊕Out xj))=some (.inl (a,(w,(L,(q,()))))):=by rintro _ _ rfl;rfl
  by_cases h0:i=0
  .exact ag (aj (show ¬(0:Int)<(i:Int) by omega)) (ai ba ((bW e1).trans (ag (by rw[h2];rfl) (ai ba ((bW e2).trans (ag (by rw[h3];rfl) (ai ba (ag (aj h1) (e _ _ (bR (x:=(i:Int)+1) (by omega)))))))))))
  .have hm:IntKind.wrap (.i64:IntKind) ((i:Int)-1)=(i:Int)-1:=bR (by omega);rw[hm];simp only[Bool.or_eq_true,decide_eq_true_eq]at h4;refine ao (ax (show(0:Int)<(i:Int) by omega)) (ai ba (ai (aP ⟨by omega,by omega⟩) (ag (aj (show ¬eF L (i:Int)<=eF L ((i:Int)-1) by omega)) ?_)));exact ai ba ((bW e1).trans (ag (by rw[h2];rfl) (ai ba ((bW e2).trans (ag (by rw[h3];rfl) (ai ba (ag (aj h1) (e _ _ (bR (x:=(i:Int)+1) (by omega))))))))))
 .intro i hi hp;have ba:ah (i:Int) (List.length L)=true:=aP ⟨by omega,by omega⟩;have e1:=yK (v:=eF L (i:Int)) (w:=a) (hok i hi).1 ⟨by omega,by omega⟩;have e2:=yK (v:=gK L (i:Int)) (w:=w) (hok i hi).2 ⟨by omega,by omega⟩
  try dsimp only
  unfold sf;refine ao (ax (show(i:Int)<(L.length:Int) by omega)) ?_;unfold jl at hp;by_cases h0:i=0
  .refine ag (aj (show ¬(0:Int)<(i:Int) by omega)) (ai ba ((bW e1).trans ?_));cases h2:ky (eF L (i:Int)) a with
   |false=>exact ao rfl rfl|true=>
    refine ag rfl (ai ba ((bW e2).trans ?_));cases h3:ky (gK L (i:Int)) w with
    |false=>exact ao rfl rfl|true=>
     by_cases h1:gK L (i:Int)=0
     .exact ag rfl (ai ba (ao (ax h1) rfl))
     .rw[cw h1,h2,h3,bF h0]at hp;cases hp
  .have hm:IntKind.wrap (.i64:IntKind) ((i:Int)-1)=(i:Int)-1:=bR (by omega);rw[hm];refine ao (ax (show(0:Int)<(i:Int) by omega)) (ai ba (ai (aP ⟨by omega,by omega⟩) ?_));by_cases h4:eF L (i:Int)<=eF L ((i:Int)-1)
   .exact ao (ax h4) rfl
   refine ag (aj h4) (ai ba ((bW e1).trans ?_));cases h2:ky (eF L (i:Int)) a with
   |false=>exact ao rfl rfl|true=>
    refine ag rfl (ai ba ((bW e2).trans ?_));cases h3:ky (gK L (i:Int)) w with
    |false=>exact ao rfl rfl|true=>
     by_cases h1:gK L (i:Int)=0
     .exact ag rfl (ai ba (ao (ax h1) rfl))
     .rw[cw h1,h2,h3,cw h0,bF (show eF L ((i:Int)-1)<eF L (i:Int) by omega)]at hp;cases hp
 .try dsimp only
  unfold sf;exact ag (aj (show ¬(L.length:Int)<(L.length:Int) by omega)) rfl
theorem QP(a w:Int)(L:List ar.T)(hok:pS L):PT (a,(w,(L,())))=some (nY a w L,()):=by
 show Fw E0 E6 a w L=_;unfold Fw nY;by_cases h1:a<1
 .rw[cw (show ¬1<=a by omega)];exact ao (ax h1) rfl
 rw[bF (show 1<=a by omega)];refine ag (aj h1) ?_;by_cases h2:62<a
 .rw[cw (show ¬a<=62 by omega)];exact ao (ax h2) rfl
 rw[bF (show a<=62 by omega)];refine ag (aj h2) ?_;by_cases h3:w<1
 .rw[cw (show ¬1<=w by omega)];exact ao (ax h3) rfl
 rw[bF (show 1<=w by omega)];refine ag (aj h3) ?_;by_cases h4:64<w
 .rw[cw (show ¬w<=64 by omega)];exact ao (ax h4) rfl
 rw[bF (show w<=64 by omega)];refine ag (aj h4) ?_;by_cases h5:(4096:Int)<(L.length:Int)
 .rw[cw (show ¬L.length<=4096 by omega)];exact ao (ax h5) rfl
 rw[bF (show L.length<=4096 by omega)];refine ag (aj h5) ((bW (Zzg ⟨by omega,by omega⟩ ⟨by omega,by omega⟩ L (by omega) hok)).trans ?_);cases(List.range L.length).all (jl a w L)<;>rfl
theorem WD{α:Type}{l:List α}{i:Nat}{x:α}(h:l[i]?=some x):i<l.length:=by
 rcases Nat.lt_or_ge i l.length with q|q
 .exact q
 .rw[List.getElem?_eq_none q]at h;cases h
theorem Wf{a w:Int}{L:List ar.T}(h:(List.range L.length).all (jl a w L)=true):∀i,i<L.length->∀j,j<i->eF L (j:Int)<eF L (i:Int):=by
 have h':∀i,i<L.length->jl a w L i=true:=by simpa[List.all_eq_true]using h
 intro i
 induction i with
 |zero=>intro _ j hj;omega|succ i ih=>
  intro hi j hj;have hc:=h' (i+1) hi;unfold jl at hc;simp only[Bool.and_eq_true,Bool.or_eq_true,decide_eq_true_eq]at hc;have h4:=hc.2;have e:(((i+1:Nat):Int)-1)=(i:Int):=by omega
  rw[e]at h4;have h5:eF L (i:Int)<eF L ((i+1:Nat):Int):=by omega
  by_cases q:j=i
  .subst q;exact h5
  .have:=ih (by omega) j (by omega);omega
def mQ(T:List an.T)(cs:List (List ar.T))(i:Nat):Bool:=nY (gt an T (i:Int)).1 (gt an T (i:Int)).2.1 (gt (.sl ar) cs (i:Int))
def mP(d:bE.T)(s:cj.T):Bool:=decide (s.1.length=d.2.2.1.length)&&decide (s.2.1.length=d.2.2.2.2.2.2.1.length)&&(List.range d.2.2.2.2.2.2.1.length).all (mQ d.2.2.2.2.2.2.1 s.2.1)
def kz(d:bE.T)(s:cj.T):Int:=if Pl.fH (ie d)≠0 then Pl.fH (ie d)else match mP d s with|true=>0|false=>14
def pT(cs:List (List ar.T)):Prop:=∀c∈cs,pS c
theorem VW(d:bE.T)(au:List Bool)(cs:List (List ar.T))(hT:d.2.2.2.2.2.2.1.length<=100000)(hc:cs.length=d.2.2.2.2.2.2.1.length)(hok:pT cs) :
  P3 ((0:Int),(d.1,(d.2.1,(d.2.2.1,(d.2.2.2.1,(d.2.2.2.2.1,(d.2.2.2.2.2.1,(d.2.2.2.2.2.2.1,(d.2.2.2.2.2.2.2.1,(au,(cs,()))))))))))) =
   some (match(List.range d.2.2.2.2.2.2.1.length).all (mQ d.2.2.2.2.2.2.1 cs)with|true=>.inr ()|false=>.inl ((14:Int),())):=by
 have hok':∀i:Nat,i<d.2.2.2.2.2.2.1.length->pS (gt (.sl ar) cs (i:Int)):=by intro i hi;have hg:=List.getElem?_eq_getElem (l:=cs) (i:=i) (by omega);rw[bn (σ:=.sl ar) hg];exact hok _ (List.getElem_mem (by omega))
 unfold P3;delta jh;refine nL (fun i:Nat=>((i:Int),(d.1,(d.2.1,(d.2.2.1,(d.2.2.2.1,(d.2.2.2.2.1,(d.2.2.2.2.2.1,(d.2.2.2.2.2.2.1,(d.2.2.2.2.2.2.2.1,(au,(cs,())))))))))))) (mQ d.2.2.2.2.2.2.1 cs) d.2.2.2.2.2.2.1.length ?_ ?_ ?_ rfl (bM (by omega))
 .intro i hi hp;have e1:=QP (gt an d.2.2.2.2.2.2.1 (i:Int)).1 (gt an d.2.2.2.2.2.2.1 (i:Int)).2.1 (gt (.sl ar) cs (i:Int)) (hok' i hi);have hp':nY (gt an d.2.2.2.2.2.2.1 (i:Int)).1 (gt an d.2.2.2.2.2.2.1 (i:Int)).2.1 (gt (.sl ar) cs (i:Int))=true:=hp;rw[hp']at e1
  try dsimp only
  unfold sr;have e:∀(p q:Int),p=q->(some (.inl (p,(d.1,(d.2.1,(d.2.2.1,(d.2.2.2.1,(d.2.2.2.2.1,(d.2.2.2.2.2.1,(d.2.2.2.2.2.2.1,(d.2.2.2.2.2.2.2.1,(au,(cs,())))))))))))):Option (TL xD.σs⊕Out xr))=some (.inl (q,(d.1,(d.2.1,(d.2.2.1,(d.2.2.2.1,(d.2.2.2.2.1,(d.2.2.2.2.2.1,(d.2.2.2.2.2.2.1,(d.2.2.2.2.2.2.2.1,(au,(cs,())))))))))))):=by rintro _ _ rfl;rfl
  exact ao (ax (show(i:Int)<(d.2.2.2.2.2.2.1.length:Int) by omega)) (ai (aP ⟨by omega,by omega⟩) (ai (aP ⟨by omega,by omega⟩) (ai (aP ⟨by omega,by omega⟩) ((bW e1).trans (ag rfl (e _ _ (bR (x:=(i:Int)+1) (by omega))))))))
 .intro i hi hp;have e1:=QP (gt an d.2.2.2.2.2.2.1 (i:Int)).1 (gt an d.2.2.2.2.2.2.1 (i:Int)).2.1 (gt (.sl ar) cs (i:Int)) (hok' i hi);have hp':nY (gt an d.2.2.2.2.2.2.1 (i:Int)).1 (gt an d.2.2.2.2.2.2.1 (i:Int)).2.1 (gt (.sl ar) cs (i:Int))=false:=hp;rw[hp']at e1
  try dsimp only
  unfold sr;exact ao (ax (show(i:Int)<(d.2.2.2.2.2.2.1.length:Int) by omega)) (ai (aP ⟨by omega,by omega⟩) (ai (aP ⟨by omega,by omega⟩) (ai (aP ⟨by omega,by omega⟩) ((bW e1).trans (ao rfl rfl)))))
 .try dsimp only
  unfold sr;exact ag (aj (show ¬(d.2.2.2.2.2.2.1.length:Int)<(d.2.2.2.2.2.2.1.length:Int) by omega)) rfl
theorem Zya(d:bE.T)(s:cj.T)(ft:Fit (ie d))(hT:d.2.2.2.2.2.2.1.length<=100000)(hok:pT s.2.1):PQ (d,(s,()))=some (kz d s,()):=by
 have e1:=Zxe ft;rw[Gd]at e1;unfold kz;by_cases h:Pl.fH (ie d)=0
 .rw[if_neg (by simpa using h)];refine aE e1 (ag (by rw[h];rfl) ?_);unfold mP;by_cases h1:s.1.length=d.2.2.1.length
  .rw[bF h1];have q1:Bool.not (decide (Int.ofNat (List.length s.1)=Int.ofNat (List.length d.2.2.1)))=false:=by rw[bF (by rw[h1])];rfl
   refine ag q1 ?_;by_cases h2:s.2.1.length=d.2.2.2.2.2.2.1.length
   .rw[bF h2];have q2:Bool.not (decide (Int.ofNat (List.length s.2.1)=Int.ofNat (List.length d.2.2.2.2.2.2.1)))=false:=by rw[bF (by rw[h2])];rfl
    refine ag q2 ((bW (VW d s.1 s.2.1 hT h2 hok)).trans ?_);cases(List.range d.2.2.2.2.2.2.1.length).all (mQ d.2.2.2.2.2.2.1 s.2.1)<;>rfl
   .rw[cw h2];have q2:Bool.not (decide (Int.ofNat (List.length s.2.1)=Int.ofNat (List.length d.2.2.2.2.2.2.1)))=true:=by rw[cw (fun e=>h2 (Int.ofNat.inj e))];rfl
    exact ao q2 rfl
  .rw[cw h1];have q1:Bool.not (decide (Int.ofNat (List.length s.1)=Int.ofNat (List.length d.2.2.1)))=true:=by rw[cw (fun e=>h1 (Int.ofNat.inj e))];rfl
   exact ao q1 rfl
 .rw[if_pos h];exact aE e1 (ao (by simp[h]) rfl)
def nx{α:Type}(d:bE.T)(r:α):Int×List Int×List al.T×List Int×List Int×List Int×List an.T×List al.T×α:=(d.1,(d.2.1,(d.2.2.1,(d.2.2.2.1,(d.2.2.2.2.1,(d.2.2.2.2.2.1,(d.2.2.2.2.2.2.1,(d.2.2.2.2.2.2.2.1,r))))))))
theorem Vc(x:Bool):Bool.not (@decide _ (Bool.decEq x x))=false:=by cases x<;>rfl
theorem Wk(L:List Bool)(hL:L.length<=100000):Zdw (L,(L,()))=some (true,()):=by
 have eL:P5 (L,(L,((0:Int),())))=some (.inr ()):=by
  unfold P5;delta u3;refine dg (fun i:Nat=>(L,(L,((i:Int),())))) L.length rfl ?_ ?_ (bM (by omega))
  .intro i hi
   try dsimp only
   unfold xU;have e:∀p q:Int,p=q->(some (.inl (L,(L,(p,())))):Option (TL xF.σs⊕Out xv))=some (.inl (L,(L,(q,())))):=by rintro _ _ rfl;rfl
   exact ao (ax (show(i:Int)<(L.length:Int) by omega)) (ai (aP ⟨by omega,by omega⟩) (ai (aP ⟨by omega,by omega⟩) (ag (Vc (gt .bool L (i:Int))) (e _ _ (bR (x:=(i:Int)+1) (by omega))))))
  .try dsimp only
   unfold xU;exact ag (aj (show ¬(L.length:Int)<(L.length:Int) by omega)) rfl
 have q:Bool.not (decide (Int.ofNat (List.length L)=Int.ofNat (List.length L)))=false:=by rw[bF rfl];rfl
 exact ag q (aE eL rfl)
theorem Wj(L:List ar.T)(hL:L.length<=100000):PU (L,(L,()))=some (true,()):=by
 have eL:P4 (L,(L,((0:Int),())))=some (.inr ()):=by
  unfold P4;delta u3;refine dg (fun i:Nat=>(L,(L,((i:Int),())))) L.length rfl ?_ ?_ (bM (by omega))
  .intro i hi
   try dsimp only
   unfold xT;have q:Bool.not (both (@decide _ (Int.instDecidableEq (eF L (i:Int)) (eF L (i:Int)))) (both (@decide _ (Int.instDecidableEq (gK L (i:Int)) (gK L (i:Int)))) true))=false:=by rw[bF rfl,bF rfl];rfl
   have e:∀p q:Int,p=q->(some (.inl (L,(L,(p,())))):Option (TL xE.σs⊕Out xt))=some (.inl (L,(L,(q,())))):=by rintro _ _ rfl;rfl
   exact ao (ax (show(i:Int)<(L.length:Int) by omega)) (ai (aP ⟨by omega,by omega⟩) (ai (aP ⟨by omega,by omega⟩) (ag q (e _ _ (bR (x:=(i:Int)+1) (by omega))))))
  .try dsimp only
   unfold xT;exact ag (aj (show ¬(L.length:Int)<(L.length:Int) by omega)) rfl
 have q:Bool.not (decide (Int.ofNat (List.length L)=Int.ofNat (List.length L)))=false:=by rw[bF rfl];rfl
 exact ag q (aE eL rfl)
theorem Wi(a:List Bool)(C:List (List ar.T))(hC:C.length<=100000)(hc:∀c∈C,c.length<=100000):P2 ((0:Int),(a,(C,(a,(C,())))))=some (.inr ()):=by
 unfold P2;delta u5;refine dg (fun i:Nat=>((i:Int),(a,(C,(a,(C,())))))) C.length rfl ?_ ?_ (bM (by omega))
 .intro i hi;have hg:=bu hi;have e1:=Wj (gt (.sl ar) C (i:Int)) (by rw[bn (σ:=.sl ar) hg];exact hc _ (List.getElem_mem hi))
  try dsimp only
  unfold xS;have e:∀p q:Int,p=q->(some (.inl (p,(a,(C,(a,(C,())))))):Option (TL xC.σs⊕Out xq))=some (.inl (q,(a,(C,(a,(C,())))))):=by rintro _ _ rfl;rfl
  exact ao (ax (show(i:Int)<(C.length:Int) by omega)) (ai (aP ⟨by omega,by omega⟩) (ai (aP ⟨by omega,by omega⟩) ((bW e1).trans (ag rfl (e _ _ (bR (x:=(i:Int)+1) (by omega)))))))
 .try dsimp only
  unfold xS;exact ag (aj (show ¬(C.length:Int)<(C.length:Int) by omega)) rfl
theorem Wh(a:List Bool)(C:List (List ar.T))(ha:a.length<=100000)(hC:C.length<=100000)(hc:∀c∈C,c.length<=100000):Ft ((a,(C,())),((a,(C,())),()))=some (true,()):=by
 have q:Bool.not (decide (Int.ofNat (List.length C)=Int.ofNat (List.length C)))=false:=by rw[bF rfl];rfl
 exact aE (Wk a ha) (ag rfl (ag q (aE (Wi a C hC hc) rfl)))
def qA(R:List cV.T)(i:Int):Nat:=List.length (gt cV R i).2.1
def kK(R:List cV.T)(i:Int):Int:=(gt cV R i).1
def mB(R:List cV.T)(i:Nat):Bool:=decide (qA R (i:Int)<=100)&&decide (kK R (i:Int)<=1099511627776)&&decide (-1099511627776<=kK R (i:Int))
def qK(R:List bU.T)(i:Int):Nat:=List.length (gt bU R i).2.1
def qJ(R:List bU.T)(i:Int):Nat:=List.length (gt bU R i).2.2.1
def mC(R:List bU.T)(i:Nat):Bool:=decide (qK R (i:Int)<=100)&&decide (qJ R (i:Int)<=100)
theorem Lx(d:bE.T)(t a w:Int)(y:Bool)(R:List cV.T)(W:List bU.T)(hR:R.length<=100000) :
  ET (t,((0:Int),nx d (a,(w,(y,(R,(W,())))))))=some (match(List.range R.length).all (mB R)with|true=>.inr (t,nx d (a,(w,(y,(R,(W,()))))))|false=>.inl (false,())):=by
 unfold ET;delta mH;refine nL (fun i:Nat=>(t,((i:Int),nx d (a,(w,(y,(R,(W,())))))))) (mB R) R.length ?_ ?_ ?_ rfl (bM (by omega))
 .intro i hi hp;unfold mB at hp;simp only[Bool.and_eq_true,decide_eq_true_eq]at hp;obtain⟨⟨h1,h2⟩,h3⟩:=hp;have ba:ah (i:Int) (List.length R)=true:=aP ⟨by omega,by omega⟩;unfold nx
  try dsimp only
  unfold se;have e:∀p q:Int,p=q->(some (.inl (t,(p,nx d (a,(w,(y,(R,(W,())))))))):Option (TL xb.σs⊕Out w8))=some (.inl (t,(q,nx d (a,(w,(y,(R,(W,())))))))):=by rintro _ _ rfl;rfl
  exact ao (ax (show(i:Int)<(R.length:Int) by omega)) (ai ba (ag (aj (show ¬(100:Int)<((qA R (i:Int):Nat):Int) by omega)) (ai ba (ag (aj (show ¬(1099511627776:Int)<kK R (i:Int) by omega)) (ai ba (ag (aj (show ¬kK R (i:Int)<Int.negSucc 1099511627775 by omega)) (e _ _ (bR (x:=(i:Int)+1) (by omega)))))))))
 .intro i hi hp;have ba:ah (i:Int) (List.length R)=true:=aP ⟨by omega,by omega⟩;unfold nx
  try dsimp only
  unfold se;refine ao (ax (show(i:Int)<(R.length:Int) by omega)) (ai ba ?_);by_cases h1:(100:Int)<((qA R (i:Int):Nat):Int)
  .exact ao (ax h1) rfl
  refine ag (aj h1) (ai ba ?_);by_cases h2:(1099511627776:Int)<kK R (i:Int)
  .exact ao (ax h2) rfl
  refine ag (aj h2) (ai ba ?_);by_cases h3:kK R (i:Int)<Int.negSucc 1099511627775
  .exact ao (ax h3) rfl
  unfold mB at hp;rw[bF (show qA R (i:Int)<=100 by omega),bF (show kK R (i:Int)<=1099511627776 by omega),bF (show -1099511627776<=kK R (i:Int) by omega)]at hp;cases hp
 .unfold nx
  try dsimp only
  unfold se;exact ag (aj (show ¬(R.length:Int)<(R.length:Int) by omega)) rfl
theorem Lw(d:bE.T)(t a w:Int)(y:Bool)(R:List cV.T)(W:List bU.T)(hW:W.length<=100000) :
  ES (t,((0:Int),nx d (a,(w,(y,(R,(W,())))))))=some (match(List.range W.length).all (mC W)with|true=>.inr (t,nx d ())|false=>.inl (false,())):=by
 unfold ES;delta mH;refine nL (fun i:Nat=>(t,((i:Int),nx d (a,(w,(y,(R,(W,())))))))) (mC W) W.length ?_ ?_ ?_ rfl (bM (by omega))
 .intro i hi hp;unfold mC at hp;simp only[Bool.and_eq_true,decide_eq_true_eq]at hp;obtain⟨h1,h2⟩:=hp;have ba:ah (i:Int) (List.length W)=true:=aP ⟨by omega,by omega⟩;unfold nx
  try dsimp only
  unfold sd;have e:∀p q:Int,p=q->(some (.inl (t,(p,nx d (a,(w,(y,(R,(W,())))))))):Option (TL xa.σs⊕Out w7))=some (.inl (t,(q,nx d (a,(w,(y,(R,(W,())))))))):=by rintro _ _ rfl;rfl
  exact ao (ax (show(i:Int)<(W.length:Int) by omega)) (ai ba (ag (aj (show ¬(100:Int)<((qK W (i:Int):Nat):Int) by omega)) (ai ba (ag (aj (show ¬(100:Int)<((qJ W (i:Int):Nat):Int) by omega)) (e _ _ (bR (x:=(i:Int)+1) (by omega)))))))
 .intro i hi hp;have ba:ah (i:Int) (List.length W)=true:=aP ⟨by omega,by omega⟩;unfold nx
  try dsimp only
  unfold sd;refine ao (ax (show(i:Int)<(W.length:Int) by omega)) (ai ba ?_);by_cases h1:(100:Int)<((qK W (i:Int):Nat):Int)
  .exact ao (ax h1) rfl
  refine ag (aj h1) (ai ba ?_);by_cases h2:(100:Int)<((qJ W (i:Int):Nat):Int)
  .exact ao (ax h2) rfl
  unfold mC at hp;rw[bF (show qK W (i:Int)<=100 by omega),bF (show qJ W (i:Int)<=100 by omega)]at hp;cases hp
 .unfold nx
  try dsimp only
  unfold sd;exact ag (aj (show ¬(W.length:Int)<(W.length:Int) by omega)) rfl
def iN(T:List an.T)(i:Int):List cV.T:=(gt an T i).2.2.2.1
def iO(T:List an.T)(i:Int):List bU.T:=(gt an T i).2.2.2.2.1
def kH(T:List an.T)(i:Int):Int:=(gt an T i).2.1
def p4(T:List an.T)(i:Nat):Bool:=decide ((iN T (i:Int)).length<=6)&&decide ((iO T (i:Int)).length<=6)&&decide (kH T (i:Int)<=100) &&
 (List.range (iN T (i:Int)).length).all (mB (iN T (i:Int)))&&(List.range (iO T (i:Int)).length).all (mC (iO T (i:Int)))
theorem UF(d:bE.T)(hT:d.2.2.2.2.2.2.1.length<=100000) :
  P0 ((0:Int),nx d ())=some (match(List.range d.2.2.2.2.2.2.1.length).all (p4 d.2.2.2.2.2.2.1)with|true=>.inr ()|false=>.inl (false,())):=by
 unfold P0;delta u9;refine nL (fun i:Nat=>((i:Int),nx d ())) (p4 d.2.2.2.2.2.2.1) d.2.2.2.2.2.2.1.length ?_ ?_ ?_ rfl (bM (by omega))
 .intro i hi hp;unfold p4 at hp;simp only[Bool.and_eq_true,decide_eq_true_eq]at hp;obtain⟨⟨⟨⟨h1,h2⟩,h3⟩,h4⟩,h5⟩:=hp;have ba:ah (i:Int) (List.length d.2.2.2.2.2.2.1)=true:=aP ⟨by omega,by omega⟩;have e10:=Lx d (i:Int) (gt an d.2.2.2.2.2.2.1 (i:Int)).1 (kH d.2.2.2.2.2.2.1 (i:Int)) (gt an d.2.2.2.2.2.2.1 (i:Int)).2.2.1 (iN d.2.2.2.2.2.2.1 (i:Int)) (iO d.2.2.2.2.2.2.1 (i:Int)) (by omega);have e15:=Lw d (i:Int) (gt an d.2.2.2.2.2.2.1 (i:Int)).1 (kH d.2.2.2.2.2.2.1 (i:Int)) (gt an d.2.2.2.2.2.2.1 (i:Int)).2.2.1 (iN d.2.2.2.2.2.2.1 (i:Int)) (iO d.2.2.2.2.2.2.1 (i:Int)) (by omega);rw[h4]at e10;rw[h5]at e15;unfold nx at e10 e15 |-
  try dsimp only
  unfold sq;have e:∀p q:Int,p=q->(some (.inl (p,nx d ())):Option (TL xB.σs⊕Out xo))=some (.inl (q,nx d ())):=by rintro _ _ rfl;rfl
  exact ao (ax (show(i:Int)<(d.2.2.2.2.2.2.1.length:Int) by omega)) (ai ba (ag (aj (show ¬(6:Int)<(((iN d.2.2.2.2.2.2.1 (i:Int)).length:Nat):Int) by omega)) (ag (aj (show ¬(6:Int)<(((iO d.2.2.2.2.2.2.1 (i:Int)).length:Nat):Int) by omega)) (ag (aj (show ¬(100:Int)<kH d.2.2.2.2.2.2.1 (i:Int) by omega)) ((bW e10).trans ((bW e15).trans (e _ _ (bR (x:=(i:Int)+1) (by omega)))))))))
 .intro i hi hp;have ba:ah (i:Int) (List.length d.2.2.2.2.2.2.1)=true:=aP ⟨by omega,by omega⟩;unfold nx
  try dsimp only
  unfold sq;refine ao (ax (show(i:Int)<(d.2.2.2.2.2.2.1.length:Int) by omega)) (ai ba ?_);by_cases h1:(6:Int)<(((iN d.2.2.2.2.2.2.1 (i:Int)).length:Nat):Int)
  .exact ao (ax h1) rfl
  refine ag (aj h1) ?_;by_cases h2:(6:Int)<(((iO d.2.2.2.2.2.2.1 (i:Int)).length:Nat):Int)
  .exact ao (ax h2) rfl
  refine ag (aj h2) ?_;by_cases h3:(100:Int)<kH d.2.2.2.2.2.2.1 (i:Int)
  .exact ao (ax h3) rfl
  refine ag (aj h3) ?_;have e10:=Lx d (i:Int) (gt an d.2.2.2.2.2.2.1 (i:Int)).1 (kH d.2.2.2.2.2.2.1 (i:Int)) (gt an d.2.2.2.2.2.2.1 (i:Int)).2.2.1 (iN d.2.2.2.2.2.2.1 (i:Int)) (iO d.2.2.2.2.2.2.1 (i:Int)) (by omega);have e15:=Lw d (i:Int) (gt an d.2.2.2.2.2.2.1 (i:Int)).1 (kH d.2.2.2.2.2.2.1 (i:Int)) (gt an d.2.2.2.2.2.2.1 (i:Int)).2.2.1 (iN d.2.2.2.2.2.2.1 (i:Int)) (iO d.2.2.2.2.2.2.1 (i:Int)) (by omega);refine(bW e10).trans ?_;cases h4:(List.range (iN d.2.2.2.2.2.2.1 (i:Int)).length).all (mB (iN d.2.2.2.2.2.2.1 (i:Int)))with|false=>rfl|true=>refine(bW e15).trans ?_;cases h5:(List.range (iO d.2.2.2.2.2.2.1 (i:Int)).length).all (mC (iO d.2.2.2.2.2.2.1 (i:Int)))with|false=>rfl|true=>unfold p4 at hp;rw[h4,h5,bF (show(iN d.2.2.2.2.2.2.1 (i:Int)).length<=6 by omega),bF (show(iO d.2.2.2.2.2.2.1 (i:Int)).length<=6 by omega),bF (show kH d.2.2.2.2.2.2.1 (i:Int)<=100 by omega)]at hp;cases hp
 .unfold nx
  try dsimp only
  unfold sq;exact ag (aj (show ¬(d.2.2.2.2.2.2.1.length:Int)<(d.2.2.2.2.2.2.1.length:Int) by omega)) rfl
def pz(d:bE.T):Prop:=List.length d.2.1<=2100/\List.length d.2.2.1<=2100/\List.length d.2.2.2.2.2.2.2.1<=2100/\List.length d.2.2.2.1<=1100/\List.length d.2.2.2.2.1<=1100/\List.length d.2.2.2.2.2.1<=1100/\List.length d.2.2.2.2.2.2.1<=6 /\
 (List.range d.2.2.2.2.2.2.1.length).all (p4 d.2.2.2.2.2.2.1)=true
theorem WR(d:bE.T):∃b,E7 (d,())=some (b,())/\(b=true->pz d):=by
 have key:∀{b:Bool},(b=true->pz d)->E7 (d,())=some (b,())->∃b,E7 (d,())=some (b,())/\(b=true->pz d):=fun h e=>⟨_,e,h⟩;by_cases h1:(2100:Int)<((List.length d.2.1:Nat):Int)
 .exact key (fun h=>by cases h) (ao (ax h1) rfl)
 by_cases h2:(2100:Int)<((List.length d.2.2.1:Nat):Int)
 .exact key (fun h=>by cases h) (ag (aj h1) (ao (ax h2) rfl))
 by_cases h3:(2100:Int)<((List.length d.2.2.2.2.2.2.2.1:Nat):Int)
 .exact key (fun h=>by cases h) (ag (aj h1) (ag (aj h2) (ao (ax h3) rfl)))
 by_cases h4:(1100:Int)<((List.length d.2.2.2.1:Nat):Int)
 .exact key (fun h=>by cases h) (ag (aj h1) (ag (aj h2) (ag (aj h3) (ao (ax h4) rfl))))
 by_cases h5:(1100:Int)<((List.length d.2.2.2.2.1:Nat):Int)
 .exact key (fun h=>by cases h) (ag (aj h1) (ag (aj h2) (ag (aj h3) (ag (aj h4) (ao (ax h5) rfl)))))
 by_cases h6:(1100:Int)<((List.length d.2.2.2.2.2.1:Nat):Int)
 .exact key (fun h=>by cases h) (ag (aj h1) (ag (aj h2) (ag (aj h3) (ag (aj h4) (ag (aj h5) (ao (ax h6) rfl))))))
 by_cases h7:(6:Int)<((List.length d.2.2.2.2.2.2.1:Nat):Int)
 .exact key (fun h=>by cases h) (ag (aj h1) (ag (aj h2) (ag (aj h3) (ag (aj h4) (ag (aj h5) (ag (aj h6) (ao (ax h7) rfl)))))))
 have e4:=UF d (by omega);cases h8:(List.range d.2.2.2.2.2.2.1.length).all (p4 d.2.2.2.2.2.2.1)with
 |false=>rw[h8]at e4;exact key (fun h=>by cases h) (ag (aj h1) (ag (aj h2) (ag (aj h3) (ag (aj h4) (ag (aj h5) (ag (aj h6) (ag (aj h7) (aE e4 rfl))))))))
 |true=>rw[h8]at e4;exact key (fun _=>⟨by omega,by omega,by omega,by omega,by omega,by omega,by omega,h8⟩) (ag (aj h1) (ag (aj h2) (ag (aj h3) (ag (aj h4) (ag (aj h5) (ag (aj h6) (ag (aj h7) (aE e4 rfl))))))))
theorem WQ(d:bE.T):∃b,Zcw (d,())=some (b,())/\(b=true->pz d):=by
 obtain⟨b,e,h⟩:=WR d;cases b with
 |false=>exact⟨false,aE e rfl,fun q=>by cases q⟩
 |true=>
  by_cases h1:((List.length d.2.2.2.2.2.2.2.1:Nat):Int)<=100
  .by_cases h2:((List.length d.2.1:Nat):Int)<=100
   .by_cases h3:((List.length d.2.2.1:Nat):Int)<=100
    .exact⟨_,aE e (ao rfl (ao (ax h1) (ao (ax h2) (ao (ax h3) rfl)))),fun _=>h rfl⟩
    .exact⟨false,aE e (ao rfl (ao (ax h1) (ao (ax h2) (ag (aj h3) rfl)))),fun q=>by cases q⟩
   .exact⟨false,aE e (ao rfl (ao (ax h1) (ag (aj h2) rfl))),fun q=>by cases q⟩
  .exact⟨false,aE e (ao rfl (ag (aj h1) rfl)),fun q=>by cases q⟩
def nk(C:List (List ar.T))(i:Int):Nat:=List.length (gt (.sl ar) C i)
def nu(I:List (List Bool))(i:Int):Nat:=List.length (gt (.sl .bool) I i)
theorem Xt(au:List Bool)(C:List (List ar.T))(I:List (List Bool))(hC:C.length<=100000) :
  PZ (I,((0:Int),(au,(C,()))))=some (match(List.range C.length).all (fun i=>decide (nk C ((i:Nat):Int)<=100))with|true=>.inr (I,())|false=>.inl (false,())):=by
 unfold PZ;delta u4;refine nL (fun i:Nat=>(I,((i:Int),(au,(C,()))))) (fun i=>decide (nk C ((i:Nat):Int)<=100)) C.length ?_ ?_ ?_ rfl (bM (by omega))
 .intro i hi hp;have hp:=of_decide_eq_true hp
  try dsimp only
  unfold sk;have e:∀p q:Int,p=q->(some (.inl (I,(p,(au,(C,()))))):Option (TL xA.σs⊕Out xn))=some (.inl (I,(q,(au,(C,()))))):=by rintro _ _ rfl;rfl
  exact ao (ax (show(i:Int)<(C.length:Int) by omega)) (ai (aP ⟨by omega,by omega⟩) (ag (aj (show ¬(100:Int)<((nk C (i:Int):Nat):Int) by omega)) (e _ _ (bR (x:=(i:Int)+1) (by omega)))))
 .intro i hi hp;have hp:=of_decide_eq_false hp
  try dsimp only
  unfold sk;exact ao (ax (show(i:Int)<(C.length:Int) by omega)) (ai (aP ⟨by omega,by omega⟩) (ao (ax (show(100:Int)<((nk C (i:Int):Nat):Int) by omega)) rfl))
 .try dsimp only
  unfold sk;exact ag (aj (show ¬(C.length:Int)<(C.length:Int) by omega)) rfl
theorem Xs(I:List (List Bool))(hI:I.length<=100000) :
  PY (I,((0:Int),()))=some (match(List.range I.length).all (fun i=>decide (nu I ((i:Nat):Int)<=200))with|true=>.inr ()|false=>.inl (false,())):=by
 unfold PY;delta u2;refine nL (fun i:Nat=>(I,((i:Int),()))) (fun i=>decide (nu I ((i:Nat):Int)<=200)) I.length ?_ ?_ ?_ rfl (bM (by omega))
 .intro i hi hp;have hp:=of_decide_eq_true hp
  try dsimp only
  unfold sj;have e:∀p q:Int,p=q->(some (.inl (I,(p,()))):Option (TL xz.σs⊕Out xm))=some (.inl (I,(q,()))):=by rintro _ _ rfl;rfl
  exact ao (ax (show(i:Int)<(I.length:Int) by omega)) (ai (aP ⟨by omega,by omega⟩) (ag (aj (show ¬(200:Int)<((nu I (i:Int):Nat):Int) by omega)) (e _ _ (bR (x:=(i:Int)+1) (by omega)))))
 .intro i hi hp;have hp:=of_decide_eq_false hp
  try dsimp only
  unfold sj;exact ao (ax (show(i:Int)<(I.length:Int) by omega)) (ai (aP ⟨by omega,by omega⟩) (ao (ax (show(200:Int)<((nu I (i:Int):Nat):Int) by omega)) rfl))
 .try dsimp only
  unfold sj;exact ag (aj (show ¬(I.length:Int)<(I.length:Int) by omega)) rfl
def Jg(au:List Bool)(C:List (List ar.T))(I:List (List Bool)):Prop:=au.length<=200/\C.length<=10/\I.length<=40/\(∀i:Nat,i<C.length->nk C (i:Int)<=100)/\∀i:Nat,i<I.length->nu I (i:Int)<=200
theorem WO(d:bE.T)(au:List Bool)(C:List (List ar.T))(I:List (List Bool)):∃b,P7 (d,((au,(C,())),(I,())))=some (b,())/\(b=true->pz d/\Jg au C I):=by
 obtain⟨b,e,h⟩:=WQ d;cases b with
 |false=>exact⟨false,aE e (ao rfl rfl),fun q=>by cases q⟩
 |true=>
  by_cases h1:(200:Int)<((au.length:Nat):Int)
  .exact⟨false,aE e (ag rfl (ao (ax h1) rfl)),fun q=>by cases q⟩
  by_cases h2:(10:Int)<((C.length:Nat):Int)
  .exact⟨false,aE e (ag rfl (ag (aj h1) (ao (ax h2) rfl))),fun q=>by cases q⟩
  by_cases h3:(40:Int)<((I.length:Nat):Int)
  .exact⟨false,aE e (ag rfl (ag (aj h1) (ag (aj h2) (ao (ax h3) rfl)))),fun q=>by cases q⟩
  have e4:=Xt au C I (by omega);have e9:=Xs I (by omega);cases h4:(List.range C.length).all (fun i=>decide (nk C ((i:Nat):Int)<=100))with
  |false=>rw[h4]at e4;exact⟨false,aE e (ag rfl (ag (aj h1) (ag (aj h2) (ag (aj h3) (aE e4 rfl))))),fun q=>by cases q⟩
  |true=>
   rw[h4]at e4;cases h5:(List.range I.length).all (fun i=>decide (nu I ((i:Nat):Int)<=200))with
   |false=>rw[h5]at e9;exact⟨false,aE e (ag rfl (ag (aj h1) (ag (aj h2) (ag (aj h3) (aE e4 (aE e9 rfl)))))),fun q=>by cases q⟩
   |true=>
    rw[h5]at e9;have h4':∀i:Nat,i<C.length->nk C (i:Int)<=100:=by simpa[List.all_eq_true]using h4
    have h5':∀i:Nat,i<I.length->nu I (i:Int)<=200:=by simpa[List.all_eq_true]using h5
    exact⟨true,aE e (ag rfl (ag (aj h1) (ag (aj h2) (ag (aj h3) (aE e4 (aE e9 rfl)))))),fun _=>⟨h rfl,by omega,by omega,by omega,h4',h5'⟩⟩
theorem wf_i64{n:Int}(h:(Lit.int .i64 n).wf=true):bH n:=by
 simp only[Lit.wf,Bool.and_eq_true,decide_eq_true_eq]at h;have h1:IntKind.i64.min = -9223372036854775808:=by decide
 have h2:IntKind.i64.max=9223372036854775807:=by decide
 rw[h1,h2]at h;exact h
theorem wf_u64{n:Int}(h:(Lit.int .u64 n).wf=true):0<=n/\n<=18446744073709551615:=by
 simp only[Lit.wf,Bool.and_eq_true,decide_eq_true_eq]at h;have h1:IntKind.u64.min=0:=by decide
 have h2:IntKind.u64.max=18446744073709551615:=by decide
 rw[h1,h2]at h;exact h
theorem oh{L:List Int}(h:gH (.sl (.int .i64)) L):∀x∈L,bH x:=fun x hx=>wf_i64 (h.2 x hx)
theorem UU{c:List ar.T}(h:gH (.sl ar) c):pS c:=by intro i hi;have hg:=bu hi;have hc:=h.2 _ (List.getElem_mem hi);unfold eF gK;rw[bn (σ:=ar) hg];exact⟨wf_u64 hc.1,wf_u64 hc.2.1⟩
theorem UW{C:List (List ar.T)}(h:gH (.sl (.sl ar)) C):pT C:=fun c hc=>UU (h.2 c hc)
theorem qT{α β:Type}(f:α->β)(L:List α){n k:Nat}(h:L.length<=n)(hk:n<=k):(L.map f).length<=k:=by rw[aK];omega
theorem TO{m:an.T}(h:gH an m)(hr:List.length m.2.2.2.1<=6)(hw:List.length m.2.2.2.2.1<=6)(hword:@LE.le Int _ m.2.1 100)
  (h10:iy (α:=cV.T) (fun r=>List.length r.2.1<=100/\@LE.le Int _ r.1 1099511627776/\@LE.le Int _ (-1099511627776) r.1) m.2.2.2.1) (h15:iy (α:=bU.T) (fun r=>List.length r.2.1<=100/\List.length r.2.2.1<=100) m.2.2.2.2.1):q9 (jX m):=by
 obtain⟨a1,a2,a3,a4,a5,_⟩:=h;refine⟨⟨wf_i64 a2,Int.le_trans hword (by decide)⟩,wf_i64 a1,?_,?_,?_,?_⟩
 .exact qT mS _ hr (by decide)
 .exact qT og _ hw (by decide)
 .intro r hr;obtain⟨r',hr',rfl⟩:=List.mem_map.1 hr;obtain⟨b1,b2,b3⟩:=h10 r' hr';have hk:=a4.2 r' hr';exact⟨Nat.le_trans b1 (by decide),b3,b2,oh hk.2.1⟩
 .intro r hr;obtain⟨r',hr',rfl⟩:=List.mem_map.1 hr;obtain⟨b1,b2⟩:=h15 r' hr';have hk:=a5.2 r' hr';exact⟨Nat.le_trans b1 (by decide),Nat.le_trans b2 (by decide),wf_i64 hk.1,oh hk.2.1,oh hk.2.2.1⟩
theorem BJ{α:Type}{σ:Sh}{L:List σ.T}{p:Nat->Bool}{Q:σ.T->Prop}(h:(List.range L.length).all p=true)(hq:∀i x,L[i]?=some x->p i=true->Q x):iy Q L:=by
 have h':∀i,i<L.length->p i=true:=by simpa[List.all_eq_true]using h
 intro x hx;obtain⟨i,hi⟩:=List.getElem?_of_mem hx;exact hq i x hi (h' i (WD hi))
theorem Uz{d:bE.T}(h:gH bE d)(hl:pz d):Fit (ie d):=by
 obtain⟨a1,a2,a3,a4,a5,a6,a7,a8,_⟩:=h;obtain⟨b1,b2,b3,b4,b5,b6,b7,b8⟩:=hl;have lat3:iy (α:=al.T) (fun x=>bH x.1/\bH x.2.1/\bH x.2.2.1) d.2.2.1:=fun x hx=>by have:=a3.2 x hx;exact⟨wf_i64 this.1,wf_i64 this.2.1,wf_i64 this.2.2.1⟩
 have and3:iy (α:=al.T) (fun x=>bH x.1/\bH x.2.1/\bH x.2.2.1) d.2.2.2.2.2.2.2.1:=fun x hx=>by have:=a8.2 x hx;exact⟨wf_i64 this.1,wf_i64 this.2.1,wf_i64 this.2.2.1⟩
 refine⟨wf_i64 a1,⟨Nat.le_trans b1 (by decide),oh a2⟩,⟨?_,?_⟩,⟨Nat.le_trans b4 (by decide),oh a4⟩,⟨Nat.le_trans b5 (by decide),oh a5⟩,⟨Nat.le_trans b6 (by decide),oh a6⟩,⟨?_,?_⟩,⟨?_,?_⟩⟩
 .exact qT iW _ b2 (by decide)
 .intro l hl;obtain⟨x,hx,rfl⟩:=List.mem_map.1 hl;exact lat3 x hx
 .exact qT jX _ b7 (by decide)
 .intro m hm;obtain⟨x,hx,rfl⟩:=List.mem_map.1 hm;have hQ:=BJ (α:=Unit) (σ:=an) (Q:=fun x=>List.length x.2.2.2.1<=6/\List.length x.2.2.2.2.1<=6/\@LE.le Int _ x.2.1 100/\(List.range (List.length x.2.2.2.1)).all (mB x.2.2.2.1)=true/\(List.range (List.length x.2.2.2.2.1)).all (mC x.2.2.2.2.1)=true) b8 (fun i x hi hp=>by unfold p4 iN iO kH at hp;rw[bn (σ:=an) hi]at hp;simp only[Bool.and_eq_true,decide_eq_true_eq]at hp;exact⟨hp.1.1.1.1,hp.1.1.1.2,hp.1.1.2,hp.1.2,hp.2⟩) x hx;obtain⟨c1,c2,c3,c4,c5⟩:=hQ;refine TO (a7.2 x hx) c1 c2 c3 ?_ ?_
  .exact BJ (α:=Unit) (σ:=cV) c4 (fun i r hi hp=>by unfold mB qA kK at hp;rw[bn (σ:=cV) hi]at hp;simp only[Bool.and_eq_true,decide_eq_true_eq]at hp;exact⟨hp.1.1,hp.1.2,hp.2⟩)
  .exact BJ (α:=Unit) (σ:=bU) c5 (fun i r hi hp=>by unfold mC qK qJ at hp;rw[bn (σ:=bU) hi]at hp;simp only[Bool.and_eq_true,decide_eq_true_eq]at hp;exact hp)
 .exact qT jW _ b3 (by decide)
 .intro l hl;obtain⟨x,hx,rfl⟩:=List.mem_map.1 hl;exact and3 x hx
