import Derived.Test.YtkcpdpplobhpaaaGreatKMf
import Derived.Test.YtkcpdpplobhpaaaGreatKSa
import Derived.Test.YtkcpdpplobhpaaaGreatKNe
set_option linter.unusedVariables false
set_option linter.unusedSimpArgs false
set_option linter.unnecessarySimpa false
section
namespace Go.Proofs.YtkcpdpplobhpaaaGreat.V
open Go Go.RowKit
theorem Zlj {D O:Type} {B:D→Option (D⊕O)} (f:Nat→D) (p:Nat→Bool) {bad good:O} (n:Nat) (hs:∀i,i<n→p i=true→B (f i)=some (.inl (f (i+1)))) (hf:∀i,i<n→p i=false→B (f i)=some (.inr bad))
  (he:B (f n)=some (.inr good)) {d:D} (hd:d=f 0) {N:Nat} (hN:n<N):lpD B N d=some (match (List.range n).all p with | true=>good | false=>bad):=by
 subst hd
 have hall:((List.range n).all p=true↔∀i,i<n→p i=true):=by simp [List.all_eq_true]
 have main:∀k i,i+k=n→(∀j,j<i→p j=true)→∀N,k<N→lpD B N (f i)=some (match (List.range n).all p with | true=>good | false=>bad):=by
  intro k
  induction k with
  | zero=>
   intro i hi hp N hN
   have:i=n:=by omega
   subst this
   obtain ⟨N,rfl⟩:∃M,N=M+1:=⟨N - 1,by omega⟩
   rw [hall.2 hp]
   simp only [lpD,he]
  | succ k ih=>
   intro i hi hp N hN
   obtain ⟨N,rfl⟩:∃M,N=M+1:=⟨N - 1,by omega⟩
   cases hq:p i with
   | true=>
    simp only [lpD,hs i (by omega) hq]
    exact ih (i+1) (by omega) (fun j hj=>by
     by_cases e:j=i
     ·subst e;exact hq
     ·exact hp j (by omega)) N (by omega)
   | false=>
    have hz:(List.range n).all p=false:=by
     cases hz:(List.range n).all p with
     | false=>rfl
     | true=>have:=hall.1 hz i (by omega);rw [hq] at this;cases this
    simp only [lpD,hf i (by omega) hq,hz]
 exact main n 0 (by omega) (fun j hj=>by omega) N hN
def fitB2 (v w:Int):Bool:=decide (v / 2^w.toNat=0)
theorem Zvu {v w:Int} (hw:0≤w∧w≤64):Zhe (v,(w,()))=some (fitB2 v w,()):=by
 have hb:Zjt (w,())=some (w,()):=by
  show Zmd w=_
  unfold Zmd
  have h1:selI (decide ((64:Int)<w)) (64:Int) w=w:=by unfold selI;rw [decide_eq_false (by omega)]
  have h2:selI (decide (w<(0:Int))) (0:Int) w=w:=by unfold selI;rw [decide_eq_false (by omega)]
  show some (selI (decide (selI (decide ((64:Int)<w)) (64:Int) w<0)) 0 (selI (decide ((64:Int)<w)) (64:Int) w),())=_
  rw [h1,h2]
 show Zqz Zjt v w=_
 unfold Zqz
 refine (bnd_s hb).trans (Zaj (dec_t hw.1) ?_)
 unfold fitB2
 have hm:min w.toNat 64=w.toNat:=by omega
 show some (decide (Int.fdiv v (2^(min w.toNat 64))=0),())=_
 rw [hm,Int.fdiv_eq_ediv_of_nonneg _ (Int.pow_nonneg (by decide))]
theorem u64w {x:Int} (h:0≤x∧x≤18446744073709551615):IntKind.wrap (.u64:IntKind) x=x:=by
 unfold IntKind.wrap
 simp [IntKind.bits,IntKind.signed]
 omega
theorem Zvi {v w:Int} (hv:0≤v∧v≤18446744073709551615) (hw:0≤w∧w≤64):Zdg (v,(w,()))=some (fitB2 v w,()):=by
 obtain ⟨W,rfl⟩:=Int.eq_ofNat_of_zero_le hw.1
 have hL:Zf0 (v,((W:Int),((0:Int),())))=some (v / 2^W,()):=by
  unfold Zf0;delta u3
  refine Zif (fun k:Nat=>(v / 2^k,((W:Int),((k:Int),())))) W (by rw [Int.pow_zero,Int.ediv_one];rfl) ?_ ?_ (Ze8 (by omega))
  ·intro k hk
   have h0:0≤v / 2^k:=Int.ediv_nonneg hv.1 (Int.pow_nonneg (by decide))
   have h1:v / 2^k≤v:=Int.ediv_le_self _ hv.1
   try dsimp only
   unfold Zgr
   have hsel:selB true (@decide _ (Int.decLt (k:Int) (64:Int))) false=decide ((k:Int)<64):=by unfold selB;cases decide ((k:Int)<64)<;>rfl
   rw [br_t (dec_t (by omega)),hsel,br_t (dec_t (by omega))]
   rw [Int.tdiv_eq_ediv_of_nonneg h0,u64w ⟨Int.ediv_nonneg h0 (by decide),by omega⟩,i64w (x:=(k:Int)+1) (by omega),Int.ediv_ediv_of_nonneg (Int.pow_nonneg (by decide)),←Int.pow_succ]
   rfl
  ·try dsimp only
   unfold Zgr
   rw [br_f (dec_f (by omega))]
   rfl
 exact Zba hL rfl
def cAt (L:List Za3.T) (i:Int):Int:=(gt Za3 L i).1
def cWord (L:List Za3.T) (i:Int):Int:=(gt Za3 L i).2.1
def cellB (a w:Int) (L:List Za3.T) (i:Nat):Bool:=
 !decide (cWord L (i:Int)=0)&&fitB2 (cAt L (i:Int)) a&&fitB2 (cWord L (i:Int)) w&&(decide (i=0)||decide (cAt L ((i:Int) - 1)<cAt L (i:Int)))
def Zr2 (a w:Int) (L:List Za3.T):Bool:=
 decide (1≤a)&&decide (a≤62)&&decide (1≤w)&&decide (w≤64)&&decide (L.length≤4096)&&(List.range L.length).all (cellB a w L)
theorem Zzj {a w:Int} (ha:1≤a∧a≤62) (hw:1≤w∧w≤64) (L:List Za3.T) (hl:L.length≤4096) :
  Zkh (a,(w,(L,(L,((L.length:Int),((0:Int),()))))))=some (match (List.range L.length).all (cellB a w L) with | true=>.inr () | false=>.inl (false,())):=by
 unfold Zkh;delta u6
 refine Zlj (fun i:Nat=>(a,(w,(L,(L,((L.length:Int),((i:Int),()))))))) (cellB a w L) L.length ?_ ?_ ?_ rfl (Ze8 (by omega))
 ·intro i hi hp
  unfold cellB at hp
  simp only [Bool.and_eq_true,Bool.not_eq_true',decide_eq_false_iff_not] at hp
  obtain ⟨⟨⟨h1,h2⟩,h3⟩,h4⟩:=hp
  have e1:=Zvu (v:=cAt L (i:Int)) (w:=a) ⟨by omega,by omega⟩
  have e2:=Zvu (v:=cWord L (i:Int)) (w:=w) ⟨by omega,by omega⟩
  try dsimp only
  unfold Zls
  refine br_tt (dec_t (show (i:Int)<(L.length:Int) by omega)) (Zaj (Zar ⟨by omega,by omega⟩) (br_ff (dec_f h1) ((bnd_s e1).trans (br_ff (by rw [h2];rfl) ((bnd_s e2).trans (br_ff (by rw [h3];rfl) ?_))))))
  have e:∀p q:Int,p=q→(some (.inl (a,(w,(L,(L,((L.length:Int),(p,()))))))):Option (TL Zg6.σs⊕Out Zfc))=some (.inl (a,(w,(L,(L,((L.length:Int),(q,()))))))):=by rintro _ _ rfl;rfl
  by_cases h0:i=0
  ·exact br_ff (dec_f (show ¬(0:Int)<(i:Int) by omega)) (e _ _ (i64w (x:=(i:Int)+1) (by omega)))
  ·have hm:IntKind.wrap (.i64:IntKind) ((i:Int) - 1)=(i:Int) - 1:=i64w (by omega)
   rw [hm]
   simp only [Bool.or_eq_true,decide_eq_true_eq] at h4
   refine br_tt (dec_t (show (0:Int)<(i:Int) by omega)) (Zaj (Zar ⟨by omega,by omega⟩) (br_ff (dec_f (show ¬cAt L (i:Int)≤cAt L ((i:Int) - 1) by omega)) (e _ _ (i64w (x:=(i:Int)+1) (by omega)))))
 ·intro i hi hp
  try dsimp only
  unfold Zls
  refine br_tt (dec_t (show (i:Int)<(L.length:Int) by omega)) (Zaj (Zar ⟨by omega,by omega⟩) ?_)
  by_cases h1:cWord L (i:Int)=0
  ·exact br_tt (dec_t h1) rfl
  refine br_ff (dec_f h1) ?_
  have e1:=Zvu (v:=cAt L (i:Int)) (w:=a) ⟨by omega,by omega⟩
  have e2:=Zvu (v:=cWord L (i:Int)) (w:=w) ⟨by omega,by omega⟩
  refine (bnd_s e1).trans ?_
  cases h2:fitB2 (cAt L (i:Int)) a with
  | false=>exact br_tt rfl rfl
  | true=>
   refine br_ff rfl ((bnd_s e2).trans ?_)
   cases h3:fitB2 (cWord L (i:Int)) w with
   | false=>exact br_tt rfl rfl
   | true=>
    refine br_ff rfl ?_
    unfold cellB at hp
    rw [decide_eq_false h1,h2,h3] at hp
    simp only [Bool.not_false,Bool.and_self,Bool.true_and,Bool.or_eq_false_iff,decide_eq_false_iff_not] at hp
    have hm:IntKind.wrap (.i64:IntKind) ((i:Int) - 1)=(i:Int) - 1:=i64w (by omega)
    rw [hm]
    exact br_tt (dec_t (show (0:Int)<(i:Int) by omega)) (Zaj (Zar ⟨by omega,by omega⟩) (br_tt (dec_t (show cAt L (i:Int)≤cAt L ((i:Int) - 1) by omega)) rfl))
 ·try dsimp only
  unfold Zls
  exact br_ff (dec_f (show ¬(L.length:Int)<(L.length:Int) by omega)) rfl
theorem Za3f (a w:Int) (L:List Za3.T):Zj4 (a,(w,(L,())))=some (Zr2 a w L,()):=by
 show Zqh Zhe Zkh a w L=_
 unfold Zqh Zr2
 by_cases h1:a<1
 ·rw [decide_eq_false (show ¬1≤a by omega)]
  exact br_tt (dec_t h1) rfl
 rw [decide_eq_true (show 1≤a by omega)]
 refine br_ff (dec_f h1) ?_
 by_cases h2:62<a
 ·rw [decide_eq_false (show ¬a≤62 by omega)]
  exact br_tt (dec_t h2) rfl
 rw [decide_eq_true (show a≤62 by omega)]
 refine br_ff (dec_f h2) ?_
 by_cases h3:w<1
 ·rw [decide_eq_false (show ¬1≤w by omega)]
  exact br_tt (dec_t h3) rfl
 rw [decide_eq_true (show 1≤w by omega)]
 refine br_ff (dec_f h3) ?_
 by_cases h4:64<w
 ·rw [decide_eq_false (show ¬w≤64 by omega)]
  exact br_tt (dec_t h4) rfl
 rw [decide_eq_true (show w≤64 by omega)]
 refine br_ff (dec_f h4) ?_
 by_cases h5:(4096:Int)<(L.length:Int)
 ·rw [decide_eq_false (show ¬L.length≤4096 by omega)]
  exact br_tt (dec_t h5) rfl
 rw [decide_eq_true (show L.length≤4096 by omega)]
 refine br_ff (dec_f h5) ((bnd_s (Zzj ⟨by omega,by omega⟩ ⟨by omega,by omega⟩ L (by omega))).trans ?_)
 cases (List.range L.length).all (cellB a w L)<;>rfl
def okC (L:List Za3.T):Prop:=∀i:Nat,i<L.length→(0≤cAt L (i:Int)∧cAt L (i:Int)≤18446744073709551615)∧(0≤cWord L (i:Int)∧cWord L (i:Int)≤18446744073709551615)
theorem Zzg {a w:Int} (ha:1≤a∧a≤62) (hw:1≤w∧w≤64) (L:List Za3.T) (hl:L.length≤4096) (hok:okC L) :
  Zdp (a,(w,(L,((0:Int),()))))=some (match (List.range L.length).all (cellB a w L) with | true=>.inr () | false=>.inl (false,())):=by
 unfold Zdp;delta u4
 refine Zlj (fun i:Nat=>(a,(w,(L,((i:Int),()))))) (cellB a w L) L.length ?_ ?_ ?_ rfl (Ze8 (by omega))
 ·intro i hi hp
  unfold cellB at hp
  simp only [Bool.and_eq_true,Bool.not_eq_true',decide_eq_false_iff_not] at hp
  obtain ⟨⟨⟨h1,h2⟩,h3⟩,h4⟩:=hp
  have e1:=Zvi (v:=cAt L (i:Int)) (w:=a) (hok i hi).1 ⟨by omega,by omega⟩
  have e2:=Zvi (v:=cWord L (i:Int)) (w:=w) (hok i hi).2 ⟨by omega,by omega⟩
  have hin:inb (i:Int) (List.length L)=true:=Zar ⟨by omega,by omega⟩
  try dsimp only
  unfold Zee
  refine br_tt (dec_t (show (i:Int)<(L.length:Int) by omega)) ?_
  have e:∀p q:Int,p=q→(some (.inl (a,(w,(L,(p,()))))):Option (TL Zc9.σs⊕Out Zbr))=some (.inl (a,(w,(L,(q,()))))):=by rintro _ _ rfl;rfl
  by_cases h0:i=0
  ·exact br_ff (dec_f (show ¬(0:Int)<(i:Int) by omega)) (Zaj hin ((bnd_s e1).trans (br_ff (by rw [h2];rfl) (Zaj hin ((bnd_s e2).trans (br_ff (by rw [h3];rfl) (Zaj hin (br_ff (dec_f h1) (e _ _ (i64w (x:=(i:Int)+1) (by omega)))))))))))
  ·have hm:IntKind.wrap (.i64:IntKind) ((i:Int) - 1)=(i:Int) - 1:=i64w (by omega)
   rw [hm]
   simp only [Bool.or_eq_true,decide_eq_true_eq] at h4
   refine br_tt (dec_t (show (0:Int)<(i:Int) by omega)) (Zaj hin (Zaj (Zar ⟨by omega,by omega⟩) (br_ff (dec_f (show ¬cAt L (i:Int)≤cAt L ((i:Int) - 1) by omega)) ?_)))
   exact Zaj hin ((bnd_s e1).trans (br_ff (by rw [h2];rfl) (Zaj hin ((bnd_s e2).trans (br_ff (by rw [h3];rfl) (Zaj hin (br_ff (dec_f h1) (e _ _ (i64w (x:=(i:Int)+1) (by omega))))))))))
 ·intro i hi hp
  have hin:inb (i:Int) (List.length L)=true:=Zar ⟨by omega,by omega⟩
  have e1:=Zvi (v:=cAt L (i:Int)) (w:=a) (hok i hi).1 ⟨by omega,by omega⟩
  have e2:=Zvi (v:=cWord L (i:Int)) (w:=w) (hok i hi).2 ⟨by omega,by omega⟩
  try dsimp only
  unfold Zee
  refine br_tt (dec_t (show (i:Int)<(L.length:Int) by omega)) ?_
  unfold cellB at hp
  by_cases h0:i=0
  ·refine br_ff (dec_f (show ¬(0:Int)<(i:Int) by omega)) (Zaj hin ((bnd_s e1).trans ?_))
   cases h2:fitB2 (cAt L (i:Int)) a with
   | false=>exact br_tt rfl rfl
   | true=>
    refine br_ff rfl (Zaj hin ((bnd_s e2).trans ?_))
    cases h3:fitB2 (cWord L (i:Int)) w with
    | false=>exact br_tt rfl rfl
    | true=>
     by_cases h1:cWord L (i:Int)=0
     ·exact br_ff rfl (Zaj hin (br_tt (dec_t h1) rfl))
     ·rw [decide_eq_false h1,h2,h3,decide_eq_true h0] at hp
      cases hp
  ·have hm:IntKind.wrap (.i64:IntKind) ((i:Int) - 1)=(i:Int) - 1:=i64w (by omega)
   rw [hm]
   refine br_tt (dec_t (show (0:Int)<(i:Int) by omega)) (Zaj hin (Zaj (Zar ⟨by omega,by omega⟩) ?_))
   by_cases h4:cAt L (i:Int)≤cAt L ((i:Int) - 1)
   ·exact br_tt (dec_t h4) rfl
   refine br_ff (dec_f h4) (Zaj hin ((bnd_s e1).trans ?_))
   cases h2:fitB2 (cAt L (i:Int)) a with
   | false=>exact br_tt rfl rfl
   | true=>
    refine br_ff rfl (Zaj hin ((bnd_s e2).trans ?_))
    cases h3:fitB2 (cWord L (i:Int)) w with
    | false=>exact br_tt rfl rfl
    | true=>
     by_cases h1:cWord L (i:Int)=0
     ·exact br_ff rfl (Zaj hin (br_tt (dec_t h1) rfl))
     ·rw [decide_eq_false h1,h2,h3,decide_eq_false h0,decide_eq_true (show cAt L ((i:Int) - 1)<cAt L (i:Int) by omega)] at hp
      cases hp
 ·try dsimp only
  unfold Zee
  exact br_ff (dec_f (show ¬(L.length:Int)<(L.length:Int) by omega)) rfl
theorem Zwj (a w:Int) (L:List Za3.T) (hok:okC L):Zdq (a,(w,(L,())))=some (Zr2 a w L,()):=by
 show Zgn Zdg Zdp a w L=_
 unfold Zgn Zr2
 by_cases h1:a<1
 ·rw [decide_eq_false (show ¬1≤a by omega)]
  exact br_tt (dec_t h1) rfl
 rw [decide_eq_true (show 1≤a by omega)]
 refine br_ff (dec_f h1) ?_
 by_cases h2:62<a
 ·rw [decide_eq_false (show ¬a≤62 by omega)]
  exact br_tt (dec_t h2) rfl
 rw [decide_eq_true (show a≤62 by omega)]
 refine br_ff (dec_f h2) ?_
 by_cases h3:w<1
 ·rw [decide_eq_false (show ¬1≤w by omega)]
  exact br_tt (dec_t h3) rfl
 rw [decide_eq_true (show 1≤w by omega)]
 refine br_ff (dec_f h3) ?_
 by_cases h4:64<w
 ·rw [decide_eq_false (show ¬w≤64 by omega)]
  exact br_tt (dec_t h4) rfl
 rw [decide_eq_true (show w≤64 by omega)]
 refine br_ff (dec_f h4) ?_
 by_cases h5:(4096:Int)<(L.length:Int)
 ·rw [decide_eq_false (show ¬L.length≤4096 by omega)]
  exact br_tt (dec_t h5) rfl
 rw [decide_eq_true (show L.length≤4096 by omega)]
 refine br_ff (dec_f h5) ((bnd_s (Zzg ⟨by omega,by omega⟩ ⟨by omega,by omega⟩ L (by omega) hok)).trans ?_)
 cases (List.range L.length).all (cellB a w L)<;>rfl
theorem Za4j {α:Type} {l:List α} {i:Nat} {x:α} (h:l[i]?=some x):i<l.length:=by
 rcases Nat.lt_or_ge i l.length with q | q
 ·exact q
 ·rw [List.getElem?_eq_none q] at h;cases h
theorem Za5z {α:Type} {l:List α} {i:Nat} {x:α} (h:l[i]?=some x):l.take (i+1)=l.take i++[x]:=by
 rw [List.take_add_one,h];rfl
theorem Za1d {σ:Sh} {k:Int} {v:σ.T}:∀{M:MapT σ},(∀p∈M,p.1<k)→mput k v M=M++[(k,v,())]
 | [],_=>rfl
 | p :: M,h=>by
  have hp:=h p (by simp)
  rw [mput,decide_eq_false (show ¬k<p.1 by omega),decide_eq_false (show ¬p.1=k by omega)]
  simp only []
  rw [Za1d (fun q hq=>h q (by simp [hq]))]
  rfl
theorem Za2m {a w:Int} {L:List Za3.T} (h:(List.range L.length).all (cellB a w L)=true):∀i,i<L.length→∀j,j<i→cAt L (j:Int)<cAt L (i:Int):=by
 have h':∀i,i<L.length→cellB a w L i=true:=by simpa [List.all_eq_true] using h
 intro i
 induction i with
 | zero=>intro _ j hj;omega
 | succ i ih=>
  intro hi j hj
  have hc:=h' (i+1) hi
  unfold cellB at hc
  simp only [Bool.and_eq_true,Bool.or_eq_true,decide_eq_true_eq] at hc
  have h4:=hc.2
  have e:(((i+1:Nat):Int) - 1)=(i:Int):=by omega
  rw [e] at h4
  have h5:cAt L (i:Int)<cAt L ((i+1:Nat):Int):=by omega
  by_cases q:j=i
  ·subst q;exact h5
  ·have:=ih (by omega) j (by omega);omega
theorem Zyb (a w:Int) (L:List Za3.T):Zk8 (a,(w,(L,())))=some (match Zr2 a w L with | true=>.inr ((0:Int),(a,(w,(L,())))) | false=>.inl ((14:Int),())):=by
 have e1:=Za3f a w L
 show Zrt Zj4 Zlg a w L=_
 unfold Zrt
 refine (bnd_s e1).trans ?_
 cases hr:Zr2 a w L with
 | false=>exact br_tt rfl rfl
 | true=>
  refine br_ff rfl ?_
  unfold Zr2 at hr
  simp only [Bool.and_eq_true,decide_eq_true_eq] at hr
  obtain ⟨⟨_,hl⟩,hall⟩:=hr
  have hs:=Za2m hall
  have eL:Zlg (L,((L.length:Int),((0:Int),(a,(w,([],()))))))=some (a,(w,(L,()))):=by
   unfold Zlg;delta u6
   refine Zif (fun i:Nat=>(L,((L.length:Int),((i:Int),(a,(w,(L.take i,()))))))) L.length rfl ?_ ?_ (Ze8 (by omega))
   ·intro i hi
    have hc:=List.getElem?_eq_getElem hi
    try dsimp only
    unfold Zqi
    refine br_tt (dec_t (show (i:Int)<(L.length:Int) by omega)) (Zaj (Zar ⟨by omega,by omega⟩) ?_)
    have e:∀(p q:Int) (M M':MapT (.int .u64)),p=q→M=M'→(some (.inl (L,((L.length:Int),(p,(a,(w,(M,()))))))):Option (TL Zh8.σs⊕Out Zg7))=some (.inl (L,((L.length:Int),(q,(a,(w,(M',()))))))):=by rintro _ _ _ _ rfl rfl;rfl
    refine e _ _ _ _ (i64w (x:=(i:Int)+1) (by omega)) ?_
    rw [gt_at (σ:=Za3) hc]
    have hlast:=Za1d (σ:=.int .u64) (k:=L[i].1) (v:=L[i].2.1) (M:=L.take i) (fun p hp=>by
     obtain ⟨j,hj⟩:=List.getElem?_of_mem hp
     have hjl:j<i:=Nat.lt_of_lt_of_le (Za4j hj) (List.length_take_le i L)
     have hj:(L:List Za3.T)[j]?=some p:=by rw [←hj];exact (List.getElem?_take_of_lt hjl).symm
     have:=hs i hi j hjl
     unfold cAt at this
     rw [gt_at (σ:=Za3) hj,gt_at (σ:=Za3) hc] at this
     exact this)
    refine hlast.trans ?_
    exact (Za5z hc).symm
   ·try dsimp only
    unfold Zqi
    refine br_ff (dec_f (show ¬(L.length:Int)<(L.length:Int) by omega)) ?_
    rw [List.take_length]
    rfl
  exact Zba eL rfl
def loadP (T:List Za1.T) (cs:List (List Za3.T)) (i:Nat):Bool:=Zr2 (gt Za1 T (i:Int)).1 (gt Za1 T (i:Int)).2.1 (gt (.sl Za3) cs (i:Int))
def ramAt (T:List Za1.T) (cs:List (List Za3.T)) (i:Nat):RamT:=mkRam (gt Za1 T (i:Int)).1 (gt Za1 T (i:Int)).2.1 (gt (.sl Za3) cs (i:Int))
def ramsL (T:List Za1.T) (cs:List (List Za3.T)) (k:Nat):List RamT:=(List.range k).map (ramAt T cs)
theorem Za81 (T:List Za1.T) (lat:List Bool) (cs:List (List Za3.T)) (hT:T.length≤100000) (hc:cs.length=T.length) :
  Zle (T,((T.length:Int),((0:Int),(lat,(cs,([],()))))))=some (match (List.range T.length).all (loadP T cs) with | true=>.inr (ramsL T cs T.length,()) | false=>.inl ((14:Int),())):=by
 unfold Zle;delta u6
 refine Zlj (fun i:Nat=>(T,((T.length:Int),((i:Int),(lat,(cs,(ramsL T cs i,()))))))) (loadP T cs) T.length ?_ ?_ ?_ rfl (Ze8 (by omega))
 ·intro i hi hp
  have e1:=Zyb (gt Za1 T (i:Int)).1 (gt Za1 T (i:Int)).2.1 (gt (.sl Za3) cs (i:Int))
  have hp':Zr2 (gt Za1 T (i:Int)).1 (gt Za1 T (i:Int)).2.1 (gt (.sl Za3) cs (i:Int))=true:=hp
  rw [hp'] at e1
  have hlen:(ramsL T cs i).length=i:=by unfold ramsL;simp
  try dsimp only
  unfold Zms
  refine br_tt (dec_t (show (i:Int)<(T.length:Int) by omega)) (Zaj (Zar ⟨by omega,by omega⟩) (Zaj (Zar ⟨by omega,by omega⟩) ((bnd_s e1).trans (br_ff rfl (Zaj (Zsm (L:=ramsL T cs i) (by rw [hlen];omega) (by decide)) ?_)))))
  have e:∀(p q:Int) (M M':List RamT),p=q→M=M'→(some (.inl (T,((T.length:Int),(p,(lat,(cs,(M,()))))))):Option (TL Zh6.σs⊕Out Zg3))=some (.inl (T,((T.length:Int),(q,(lat,(cs,(M',()))))))):=by rintro _ _ _ _ rfl rfl;rfl
  refine e _ _ _ _ (i64w (x:=(i:Int)+1) (by omega)) ?_
  show ramsL T cs i++[ramAt T cs i]=ramsL T cs (i+1)
  unfold ramsL
  rw [List.range_succ,List.map_append]
  rfl
 ·intro i hi hp
  have e1:=Zyb (gt Za1 T (i:Int)).1 (gt Za1 T (i:Int)).2.1 (gt (.sl Za3) cs (i:Int))
  have hp':Zr2 (gt Za1 T (i:Int)).1 (gt Za1 T (i:Int)).2.1 (gt (.sl Za3) cs (i:Int))=false:=hp
  rw [hp'] at e1
  try dsimp only
  unfold Zms
  exact br_tt (dec_t (show (i:Int)<(T.length:Int) by omega)) (Zaj (Zar ⟨by omega,by omega⟩) (Zaj (Zar ⟨by omega,by omega⟩) ((bnd_s e1).trans (Zaj rfl rfl))))
 ·try dsimp only
  unfold Zms
  exact br_ff (dec_f (show ¬(T.length:Int)<(T.length:Int) by omega)) rfl
def fitsS (d:Za5.T) (s:Zab.T):Bool:=decide (s.1.length=d.2.2.1.length)&&decide (s.2.1.length=d.2.2.2.2.2.2.1.length)&&(List.range d.2.2.2.2.2.2.1.length).all (loadP d.2.2.2.2.2.2.1 s.2.1)
theorem Zbap (d:Za5.T) (s:Zab.T) (hT:d.2.2.2.2.2.2.1.length≤100000) :
  Zq8 (d.1,(d.2.1,(d.2.2.1,(d.2.2.2.1,(d.2.2.2.2.1,(d.2.2.2.2.2.1,(d.2.2.2.2.2.2.1,(d.2.2.2.2.2.2.2.1,(s.1,(s.2.1,())))))))))) =
   some (match fitsS d s with | true=>((0:Int),(ramsL d.2.2.2.2.2.2.1 s.2.1 d.2.2.2.2.2.2.1.length,())) | false=>((14:Int),([],()))):=by
 show Zrp Zk8 Zle d.1 d.2.1 d.2.2.1 d.2.2.2.1 d.2.2.2.2.1 d.2.2.2.2.2.1 d.2.2.2.2.2.2.1 d.2.2.2.2.2.2.2.1 s.1 s.2.1=_
 unfold Zrp fitsS
 by_cases h1:s.1.length=d.2.2.1.length
 ·rw [decide_eq_true h1]
  have q1:Bool.not (decide (Int.ofNat (List.length s.1)=Int.ofNat (List.length d.2.2.1)))=false:=by rw [decide_eq_true (by rw [h1])];rfl
  refine br_ff q1 ?_
  by_cases h2:s.2.1.length=d.2.2.2.2.2.2.1.length
  ·rw [decide_eq_true h2]
   have q2:Bool.not (decide (Int.ofNat (List.length s.2.1)=Int.ofNat (List.length d.2.2.2.2.2.2.1)))=false:=by rw [decide_eq_true (by rw [h2])];rfl
   refine br_ff q2 ((bnd_s (Za81 d.2.2.2.2.2.2.1 s.1 s.2.1 hT h2)).trans ?_)
   cases (List.range d.2.2.2.2.2.2.1.length).all (loadP d.2.2.2.2.2.2.1 s.2.1)<;>rfl
  ·rw [decide_eq_false h2]
   have q2:Bool.not (decide (Int.ofNat (List.length s.2.1)=Int.ofNat (List.length d.2.2.2.2.2.2.1)))=true:=by rw [decide_eq_false (fun e=>h2 (Int.ofNat.inj e))];rfl
   exact br_tt q2 rfl
 ·rw [decide_eq_false h1]
  have q1:Bool.not (decide (Int.ofNat (List.length s.1)=Int.ofNat (List.length d.2.2.1)))=true:=by rw [decide_eq_false (fun e=>h1 (Int.ofNat.inj e))];rfl
  exact br_tt q1 rfl
def fitsF (d:Za5.T) (s:Zab.T):Int:=if Pl.Zkz (netD d)≠0 then Pl.Zkz (netD d) else match fitsS d s with | true=>0 | false=>14
theorem Zy6 (d:Za5.T) (s:Zab.T) (ft:Fit (netD d)) (hT:d.2.2.2.2.2.2.1.length≤100000):Zhp (d,(s,()))=some (fitsF d s,()):=by
 have e1:=Zq6 ft
 rw [Zri] at e1
 have e2:=Zbap d s hT
 unfold fitsF
 by_cases h:Pl.Zkz (netD d)=0
 ·rw [if_neg (by simpa using h)]
  refine Zba e1 (br_ff (by rw [h];rfl) (Zba e2 ?_))
  cases fitsS d s<;>rfl
 ·rw [if_pos h]
  exact Zba e1 (br_tt (by simp [h]) rfl)
def okS (cs:List (List Za3.T)):Prop:=∀c∈cs,okC c
theorem Za11 (d:Za5.T) (lat:List Bool) (cs:List (List Za3.T)) (hT:d.2.2.2.2.2.2.1.length≤100000) (hc:cs.length=d.2.2.2.2.2.2.1.length) (hok:okS cs) :
  Zew ((0:Int),(d.1,(d.2.1,(d.2.2.1,(d.2.2.2.1,(d.2.2.2.2.1,(d.2.2.2.2.2.1,(d.2.2.2.2.2.2.1,(d.2.2.2.2.2.2.2.1,(lat,(cs,()))))))))))) =
   some (match (List.range d.2.2.2.2.2.2.1.length).all (loadP d.2.2.2.2.2.2.1 cs) with | true=>.inr () | false=>.inl ((14:Int),())):=by
 have hok':∀i:Nat,i<d.2.2.2.2.2.2.1.length→okC (gt (.sl Za3) cs (i:Int)):=by
  intro i hi
  have hg:=List.getElem?_eq_getElem (l:=cs) (i:=i) (by omega)
  rw [gt_at (σ:=.sl Za3) hg]
  exact hok _ (List.getElem_mem (by omega))
 unfold Zew;delta u11
 refine Zlj (fun i:Nat=>((i:Int),(d.1,(d.2.1,(d.2.2.1,(d.2.2.2.1,(d.2.2.2.2.1,(d.2.2.2.2.2.1,(d.2.2.2.2.2.2.1,(d.2.2.2.2.2.2.2.1,(lat,(cs,())))))))))))) (loadP d.2.2.2.2.2.2.1 cs) d.2.2.2.2.2.2.1.length ?_ ?_ ?_ rfl (Ze8 (by omega))
 ·intro i hi hp
  have e1:=Zwj (gt Za1 d.2.2.2.2.2.2.1 (i:Int)).1 (gt Za1 d.2.2.2.2.2.2.1 (i:Int)).2.1 (gt (.sl Za3) cs (i:Int)) (hok' i hi)
  have hp':Zr2 (gt Za1 d.2.2.2.2.2.2.1 (i:Int)).1 (gt Za1 d.2.2.2.2.2.2.1 (i:Int)).2.1 (gt (.sl Za3) cs (i:Int))=true:=hp
  rw [hp'] at e1
  try dsimp only
  unfold Zex
  have e:∀(p q:Int),p=q→(some (.inl (p,(d.1,(d.2.1,(d.2.2.1,(d.2.2.2.1,(d.2.2.2.2.1,(d.2.2.2.2.2.1,(d.2.2.2.2.2.2.1,(d.2.2.2.2.2.2.2.1,(lat,(cs,())))))))))))):Option (TL Zcn.σs⊕Out Zc7))=some (.inl (q,(d.1,(d.2.1,(d.2.2.1,(d.2.2.2.1,(d.2.2.2.2.1,(d.2.2.2.2.2.1,(d.2.2.2.2.2.2.1,(d.2.2.2.2.2.2.2.1,(lat,(cs,())))))))))))):=by rintro _ _ rfl;rfl
  exact br_tt (dec_t (show (i:Int)<(d.2.2.2.2.2.2.1.length:Int) by omega)) (Zaj (Zar ⟨by omega,by omega⟩) (Zaj (Zar ⟨by omega,by omega⟩) (Zaj (Zar ⟨by omega,by omega⟩) ((bnd_s e1).trans (br_ff rfl (e _ _ (i64w (x:=(i:Int)+1) (by omega))))))))
 ·intro i hi hp
  have e1:=Zwj (gt Za1 d.2.2.2.2.2.2.1 (i:Int)).1 (gt Za1 d.2.2.2.2.2.2.1 (i:Int)).2.1 (gt (.sl Za3) cs (i:Int)) (hok' i hi)
  have hp':Zr2 (gt Za1 d.2.2.2.2.2.2.1 (i:Int)).1 (gt Za1 d.2.2.2.2.2.2.1 (i:Int)).2.1 (gt (.sl Za3) cs (i:Int))=false:=hp
  rw [hp'] at e1
  try dsimp only
  unfold Zex
  exact br_tt (dec_t (show (i:Int)<(d.2.2.2.2.2.2.1.length:Int) by omega)) (Zaj (Zar ⟨by omega,by omega⟩) (Zaj (Zar ⟨by omega,by omega⟩) (Zaj (Zar ⟨by omega,by omega⟩) ((bnd_s e1).trans (br_tt rfl rfl)))))
 ·try dsimp only
  unfold Zex
  exact br_ff (dec_f (show ¬(d.2.2.2.2.2.2.1.length:Int)<(d.2.2.2.2.2.2.1.length:Int) by omega)) rfl
theorem Zya (d:Za5.T) (s:Zab.T) (ft:Fit (netD d)) (hT:d.2.2.2.2.2.2.1.length≤100000) (hok:okS s.2.1):Zbn (d,(s,()))=some (fitsF d s,()):=by
 have e1:=Zxe ft
 rw [Zri] at e1
 unfold fitsF
 by_cases h:Pl.Zkz (netD d)=0
 ·rw [if_neg (by simpa using h)]
  refine Zba e1 (br_ff (by rw [h];rfl) ?_)
  unfold fitsS
  by_cases h1:s.1.length=d.2.2.1.length
  ·rw [decide_eq_true h1]
   have q1:Bool.not (decide (Int.ofNat (List.length s.1)=Int.ofNat (List.length d.2.2.1)))=false:=by rw [decide_eq_true (by rw [h1])];rfl
   refine br_ff q1 ?_
   by_cases h2:s.2.1.length=d.2.2.2.2.2.2.1.length
   ·rw [decide_eq_true h2]
    have q2:Bool.not (decide (Int.ofNat (List.length s.2.1)=Int.ofNat (List.length d.2.2.2.2.2.2.1)))=false:=by rw [decide_eq_true (by rw [h2])];rfl
    refine br_ff q2 ((bnd_s (Za11 d s.1 s.2.1 hT h2 hok)).trans ?_)
    cases (List.range d.2.2.2.2.2.2.1.length).all (loadP d.2.2.2.2.2.2.1 s.2.1)<;>rfl
   ·rw [decide_eq_false h2]
    have q2:Bool.not (decide (Int.ofNat (List.length s.2.1)=Int.ofNat (List.length d.2.2.2.2.2.2.1)))=true:=by rw [decide_eq_false (fun e=>h2 (Int.ofNat.inj e))];rfl
    exact br_tt q2 rfl
  ·rw [decide_eq_false h1]
   have q1:Bool.not (decide (Int.ofNat (List.length s.1)=Int.ofNat (List.length d.2.2.1)))=true:=by rw [decide_eq_false (fun e=>h1 (Int.ofNat.inj e))];rfl
   exact br_tt q1 rfl
 ·rw [if_pos h]
  exact Zba e1 (br_tt (by simp [h]) rfl)
def lInit (d:List Za0.T) (i:Int):Int:=(gt Za0 d i).2.2.1
def nx {α:Type} (d:Za5.T) (r:α):Int×List Int×List Za0.T×List Int×List Int×List Int×List Za1.T×List Za0.T×α:=
 (d.1,(d.2.1,(d.2.2.1,(d.2.2.2.1,(d.2.2.2.2.1,(d.2.2.2.2.2.1,(d.2.2.2.2.2.2.1,(d.2.2.2.2.2.2.2.1,r))))))))
theorem bself (x:Bool):Bool.not (@decide _ (Bool.decEq x x))=false:=by cases x<;>rfl
theorem Za37 (L:List Bool) (hL:L.length≤100000):Zdw (L,(L,()))=some (true,()):=by
 have eL:Zez (L,(L,((0:Int),())))=some (.inr ()):=by
  unfold Zez;delta u3
  refine Zif (fun i:Nat=>(L,(L,((i:Int),())))) L.length rfl ?_ ?_ (Ze8 (by omega))
  ·intro i hi
   try dsimp only
   unfold Zgp
   have e:∀p q:Int,p=q→(some (.inl (L,(L,(p,())))):Option (TL Zcp.σs⊕Out Zca))=some (.inl (L,(L,(q,())))):=by rintro _ _ rfl;rfl
   exact br_tt (dec_t (show (i:Int)<(L.length:Int) by omega)) (Zaj (Zar ⟨by omega,by omega⟩) (Zaj (Zar ⟨by omega,by omega⟩) (br_ff (bself (gt .bool L (i:Int))) (e _ _ (i64w (x:=(i:Int)+1) (by omega))))))
  ·try dsimp only
   unfold Zgp
   exact br_ff (dec_f (show ¬(L.length:Int)<(L.length:Int) by omega)) rfl
 have q:Bool.not (decide (Int.ofNat (List.length L)=Int.ofNat (List.length L)))=false:=by rw [decide_eq_true rfl];rfl
 exact br_ff q (Zba eL rfl)
theorem Za36 (L:List Za3.T) (hL:L.length≤100000):Zdv (L,(L,()))=some (true,()):=by
 have eL:Zey (L,(L,((0:Int),())))=some (.inr ()):=by
  unfold Zey;delta u3
  refine Zif (fun i:Nat=>(L,(L,((i:Int),())))) L.length rfl ?_ ?_ (Ze8 (by omega))
  ·intro i hi
   try dsimp only
   unfold Zgm
   have q:Bool.not (both (@decide _ (Int.instDecidableEq (cAt L (i:Int)) (cAt L (i:Int)))) (both (@decide _ (Int.instDecidableEq (cWord L (i:Int)) (cWord L (i:Int)))) true))=false:=by rw [decide_eq_true rfl,decide_eq_true rfl];rfl
   have e:∀p q:Int,p=q→(some (.inl (L,(L,(p,())))):Option (TL Zco.σs⊕Out Zc8))=some (.inl (L,(L,(q,())))):=by rintro _ _ rfl;rfl
   exact br_tt (dec_t (show (i:Int)<(L.length:Int) by omega)) (Zaj (Zar ⟨by omega,by omega⟩) (Zaj (Zar ⟨by omega,by omega⟩) (br_ff q (e _ _ (i64w (x:=(i:Int)+1) (by omega))))))
  ·try dsimp only
   unfold Zgm
   exact br_ff (dec_f (show ¬(L.length:Int)<(L.length:Int) by omega)) rfl
 have q:Bool.not (decide (Int.ofNat (List.length L)=Int.ofNat (List.length L)))=false:=by rw [decide_eq_true rfl];rfl
 exact br_ff q (Zba eL rfl)
theorem Za35 (a:List Bool) (C:List (List Za3.T)) (hC:C.length≤100000) (hc:∀c∈C,c.length≤100000):Zev ((0:Int),(a,(C,(a,(C,())))))=some (.inr ()):=by
 unfold Zev;delta u5
 refine Zif (fun i:Nat=>((i:Int),(a,(C,(a,(C,())))))) C.length rfl ?_ ?_ (Ze8 (by omega))
 ·intro i hi
  have hg:=List.getElem?_eq_getElem hi
  have e1:=Za36 (gt (.sl Za3) C (i:Int)) (by rw [gt_at (σ:=.sl Za3) hg];exact hc _ (List.getElem_mem hi))
  try dsimp only
  unfold Zgj
  have e:∀p q:Int,p=q→(some (.inl (p,(a,(C,(a,(C,())))))):Option (TL Zcm.σs⊕Out Zc5))=some (.inl (q,(a,(C,(a,(C,())))))):=by rintro _ _ rfl;rfl
  exact br_tt (dec_t (show (i:Int)<(C.length:Int) by omega)) (Zaj (Zar ⟨by omega,by omega⟩) (Zaj (Zar ⟨by omega,by omega⟩) ((bnd_s e1).trans (br_ff rfl (e _ _ (i64w (x:=(i:Int)+1) (by omega)))))))
 ·try dsimp only
  unfold Zgj
  exact br_ff (dec_f (show ¬(C.length:Int)<(C.length:Int) by omega)) rfl
theorem Za34 (a:List Bool) (C:List (List Za3.T)) (ha:a.length≤100000) (hC:C.length≤100000) (hc:∀c∈C,c.length≤100000):Zgi ((a,(C,())),((a,(C,())),()))=some (true,()):=by
 have q:Bool.not (decide (Int.ofNat (List.length C)=Int.ofNat (List.length C)))=false:=by rw [decide_eq_true rfl];rfl
 exact Zba (Za37 a ha) (br_ff rfl (br_ff q (Zba (Za35 a C hC hc) rfl)))
def rdLen (R:List Zb3.T) (i:Int):Nat:=List.length (gt Zb3 R i).2.1
def rdVar (R:List Zb3.T) (i:Int):Int:=(gt Zb3 R i).1
def p10 (R:List Zb3.T) (i:Nat):Bool:=decide (rdLen R (i:Int)≤100)&&decide (rdVar R (i:Int)≤1099511627776)&&decide (-1099511627776≤rdVar R (i:Int))
def wrLen (R:List Zb8.T) (i:Int):Nat:=List.length (gt Zb8 R i).2.1
def wrDat (R:List Zb8.T) (i:Int):Nat:=List.length (gt Zb8 R i).2.2.1
def p15 (R:List Zb8.T) (i:Nat):Bool:=decide (wrLen R (i:Int)≤100)&&decide (wrDat R (i:Int)≤100)
theorem Za85 (d:Za5.T) (t a w:Int) (y:Bool) (R:List Zb3.T) (W:List Zb8.T) (hR:R.length≤100000) :
  Zd6 (t,((0:Int),nx d (a,(w,(y,(R,(W,())))))))=some (match (List.range R.length).all (p10 R) with | true=>.inr (t,nx d (a,(w,(y,(R,(W,())))))) | false=>.inl (false,())):=by
 unfold Zd6;delta u15
 refine Zlj (fun i:Nat=>(t,((i:Int),nx d (a,(w,(y,(R,(W,())))))))) (p10 R) R.length ?_ ?_ ?_ rfl (Ze8 (by omega))
 ·intro i hi hp
  unfold p10 at hp
  simp only [Bool.and_eq_true,decide_eq_true_eq] at hp
  obtain ⟨⟨h1,h2⟩,h3⟩:=hp
  have hin:inb (i:Int) (List.length R)=true:=Zar ⟨by omega,by omega⟩
  unfold nx
  try dsimp only
  unfold Ze7
  have e:∀p q:Int,p=q→(some (.inl (t,(p,nx d (a,(w,(y,(R,(W,())))))))):Option (TL Zaz.σs⊕Out Zaw))=some (.inl (t,(q,nx d (a,(w,(y,(R,(W,())))))))):=by rintro _ _ rfl;rfl
  exact br_tt (dec_t (show (i:Int)<(R.length:Int) by omega)) (Zaj hin (br_ff (dec_f (show ¬(100:Int)<((rdLen R (i:Int):Nat):Int) by omega)) (Zaj hin (br_ff (dec_f (show ¬(1099511627776:Int)<rdVar R (i:Int) by omega)) (Zaj hin (br_ff (dec_f (show ¬rdVar R (i:Int)<Int.negSucc 1099511627775 by omega)) (e _ _ (i64w (x:=(i:Int)+1) (by omega)))))))))
 ·intro i hi hp
  have hin:inb (i:Int) (List.length R)=true:=Zar ⟨by omega,by omega⟩
  unfold nx
  try dsimp only
  unfold Ze7
  refine br_tt (dec_t (show (i:Int)<(R.length:Int) by omega)) (Zaj hin ?_)
  by_cases h1:(100:Int)<((rdLen R (i:Int):Nat):Int)
  ·exact br_tt (dec_t h1) rfl
  refine br_ff (dec_f h1) (Zaj hin ?_)
  by_cases h2:(1099511627776:Int)<rdVar R (i:Int)
  ·exact br_tt (dec_t h2) rfl
  refine br_ff (dec_f h2) (Zaj hin ?_)
  by_cases h3:rdVar R (i:Int)<Int.negSucc 1099511627775
  ·exact br_tt (dec_t h3) rfl
  unfold p10 at hp
  rw [decide_eq_true (show rdLen R (i:Int)≤100 by omega),decide_eq_true (show rdVar R (i:Int)≤1099511627776 by omega),decide_eq_true (show -1099511627776≤rdVar R (i:Int) by omega)] at hp
  cases hp
 ·unfold nx
  try dsimp only
  unfold Ze7
  exact br_ff (dec_f (show ¬(R.length:Int)<(R.length:Int) by omega)) rfl
theorem Za82 (d:Za5.T) (t a w:Int) (y:Bool) (R:List Zb3.T) (W:List Zb8.T) (hW:W.length≤100000) :
  Zd5 (t,((0:Int),nx d (a,(w,(y,(R,(W,())))))))=some (match (List.range W.length).all (p15 W) with | true=>.inr (t,nx d ()) | false=>.inl (false,())):=by
 unfold Zd5;delta u15
 refine Zlj (fun i:Nat=>(t,((i:Int),nx d (a,(w,(y,(R,(W,())))))))) (p15 W) W.length ?_ ?_ ?_ rfl (Ze8 (by omega))
 ·intro i hi hp
  unfold p15 at hp
  simp only [Bool.and_eq_true,decide_eq_true_eq] at hp
  obtain ⟨h1,h2⟩:=hp
  have hin:inb (i:Int) (List.length W)=true:=Zar ⟨by omega,by omega⟩
  unfold nx
  try dsimp only
  unfold Ze6
  have e:∀p q:Int,p=q→(some (.inl (t,(p,nx d (a,(w,(y,(R,(W,())))))))):Option (TL Zay.σs⊕Out Zav))=some (.inl (t,(q,nx d (a,(w,(y,(R,(W,())))))))):=by rintro _ _ rfl;rfl
  exact br_tt (dec_t (show (i:Int)<(W.length:Int) by omega)) (Zaj hin (br_ff (dec_f (show ¬(100:Int)<((wrLen W (i:Int):Nat):Int) by omega)) (Zaj hin (br_ff (dec_f (show ¬(100:Int)<((wrDat W (i:Int):Nat):Int) by omega)) (e _ _ (i64w (x:=(i:Int)+1) (by omega)))))))
 ·intro i hi hp
  have hin:inb (i:Int) (List.length W)=true:=Zar ⟨by omega,by omega⟩
  unfold nx
  try dsimp only
  unfold Ze6
  refine br_tt (dec_t (show (i:Int)<(W.length:Int) by omega)) (Zaj hin ?_)
  by_cases h1:(100:Int)<((wrLen W (i:Int):Nat):Int)
  ·exact br_tt (dec_t h1) rfl
  refine br_ff (dec_f h1) (Zaj hin ?_)
  by_cases h2:(100:Int)<((wrDat W (i:Int):Nat):Int)
  ·exact br_tt (dec_t h2) rfl
  unfold p15 at hp
  rw [decide_eq_true (show wrLen W (i:Int)≤100 by omega),decide_eq_true (show wrDat W (i:Int)≤100 by omega)] at hp
  cases hp
 ·unfold nx
  try dsimp only
  unfold Ze6
  exact br_ff (dec_f (show ¬(W.length:Int)<(W.length:Int) by omega)) rfl
def mRd (T:List Za1.T) (i:Int):List Zb3.T:=(gt Za1 T i).2.2.2.1
def mWr (T:List Za1.T) (i:Int):List Zb8.T:=(gt Za1 T i).2.2.2.2.1
def mWord (T:List Za1.T) (i:Int):Int:=(gt Za1 T i).2.1
def p4 (T:List Za1.T) (i:Nat):Bool:=decide ((mRd T (i:Int)).length≤6)&&decide ((mWr T (i:Int)).length≤6)&&decide (mWord T (i:Int)≤100) &&
 (List.range (mRd T (i:Int)).length).all (p10 (mRd T (i:Int)))&&(List.range (mWr T (i:Int)).length).all (p15 (mWr T (i:Int)))
theorem light4 (d:Za5.T) (hT:d.2.2.2.2.2.2.1.length≤100000) :
  Zen ((0:Int),nx d ())=some (match (List.range d.2.2.2.2.2.2.1.length).all (p4 d.2.2.2.2.2.2.1) with | true=>.inr () | false=>.inl (false,())):=by
 unfold Zen;delta u9
 refine Zlj (fun i:Nat=>((i:Int),nx d ())) (p4 d.2.2.2.2.2.2.1) d.2.2.2.2.2.2.1.length ?_ ?_ ?_ rfl (Ze8 (by omega))
 ·intro i hi hp
  unfold p4 at hp
  simp only [Bool.and_eq_true,decide_eq_true_eq] at hp
  obtain ⟨⟨⟨⟨h1,h2⟩,h3⟩,h4⟩,h5⟩:=hp
  have hin:inb (i:Int) (List.length d.2.2.2.2.2.2.1)=true:=Zar ⟨by omega,by omega⟩
  have e10:=Za85 d (i:Int) (gt Za1 d.2.2.2.2.2.2.1 (i:Int)).1 (mWord d.2.2.2.2.2.2.1 (i:Int)) (gt Za1 d.2.2.2.2.2.2.1 (i:Int)).2.2.1 (mRd d.2.2.2.2.2.2.1 (i:Int)) (mWr d.2.2.2.2.2.2.1 (i:Int)) (by omega)
  have e15:=Za82 d (i:Int) (gt Za1 d.2.2.2.2.2.2.1 (i:Int)).1 (mWord d.2.2.2.2.2.2.1 (i:Int)) (gt Za1 d.2.2.2.2.2.2.1 (i:Int)).2.2.1 (mRd d.2.2.2.2.2.2.1 (i:Int)) (mWr d.2.2.2.2.2.2.1 (i:Int)) (by omega)
  rw [h4] at e10
  rw [h5] at e15
  unfold nx at e10 e15 ⊢
  try dsimp only
  unfold Zeo
  have e:∀p q:Int,p=q→(some (.inl (p,nx d ())):Option (TL Zcf.σs⊕Out Zbw))=some (.inl (q,nx d ())):=by rintro _ _ rfl;rfl
  exact br_tt (dec_t (show (i:Int)<(d.2.2.2.2.2.2.1.length:Int) by omega)) (Zaj hin (br_ff (dec_f (show ¬(6:Int)<(((mRd d.2.2.2.2.2.2.1 (i:Int)).length:Nat):Int) by omega)) (br_ff (dec_f (show ¬(6:Int)<(((mWr d.2.2.2.2.2.2.1 (i:Int)).length:Nat):Int) by omega)) (br_ff (dec_f (show ¬(100:Int)<mWord d.2.2.2.2.2.2.1 (i:Int) by omega)) ((bnd_s e10).trans ((bnd_s e15).trans (e _ _ (i64w (x:=(i:Int)+1) (by omega)))))))))
 ·intro i hi hp
  have hin:inb (i:Int) (List.length d.2.2.2.2.2.2.1)=true:=Zar ⟨by omega,by omega⟩
  unfold nx
  try dsimp only
  unfold Zeo
  refine br_tt (dec_t (show (i:Int)<(d.2.2.2.2.2.2.1.length:Int) by omega)) (Zaj hin ?_)
  by_cases h1:(6:Int)<(((mRd d.2.2.2.2.2.2.1 (i:Int)).length:Nat):Int)
  ·exact br_tt (dec_t h1) rfl
  refine br_ff (dec_f h1) ?_
  by_cases h2:(6:Int)<(((mWr d.2.2.2.2.2.2.1 (i:Int)).length:Nat):Int)
  ·exact br_tt (dec_t h2) rfl
  refine br_ff (dec_f h2) ?_
  by_cases h3:(100:Int)<mWord d.2.2.2.2.2.2.1 (i:Int)
  ·exact br_tt (dec_t h3) rfl
  refine br_ff (dec_f h3) ?_
  have e10:=Za85 d (i:Int) (gt Za1 d.2.2.2.2.2.2.1 (i:Int)).1 (mWord d.2.2.2.2.2.2.1 (i:Int)) (gt Za1 d.2.2.2.2.2.2.1 (i:Int)).2.2.1 (mRd d.2.2.2.2.2.2.1 (i:Int)) (mWr d.2.2.2.2.2.2.1 (i:Int)) (by omega)
  have e15:=Za82 d (i:Int) (gt Za1 d.2.2.2.2.2.2.1 (i:Int)).1 (mWord d.2.2.2.2.2.2.1 (i:Int)) (gt Za1 d.2.2.2.2.2.2.1 (i:Int)).2.2.1 (mRd d.2.2.2.2.2.2.1 (i:Int)) (mWr d.2.2.2.2.2.2.1 (i:Int)) (by omega)
  refine (bnd_s e10).trans ?_
  cases h4:(List.range (mRd d.2.2.2.2.2.2.1 (i:Int)).length).all (p10 (mRd d.2.2.2.2.2.2.1 (i:Int))) with
  | false=>rfl
  | true=>
   refine (bnd_s e15).trans ?_
   cases h5:(List.range (mWr d.2.2.2.2.2.2.1 (i:Int)).length).all (p15 (mWr d.2.2.2.2.2.2.1 (i:Int))) with
   | false=>rfl
   | true=>
    unfold p4 at hp
    rw [h4,h5,decide_eq_true (show (mRd d.2.2.2.2.2.2.1 (i:Int)).length≤6 by omega),decide_eq_true (show (mWr d.2.2.2.2.2.2.1 (i:Int)).length≤6 by omega),decide_eq_true (show mWord d.2.2.2.2.2.2.1 (i:Int)≤100 by omega)] at hp
    cases hp
 ·unfold nx
  try dsimp only
  unfold Zeo
  exact br_ff (dec_f (show ¬(d.2.2.2.2.2.2.1.length:Int)<(d.2.2.2.2.2.2.1.length:Int) by omega)) rfl
def Zu7 (d:Za5.T):Prop:=List.length d.2.1≤2100∧List.length d.2.2.1≤2100∧List.length d.2.2.2.2.2.2.2.1≤2100∧List.length d.2.2.2.1≤1100∧List.length d.2.2.2.2.1≤1100∧List.length d.2.2.2.2.2.1≤1100∧List.length d.2.2.2.2.2.2.1≤6 ∧
 (List.range d.2.2.2.2.2.2.1.length).all (p4 d.2.2.2.2.2.2.1)=true
theorem Za6d (d:Za5.T):∃b,Zdr (d,())=some (b,())∧(b=true→Zu7 d):=by
 have key:∀{b:Bool},(b=true→Zu7 d)→Zdr (d,())=some (b,())→∃b,Zdr (d,())=some (b,())∧(b=true→Zu7 d):=fun h e=>⟨_,e,h⟩
 by_cases h1:(2100:Int)<((List.length d.2.1:Nat):Int)
 ·exact key (fun h=>by cases h) (br_tt (dec_t h1) rfl)
 by_cases h2:(2100:Int)<((List.length d.2.2.1:Nat):Int)
 ·exact key (fun h=>by cases h) (br_ff (dec_f h1) (br_tt (dec_t h2) rfl))
 by_cases h3:(2100:Int)<((List.length d.2.2.2.2.2.2.2.1:Nat):Int)
 ·exact key (fun h=>by cases h) (br_ff (dec_f h1) (br_ff (dec_f h2) (br_tt (dec_t h3) rfl)))
 by_cases h4:(1100:Int)<((List.length d.2.2.2.1:Nat):Int)
 ·exact key (fun h=>by cases h) (br_ff (dec_f h1) (br_ff (dec_f h2) (br_ff (dec_f h3) (br_tt (dec_t h4) rfl))))
 by_cases h5:(1100:Int)<((List.length d.2.2.2.2.1:Nat):Int)
 ·exact key (fun h=>by cases h) (br_ff (dec_f h1) (br_ff (dec_f h2) (br_ff (dec_f h3) (br_ff (dec_f h4) (br_tt (dec_t h5) rfl)))))
 by_cases h6:(1100:Int)<((List.length d.2.2.2.2.2.1:Nat):Int)
 ·exact key (fun h=>by cases h) (br_ff (dec_f h1) (br_ff (dec_f h2) (br_ff (dec_f h3) (br_ff (dec_f h4) (br_ff (dec_f h5) (br_tt (dec_t h6) rfl))))))
 by_cases h7:(6:Int)<((List.length d.2.2.2.2.2.2.1:Nat):Int)
 ·exact key (fun h=>by cases h) (br_ff (dec_f h1) (br_ff (dec_f h2) (br_ff (dec_f h3) (br_ff (dec_f h4) (br_ff (dec_f h5) (br_ff (dec_f h6) (br_tt (dec_t h7) rfl)))))))
 have e4:=light4 d (by omega)
 cases h8:(List.range d.2.2.2.2.2.2.1.length).all (p4 d.2.2.2.2.2.2.1) with
 | false=>
  rw [h8] at e4
  exact key (fun h=>by cases h) (br_ff (dec_f h1) (br_ff (dec_f h2) (br_ff (dec_f h3) (br_ff (dec_f h4) (br_ff (dec_f h5) (br_ff (dec_f h6) (br_ff (dec_f h7) (Zba e4 rfl))))))))
 | true=>
  rw [h8] at e4
  exact key (fun _=>⟨by omega,by omega,by omega,by omega,by omega,by omega,by omega,h8⟩) (br_ff (dec_f h1) (br_ff (dec_f h2) (br_ff (dec_f h3) (br_ff (dec_f h4) (br_ff (dec_f h5) (br_ff (dec_f h6) (br_ff (dec_f h7) (Zba e4 rfl))))))))
theorem Za6c (d:Za5.T):∃b,Zcw (d,())=some (b,())∧(b=true→Zu7 d):=by
 obtain ⟨b,e,h⟩:=Za6d d
 cases b with
 | false=>exact ⟨false,Zba e rfl,fun q=>by cases q⟩
 | true=>
  by_cases h1:((List.length d.2.2.2.2.2.2.2.1:Nat):Int)≤100
  ·by_cases h2:((List.length d.2.1:Nat):Int)≤100
   ·by_cases h3:((List.length d.2.2.1:Nat):Int)≤100
    ·exact ⟨_,Zba e (br_tt rfl (br_tt (dec_t h1) (br_tt (dec_t h2) (br_tt (dec_t h3) rfl)))),fun _=>h rfl⟩
    ·exact ⟨false,Zba e (br_tt rfl (br_tt (dec_t h1) (br_tt (dec_t h2) (br_ff (dec_f h3) rfl)))),fun q=>by cases q⟩
   ·exact ⟨false,Zba e (br_tt rfl (br_tt (dec_t h1) (br_ff (dec_f h2) rfl))),fun q=>by cases q⟩
  ·exact ⟨false,Zba e (br_tt rfl (br_ff (dec_f h1) rfl)),fun q=>by cases q⟩
def cLen (C:List (List Za3.T)) (i:Int):Nat:=List.length (gt (.sl Za3) C i)
def bAt (L:List Bool) (i:Int):Bool:=gt .bool L i
def pLg (T:List Za0.T) (lat:List Bool) (i:Nat):Bool:=decide (lInit T (i:Int)=2)||(decide (lInit T (i:Int)=1) == bAt lat (i:Int))
def mAny (T:List Za1.T) (i:Int):Bool:=(gt Za1 T i).2.2.1
def pM (T:List Za1.T) (C:List (List Za3.T)) (i:Nat):Bool:=mAny T (i:Int)||decide (cLen C (i:Int)=0)
theorem Za76 (d:Za5.T) (T:List Za0.T) (lat:List Bool) (C:List (List Za3.T)) (hT:T.length≤100000) (hl:lat.length=T.length) :
  Zlq (T,((T.length:Int),((0:Int),nx d (lat,(C,())))))=some (match (List.range T.length).all (pLg T lat) with | true=>.inr (nx d (lat,(C,()))) | false=>.inl ((14:Int),())):=by
 unfold Zlq;delta u13
 refine Zlj (fun i:Nat=>(T,((T.length:Int),((i:Int),nx d (lat,(C,())))))) (pLg T lat) T.length ?_ ?_ ?_ rfl (Ze8 (by omega))
 ·intro i hi hp
  unfold pLg at hp
  unfold nx
  try dsimp only
  unfold Zlr
  have e:∀p q:Int,p=q→(some (.inl (T,((T.length:Int),(p,nx d (lat,(C,())))))):Option (TL Zg5.σs⊕Out Zf9))=some (.inl (T,((T.length:Int),(q,nx d (lat,(C,())))))):=by rintro _ _ rfl;rfl
  refine br_tt (dec_t (show (i:Int)<(T.length:Int) by omega)) (Zaj (Zar ⟨by omega,by omega⟩) ?_)
  by_cases h2:lInit T (i:Int)=2
  ·exact br_ff (show Bool.not (decide (lInit T (i:Int)=2))=false by rw [decide_eq_true h2];rfl) (e _ _ (i64w (x:=(i:Int)+1) (by omega)))
  ·rw [decide_eq_false h2,Bool.false_or] at hp
   refine br_tt (show Bool.not (decide (lInit T (i:Int)=2))=true by rw [decide_eq_false h2];rfl) (Zaj (Zar ⟨by omega,by omega⟩) (br_ff ?_ (e _ _ (i64w (x:=(i:Int)+1) (by omega)))))
   show Bool.not (@decide _ (Bool.decEq (decide (lInit T (i:Int)=1)) (bAt lat (i:Int))))=false
   cases q1:decide (lInit T (i:Int)=1)<;>cases q2:bAt lat (i:Int)<;>rw [q1,q2] at hp<;>first | rfl | cases hp
 ·intro i hi hp
  unfold pLg at hp
  rw [Bool.or_eq_false_iff] at hp
  obtain ⟨h2,h3⟩:=hp
  unfold nx
  try dsimp only
  unfold Zlr
  refine br_tt (dec_t (show (i:Int)<(T.length:Int) by omega)) (Zaj (Zar ⟨by omega,by omega⟩) (br_tt (show Bool.not (decide (lInit T (i:Int)=2))=true by rw [h2];rfl) (Zaj (Zar ⟨by omega,by omega⟩) (br_tt ?_ rfl))))
  show Bool.not (@decide _ (Bool.decEq (decide (lInit T (i:Int)=1)) (bAt lat (i:Int))))=true
  cases q1:decide (lInit T (i:Int)=1)<;>cases q2:bAt lat (i:Int)<;>rw [q1,q2] at h3<;>first | rfl | cases h3
 ·unfold nx
  try dsimp only
  unfold Zlr
  exact br_ff (dec_f (show ¬(T.length:Int)<(T.length:Int) by omega)) rfl
theorem Za61 (T:List Za1.T) (lat:List Bool) (C:List (List Za3.T)) (hT:T.length≤100000) (hl:C.length=T.length) :
  Zku (T,((T.length:Int),((0:Int),(lat,(C,())))))=some (match (List.range T.length).all (pM T C) with | true=>.inr () | false=>.inl ((14:Int),())):=by
 unfold Zku;delta u5
 refine Zlj (fun i:Nat=>(T,((T.length:Int),((i:Int),(lat,(C,())))))) (pM T C) T.length ?_ ?_ ?_ rfl (Ze8 (by omega))
 ·intro i hi hp
  unfold pM at hp
  try dsimp only
  unfold Zkv
  have e:∀p q:Int,p=q→(some (.inl (T,((T.length:Int),(p,(lat,(C,())))))):Option (TL Zfa.σs⊕Out Zep))=some (.inl (T,((T.length:Int),(q,(lat,(C,())))))):=by rintro _ _ rfl;rfl
  refine br_tt (dec_t (show (i:Int)<(T.length:Int) by omega)) (Zaj (Zar ⟨by omega,by omega⟩) ?_)
  cases h2:mAny T (i:Int) with
  | true=>exact br_ff (show Bool.not (mAny T (i:Int))=false by rw [h2];rfl) (e _ _ (i64w (x:=(i:Int)+1) (by omega)))
  | false=>
   rw [h2,Bool.false_or] at hp
   have hp:=of_decide_eq_true hp
   exact br_tt (show Bool.not (mAny T (i:Int))=true by rw [h2];rfl) (Zaj (Zar ⟨by omega,by omega⟩) (br_ff (dec_f (show ¬(0:Int)<((cLen C (i:Int):Nat):Int) by omega)) (e _ _ (i64w (x:=(i:Int)+1) (by omega)))))
 ·intro i hi hp
  unfold pM at hp
  rw [Bool.or_eq_false_iff] at hp
  obtain ⟨h2,h3⟩:=hp
  have h3:=of_decide_eq_false h3
  try dsimp only
  unfold Zkv
  exact br_tt (dec_t (show (i:Int)<(T.length:Int) by omega)) (Zaj (Zar ⟨by omega,by omega⟩) (br_tt (show Bool.not (mAny T (i:Int))=true by rw [h2];rfl) (Zaj (Zar ⟨by omega,by omega⟩) (br_tt (dec_t (show (0:Int)<((cLen C (i:Int):Nat):Int) by omega)) rfl))))
 ·try dsimp only
  unfold Zkv
  exact br_ff (dec_f (show ¬(T.length:Int)<(T.length:Int) by omega)) rfl
theorem Za7h (d:Za5.T) (lat:List Bool) (C:List (List Za3.T)) (hT:d.2.2.1.length≤100000) (hl:lat.length=d.2.2.1.length) (hin:∀i:Nat,i<d.2.2.1.length→0≤lInit d.2.2.1 (i:Int)∧lInit d.2.2.1 (i:Int)≤2) :
  Zec ((0:Int),nx d (lat,(C,())))=some (match (List.range d.2.2.1.length).all (pLg d.2.2.1 lat) with | true=>.inr (nx d (lat,(C,()))) | false=>.inl ((14:Int),())):=by
 unfold Zec;delta u11
 refine Zlj (fun i:Nat=>((i:Int),nx d (lat,(C,())))) (pLg d.2.2.1 lat) d.2.2.1.length ?_ ?_ ?_ rfl (Ze8 (by omega))
 ·intro i hi hp
  obtain ⟨i0,i2⟩:=hin i hi
  unfold pLg at hp
  have hb:inb (i:Int) (List.length d.2.2.1)=true:=Zar ⟨by omega,by omega⟩
  have hb2:inb (i:Int) (List.length lat)=true:=Zar ⟨by omega,by rw [hl];omega⟩
  unfold nx
  try dsimp only
  unfold Zed
  have e:∀p q:Int,p=q→(some (.inl (p,nx d (lat,(C,())))):Option (TL Zc6.σs⊕Out Zbp))=some (.inl (q,nx d (lat,(C,())))):=by rintro _ _ rfl;rfl
  have go:=e _ _ (i64w (x:=(i:Int)+1) (by omega))
  refine br_tt (dec_t (show (i:Int)<(d.2.2.1.length:Int) by omega)) (Zaj hb ?_)
  by_cases h0:lInit d.2.2.1 (i:Int)=0
  ·have h1:¬lInit d.2.2.1 (i:Int)=1:=by omega
   rw [decide_eq_false (show ¬lInit d.2.2.1 (i:Int)=2 by omega),decide_eq_false h1] at hp
   have hb3:bAt lat (i:Int)=false:=by cases q:bAt lat (i:Int)<;>rw [q] at hp<;>first | rfl | cases hp
   exact br_tt (dec_t h0) (Zaj hb2 (br_ff (show selB true (bAt lat (i:Int)) false=false by rw [hb3];rfl) (Zaj hb (br_ff (dec_f h1) go))))
  ·refine br_ff (dec_f h0) (Zaj hb ?_)
   by_cases h1:lInit d.2.2.1 (i:Int)=1
   ·rw [decide_eq_false (show ¬lInit d.2.2.1 (i:Int)=2 by omega),decide_eq_true h1] at hp
    have hb3:bAt lat (i:Int)=true:=by cases q:bAt lat (i:Int)<;>rw [q] at hp<;>first | rfl | cases hp
    exact br_tt (dec_t h1) (Zaj hb2 (br_ff (show selB false true (selB true (Bool.not (bAt lat (i:Int))) false)=false by rw [hb3];rfl) go))
   ·exact br_ff (dec_f h1) go
 ·intro i hi hp
  obtain ⟨i0,i2⟩:=hin i hi
  unfold pLg at hp
  rw [Bool.or_eq_false_iff] at hp
  obtain ⟨h2,h3⟩:=hp
  have h2:=of_decide_eq_false h2
  have hb:inb (i:Int) (List.length d.2.2.1)=true:=Zar ⟨by omega,by omega⟩
  have hb2:inb (i:Int) (List.length lat)=true:=Zar ⟨by omega,by rw [hl];omega⟩
  unfold nx
  try dsimp only
  unfold Zed
  refine br_tt (dec_t (show (i:Int)<(d.2.2.1.length:Int) by omega)) (Zaj hb ?_)
  by_cases h0:lInit d.2.2.1 (i:Int)=0
  ·have h1:¬lInit d.2.2.1 (i:Int)=1:=by omega
   rw [decide_eq_false h1] at h3
   have hb3:bAt lat (i:Int)=true:=by cases q:bAt lat (i:Int)<;>rw [q] at h3<;>first | rfl | cases h3
   exact br_tt (dec_t h0) (Zaj hb2 (br_tt (show selB true (bAt lat (i:Int)) false=true by rw [hb3];rfl) rfl))
  ·have h1:lInit d.2.2.1 (i:Int)=1:=by omega
   rw [decide_eq_true h1] at h3
   have hb3:bAt lat (i:Int)=false:=by cases q:bAt lat (i:Int)<;>rw [q] at h3<;>first | rfl | cases h3
   exact br_ff (dec_f h0) (Zaj hb (br_tt (dec_t h1) (Zaj hb2 (br_tt (show selB false true (selB true (Bool.not (bAt lat (i:Int))) false)=true by rw [hb3];rfl) rfl))))
 ·unfold nx
  try dsimp only
  unfold Zed
  exact br_ff (dec_f (show ¬(d.2.2.1.length:Int)<(d.2.2.1.length:Int) by omega)) rfl
theorem Za65 (d:Za5.T) (lat:List Bool) (C:List (List Za3.T)) (hT:d.2.2.2.2.2.2.1.length≤100000) (hl:C.length=d.2.2.2.2.2.2.1.length) :
  Ze4 ((0:Int),nx d (lat,(C,())))=some (match (List.range d.2.2.2.2.2.2.1.length).all (pM d.2.2.2.2.2.2.1 C) with | true=>.inr () | false=>.inl ((14:Int),())):=by
 unfold Ze4;delta u11
 refine Zlj (fun i:Nat=>((i:Int),nx d (lat,(C,())))) (pM d.2.2.2.2.2.2.1 C) d.2.2.2.2.2.2.1.length ?_ ?_ ?_ rfl (Ze8 (by omega))
 ·intro i hi hp
  unfold pM at hp
  have hb2:inb (i:Int) (List.length C)=true:=Zar ⟨by omega,by rw [hl];omega⟩
  unfold nx
  try dsimp only
  unfold Ze5
  have e:∀p q:Int,p=q→(some (.inl (p,nx d (lat,(C,())))):Option (TL Zbq.σs⊕Out Zbi))=some (.inl (q,nx d (lat,(C,())))):=by rintro _ _ rfl;rfl
  have go:=e _ _ (i64w (x:=(i:Int)+1) (by omega))
  refine br_tt (dec_t (show (i:Int)<(d.2.2.2.2.2.2.1.length:Int) by omega)) (Zaj (Zar ⟨by omega,by omega⟩) ?_)
  cases h2:mAny d.2.2.2.2.2.2.1 (i:Int) with
  | true=>exact br_ff (show Bool.not (mAny d.2.2.2.2.2.2.1 (i:Int))=false by rw [h2];rfl) go
  | false=>
   rw [h2,Bool.false_or] at hp
   have hp:=of_decide_eq_true hp
   exact br_tt (show Bool.not (mAny d.2.2.2.2.2.2.1 (i:Int))=true by rw [h2];rfl) (Zaj hb2 (br_ff (dec_f (show ¬(0:Int)<((cLen C (i:Int):Nat):Int) by omega)) go))
 ·intro i hi hp
  unfold pM at hp
  rw [Bool.or_eq_false_iff] at hp
  obtain ⟨h2,h3⟩:=hp
  have h3:=of_decide_eq_false h3
  have hb2:inb (i:Int) (List.length C)=true:=Zar ⟨by omega,by rw [hl];omega⟩
  unfold nx
  try dsimp only
  unfold Ze5
  exact br_tt (dec_t (show (i:Int)<(d.2.2.2.2.2.2.1.length:Int) by omega)) (Zaj (Zar ⟨by omega,by omega⟩) (br_tt (show Bool.not (mAny d.2.2.2.2.2.2.1 (i:Int))=true by rw [h2];rfl) (Zaj hb2 (br_tt (dec_t (show (0:Int)<((cLen C (i:Int):Nat):Int) by omega)) rfl))))
 ·unfold nx
  try dsimp only
  unfold Ze5
  exact br_ff (dec_f (show ¬(d.2.2.2.2.2.2.1.length:Int)<(d.2.2.2.2.2.2.1.length:Int) by omega)) rfl
theorem Zys {d:Za5.T} {s:Zab.T} (h:fitsF d s=0):Pl.Zkz (netD d)=0∧s.1.length=d.2.2.1.length∧s.2.1.length=d.2.2.2.2.2.2.1.length:=by
 unfold fitsF at h
 by_cases hc:Pl.Zkz (netD d)=0
 ·rw [if_neg (by simpa using hc)] at h
  cases q:fitsS d s with
  | false=>rw [q] at h;cases h
  | true=>
   unfold fitsS at q
   simp only [Bool.and_eq_true,decide_eq_true_eq] at q
   exact ⟨hc,q.1.1,q.1.2⟩
 ·rw [if_pos hc] at h;exact absurd h hc
def Zym (d:Za5.T) (lat:List Bool) (C:List (List Za3.T)):Int:=match decide (fitsF d (lat,(C,()))=0) with
 | false=>fitsF d (lat,(C,()))
 | true=>match (List.range d.2.2.1.length).all (pLg d.2.2.1 lat) with
  | false=>14
  | true=>match (List.range d.2.2.2.2.2.2.1.length).all (pM d.2.2.2.2.2.2.1 C) with
   | false=>14
   | true=>0
theorem Za32 (d:Za5.T) (lat:List Bool) (C:List (List Za3.T)) (ft:Fit (netD d)) (hL:d.2.2.1.length≤100000) (hT:d.2.2.2.2.2.2.1.length≤100000) :
  Zod (d,((lat,(C,())),()))=some (Zym d lat C,()):=by
 have e1:=Zy6 d (lat,(C,())) ft hT
 unfold Zym
 by_cases h:fitsF d (lat,(C,()))=0
 ·obtain ⟨_,h2,h3⟩:=Zys h
  have e5:=Za76 d d.2.2.1 lat C hL h2
  have e11:=Za61 d.2.2.2.2.2.2.1 lat C hT h3
  rw [decide_eq_true h]
  refine Zba e1 (br_ff (by rw [h];rfl) ((bnd_s e5).trans ?_))
  cases (List.range d.2.2.1.length).all (pLg d.2.2.1 lat) with
  | false=>rfl
  | true=>
   refine (bnd_s e11).trans ?_
   cases (List.range d.2.2.2.2.2.2.1.length).all (pM d.2.2.2.2.2.2.1 C)<;>rfl
 ·rw [decide_eq_false h]
  exact Zba e1 (br_tt (by simp [h]) rfl)
theorem init_at {T:List Za0.T} {p:Pl.Zgv→Prop} (h:∀l∈T.map latD,p l) (i:Nat) (hi:i<T.length):∃l,p l∧l.init=lInit T (i:Int):=by
 have hg:=List.getElem?_eq_getElem hi
 refine ⟨latD T[i],h _ (List.mem_map_of_mem (List.getElem_mem hi)),?_⟩
 unfold lInit
 rw [gt_at (σ:=Za0) hg]
 rfl
theorem init_ok {d:Za5.T} (h:Pl.Zkz (netD d)=0):∀i:Nat,i<d.2.2.1.length→0≤lInit d.2.2.1 (i:Int)∧lInit d.2.2.1 (i:Int)≤2:=by
 have hs0:Pl.Zj3 (netD d)=0:=by
  unfold Pl.Zkz at h
  by_cases q:Pl.Zj3 (netD d)=0
  ·exact q
  ·rw [if_pos q] at h;exact absurd h q
 obtain ⟨V,hs⟩:=Pl.Za74 hs0
 intro i hi
 obtain ⟨l,h1,h2⟩:=init_at (T:=d.2.2.1) (p:=fun l=>0≤l.init∧l.init≤2) (fun l hl=>hs.init l hl) i hi
 rw [←h2]
 exact h1
theorem Za3d (d:Za5.T) (lat:List Bool) (C:List (List Za3.T)) (ft:Fit (netD d)) (hL:d.2.2.1.length≤100000) (hT:d.2.2.2.2.2.2.1.length≤100000) (hok:okS C) :
  Zfp (d,((lat,(C,())),()))=some (Zym d lat C,()):=by
 have e1:=Zya d (lat,(C,())) ft hT hok
 unfold Zym
 by_cases h:fitsF d (lat,(C,()))=0
 ·obtain ⟨h1,h2,h3⟩:=Zys h
  have e5:=Za7h d lat C hL h2 (init_ok h1)
  have e10:=Za65 d lat C hT h3
  rw [decide_eq_true h]
  refine Zba e1 (br_ff (by rw [h];rfl) ((bnd_s e5).trans ?_))
  cases (List.range d.2.2.1.length).all (pLg d.2.2.1 lat) with
  | false=>rfl
  | true=>
   refine (bnd_s e10).trans ?_
   cases (List.range d.2.2.2.2.2.2.1.length).all (pM d.2.2.2.2.2.2.1 C)<;>rfl
 ·rw [decide_eq_false h]
  exact Zba e1 (br_tt (by simp [h]) rfl)
theorem wf_i64 {n:Int} (h:(Lit.int .i64 n).wf=true):I64 n:=by
 simp only [Lit.wf,Bool.and_eq_true,decide_eq_true_eq] at h
 have h1:IntKind.i64.min = -9223372036854775808:=by decide
 have h2:IntKind.i64.max=9223372036854775807:=by decide
 rw [h1,h2] at h
 exact h
theorem Zwq {L:List Int} (h:okD (.sl (.int .i64)) L):∀x∈L,I64 x:=fun x hx=>wf_i64 (h.2 x hx)
theorem Za1g {α β:Type} (f:α→β) (L:List α) {n k:Nat} (h:L.length≤n) (hk:n≤k):(L.map f).length≤k:=by rw [List.length_map];omega
theorem fit_mem {m:Za1.T} (h:okD Za1 m) (hr:List.length m.2.2.2.1≤6) (hw:List.length m.2.2.2.2.1≤6) (hword:@LE.le Int _ m.2.1 100)
  (h10:okAll (α:=Zb3.T) (fun r=>List.length r.2.1≤100∧@LE.le Int _ r.1 1099511627776∧@LE.le Int _ (-1099511627776) r.1) m.2.2.2.1) (h15:okAll (α:=Zb8.T) (fun r=>List.length r.2.1≤100∧List.length r.2.2.1≤100) m.2.2.2.2.1):Za5v (memD m):=by
 obtain ⟨a1,a2,a3,a4,a5,_⟩:=h
 refine ⟨⟨wf_i64 a2,Int.le_trans hword (by decide)⟩,wf_i64 a1,?_,?_,?_,?_⟩
 ·exact Za1g readD _ hr (by decide)
 ·exact Za1g Zvz _ hw (by decide)
 ·intro r hr
  obtain ⟨r',hr',rfl⟩:=List.mem_map.1 hr
  obtain ⟨b1,b2,b3⟩:=h10 r' hr'
  have hk:=a4.2 r' hr'
  exact ⟨Nat.le_trans b1 (by decide),b3,b2,Zwq hk.2.1⟩
 ·intro r hr
  obtain ⟨r',hr',rfl⟩:=List.mem_map.1 hr
  obtain ⟨b1,b2⟩:=h15 r' hr'
  have hk:=a5.2 r' hr'
  exact ⟨Nat.le_trans b1 (by decide),Nat.le_trans b2 (by decide),wf_i64 hk.1,Zwq hk.2.1,Zwq hk.2.2.1⟩
theorem Za9t {α:Type} {σ:Sh} {L:List σ.T} {p:Nat→Bool} {Q:σ.T→Prop} (h:(List.range L.length).all p=true) (hq:∀i x,L[i]?=some x→p i=true→Q x):okAll Q L:=by
 have h':∀i,i<L.length→p i=true:=by simpa [List.all_eq_true] using h
 intro x hx
 obtain ⟨i,hi⟩:=List.getElem?_of_mem hx
 exact hq i x hi (h' i (Za4j hi))
theorem fit_of {d:Za5.T} (h:okD Za5 d) (hl:Zu7 d):Fit (netD d):=by
 obtain ⟨a1,a2,a3,a4,a5,a6,a7,a8,_⟩:=h
 obtain ⟨b1,b2,b3,b4,b5,b6,b7,b8⟩:=hl
 have lat3:okAll (α:=Za0.T) (fun x=>I64 x.1∧I64 x.2.1∧I64 x.2.2.1) d.2.2.1:=fun x hx=>by
  have:=a3.2 x hx
  exact ⟨wf_i64 this.1,wf_i64 this.2.1,wf_i64 this.2.2.1⟩
 have and3:okAll (α:=Za0.T) (fun x=>I64 x.1∧I64 x.2.1∧I64 x.2.2.1) d.2.2.2.2.2.2.2.1:=fun x hx=>by
  have:=a8.2 x hx
  exact ⟨wf_i64 this.1,wf_i64 this.2.1,wf_i64 this.2.2.1⟩
 refine ⟨wf_i64 a1,⟨Nat.le_trans b1 (by decide),Zwq a2⟩,⟨?_,?_⟩,⟨Nat.le_trans b4 (by decide),Zwq a4⟩,⟨Nat.le_trans b5 (by decide),Zwq a5⟩,⟨Nat.le_trans b6 (by decide),Zwq a6⟩,⟨?_,?_⟩,⟨?_,?_⟩⟩
 ·exact Za1g latD _ b2 (by decide)
 ·intro l hl
  obtain ⟨x,hx,rfl⟩:=List.mem_map.1 hl
  exact lat3 x hx
 ·exact Za1g memD _ b7 (by decide)
 ·intro m hm
  obtain ⟨x,hx,rfl⟩:=List.mem_map.1 hm
  have hQ:=Za9t (α:=Unit) (σ:=Za1) (Q:=fun x=>List.length x.2.2.2.1≤6∧List.length x.2.2.2.2.1≤6∧@LE.le Int _ x.2.1 100∧(List.range (List.length x.2.2.2.1)).all (p10 x.2.2.2.1)=true∧(List.range (List.length x.2.2.2.2.1)).all (p15 x.2.2.2.2.1)=true) b8 (fun i x hi hp=>by
   unfold p4 mRd mWr mWord at hp
   rw [gt_at (σ:=Za1) hi] at hp
   simp only [Bool.and_eq_true,decide_eq_true_eq] at hp
   exact ⟨hp.1.1.1.1,hp.1.1.1.2,hp.1.1.2,hp.1.2,hp.2⟩) x hx
  obtain ⟨c1,c2,c3,c4,c5⟩:=hQ
  refine fit_mem (a7.2 x hx) c1 c2 c3 ?_ ?_
  ·exact Za9t (α:=Unit) (σ:=Zb3) c4 (fun i r hi hp=>by
    unfold p10 rdLen rdVar at hp
    rw [gt_at (σ:=Zb3) hi] at hp
    simp only [Bool.and_eq_true,decide_eq_true_eq] at hp
    exact ⟨hp.1.1,hp.1.2,hp.2⟩)
  ·exact Za9t (α:=Unit) (σ:=Zb8) c5 (fun i r hi hp=>by
    unfold p15 wrLen wrDat at hp
    rw [gt_at (σ:=Zb8) hi] at hp
    simp only [Bool.and_eq_true,decide_eq_true_eq] at hp
    exact hp)
 ·exact Za1g andD _ b3 (by decide)
 ·intro l hl
  obtain ⟨x,hx,rfl⟩:=List.mem_map.1 hl
  exact and3 x hx
end Go.Proofs.YtkcpdpplobhpaaaGreat.V
end
