import Derived.Test.YtnocaehijdmkkaaKMf
import Derived.Test.YtnocaehijdmkkaaKSa
import Derived.Test.YtnocaehijdmkkaaKNe
set_option linter.unusedVariables false
set_option linter.unusedSimpArgs false
set_option linter.unnecessarySimpa false
section
namespace Go.Proofs.Ytnocaehijdmkkaa.V
open Go Go.RowKit
theorem Zlj {D O:Type} {B:D→Option (D⊕O)} (f:Nat→D) (p:Nat→Bool) {bad good:O} (n:Nat) (hs:∀i,i<n→p i=true→B (f i)=some (.inl (f (i+1)))) (hf:∀i,i<n→p i=false→B (f i)=some (.inr bad))
  (he:B (f n)=some (.inr good)) {d:D} (hd:d=f 0) {N:Nat} (hN:n<N):lpD B N d=some (match (List.range n).all p with | true=>good | false=>bad):=by
 subst hd
 have hall:((List.range n).all p=true↔∀i,i<n→p i=true):=by simp [List.all_eq_true]
 have main:∀k i,i+k=n→(∀j,j<i→p j=true)→∀N,k<N→lpD B N (f i)=some (match (List.range n).all p with | true=>good | false=>bad):=by
  intro k
  induction k with
  | zero=>
   intro i hi hp N hN
   have:i=n:=by omega
   subst this
   obtain ⟨N,rfl⟩:∃M,N=M+1:=⟨N - 1,by omega⟩
   rw [hall.2 hp]
   simp only [lpD,he]
  | succ k ih=>
   intro i hi hp N hN
   obtain ⟨N,rfl⟩:∃M,N=M+1:=⟨N - 1,by omega⟩
   cases hq:p i with
   | true=>
    simp only [lpD,hs i (by omega) hq]
    exact ih (i+1) (by omega) (fun j hj=>by
     by_cases e:j=i
     ·subst e;exact hq
     ·exact hp j (by omega)) N (by omega)
   | false=>
    have hz:(List.range n).all p=false:=by
     cases hz:(List.range n).all p with
     | false=>rfl
     | true=>have:=hall.1 hz i (by omega);rw [hq] at this;cases this
    simp only [lpD,hf i (by omega) hq,hz]
 exact main n 0 (by omega) (fun j hj=>by omega) N hN
theorem u64w {x:Int} (h:0≤x∧x≤18446744073709551615):IntKind.wrap (.u64:IntKind) x=x:=by
 unfold IntKind.wrap
 simp [IntKind.bits,IntKind.signed]
 omega
theorem Za4j {α:Type} {l:List α} {i:Nat} {x:α} (h:l[i]?=some x):i<l.length:=by
 rcases Nat.lt_or_ge i l.length with q | q
 ·exact q
 ·rw [List.getElem?_eq_none q] at h;cases h
end Go.Proofs.Ytnocaehijdmkkaa.V
end
section
namespace Go.Proofs.Ytnocaehijdmkkaa.V
open Go Go.RowKit
open Go.Proofs.Ytnocaehijdmkkaa.Pl
def nx {α:Type} (d:Za5.T) (r:α):Int×List Int×List Za0.T×List Int×List Int×List Int×List Za1.T×List Za0.T×α:=
 (d.1,(d.2.1,(d.2.2.1,(d.2.2.2.1,(d.2.2.2.2.1,(d.2.2.2.2.2.1,(d.2.2.2.2.2.2.1,(d.2.2.2.2.2.2.2.1,r))))))))
theorem i64n {x:Int} {n:Nat} (e:x=(n:Int)) (h:n≤1000000000):IntKind.wrap .i64 x=(n:Int):=by rw [e];exact i64w (by omega)
end Go.Proofs.Ytnocaehijdmkkaa.V
end
section
namespace Go.Proofs.Ytnocaehijdmkkaa.V
open Go Go.RowKit
def rdLen (R:List Zb3.T) (i:Int):Nat:=List.length (gt Zb3 R i).2.1
def rdVar (R:List Zb3.T) (i:Int):Int:=(gt Zb3 R i).1
def p10 (R:List Zb3.T) (i:Nat):Bool:=decide (rdLen R (i:Int)≤100)&&decide (rdVar R (i:Int)≤1099511627776)&&decide (-1099511627776≤rdVar R (i:Int))
def wrLen (R:List Zb8.T) (i:Int):Nat:=List.length (gt Zb8 R i).2.1
def wrDat (R:List Zb8.T) (i:Int):Nat:=List.length (gt Zb8 R i).2.2.1
def p15 (R:List Zb8.T) (i:Nat):Bool:=decide (wrLen R (i:Int)≤100)&&decide (wrDat R (i:Int)≤100)
theorem Za85 (d:Za5.T) (t a w:Int) (y:Bool) (R:List Zb3.T) (W:List Zb8.T) (hR:R.length≤100000) :
  Zd6 (t,((0:Int),nx d (a,(w,(y,(R,(W,())))))))=some (match (List.range R.length).all (p10 R) with | true=>.inr (t,nx d (a,(w,(y,(R,(W,())))))) | false=>.inl (false,())):=by
 unfold Zd6;delta u15
 refine Zlj (fun i:Nat=>(t,((i:Int),nx d (a,(w,(y,(R,(W,())))))))) (p10 R) R.length ?_ ?_ ?_ rfl (Ze8 (by omega))
 ·intro i hi hp
  unfold p10 at hp
  simp only [Bool.and_eq_true,decide_eq_true_eq] at hp
  obtain ⟨⟨h1,h2⟩,h3⟩:=hp
  have hin:inb (i:Int) (List.length R)=true:=Zar ⟨by omega,by omega⟩
  unfold nx
  try dsimp only
  unfold Ze7
  have e:∀p q:Int,p=q→(some (.inl (t,(p,nx d (a,(w,(y,(R,(W,())))))))):Option (TL Zaz.σs⊕Out Zaw))=some (.inl (t,(q,nx d (a,(w,(y,(R,(W,())))))))):=by rintro _ _ rfl;rfl
  exact br_tt (dec_t (show (i:Int)<(R.length:Int) by omega)) (Zaj hin (br_ff (dec_f (show ¬(100:Int)<((rdLen R (i:Int):Nat):Int) by omega)) (Zaj hin (br_ff (dec_f (show ¬(1099511627776:Int)<rdVar R (i:Int) by omega)) (Zaj hin (br_ff (dec_f (show ¬rdVar R (i:Int)<Int.negSucc 1099511627775 by omega)) (e _ _ (i64w (x:=(i:Int)+1) (by omega)))))))))
 ·intro i hi hp
  have hin:inb (i:Int) (List.length R)=true:=Zar ⟨by omega,by omega⟩
  unfold nx
  try dsimp only
  unfold Ze7
  refine br_tt (dec_t (show (i:Int)<(R.length:Int) by omega)) (Zaj hin ?_)
  by_cases h1:(100:Int)<((rdLen R (i:Int):Nat):Int)
  ·exact br_tt (dec_t h1) rfl
  refine br_ff (dec_f h1) (Zaj hin ?_)
  by_cases h2:(1099511627776:Int)<rdVar R (i:Int)
  ·exact br_tt (dec_t h2) rfl
  refine br_ff (dec_f h2) (Zaj hin ?_)
  by_cases h3:rdVar R (i:Int)<Int.negSucc 1099511627775
  ·exact br_tt (dec_t h3) rfl
  unfold p10 at hp
  rw [decide_eq_true (show rdLen R (i:Int)≤100 by omega),decide_eq_true (show rdVar R (i:Int)≤1099511627776 by omega),decide_eq_true (show -1099511627776≤rdVar R (i:Int) by omega)] at hp
  cases hp
 ·unfold nx
  try dsimp only
  unfold Ze7
  exact br_ff (dec_f (show ¬(R.length:Int)<(R.length:Int) by omega)) rfl
theorem Za82 (d:Za5.T) (t a w:Int) (y:Bool) (R:List Zb3.T) (W:List Zb8.T) (hW:W.length≤100000) :
  Zd5 (t,((0:Int),nx d (a,(w,(y,(R,(W,())))))))=some (match (List.range W.length).all (p15 W) with | true=>.inr (t,nx d ()) | false=>.inl (false,())):=by
 unfold Zd5;delta u15
 refine Zlj (fun i:Nat=>(t,((i:Int),nx d (a,(w,(y,(R,(W,())))))))) (p15 W) W.length ?_ ?_ ?_ rfl (Ze8 (by omega))
 ·intro i hi hp
  unfold p15 at hp
  simp only [Bool.and_eq_true,decide_eq_true_eq] at hp
  obtain ⟨h1,h2⟩:=hp
  have hin:inb (i:Int) (List.length W)=true:=Zar ⟨by omega,by omega⟩
  unfold nx
  try dsimp only
  unfold Ze6
  have e:∀p q:Int,p=q→(some (.inl (t,(p,nx d (a,(w,(y,(R,(W,())))))))):Option (TL Zay.σs⊕Out Zav))=some (.inl (t,(q,nx d (a,(w,(y,(R,(W,())))))))):=by rintro _ _ rfl;rfl
  exact br_tt (dec_t (show (i:Int)<(W.length:Int) by omega)) (Zaj hin (br_ff (dec_f (show ¬(100:Int)<((wrLen W (i:Int):Nat):Int) by omega)) (Zaj hin (br_ff (dec_f (show ¬(100:Int)<((wrDat W (i:Int):Nat):Int) by omega)) (e _ _ (i64w (x:=(i:Int)+1) (by omega)))))))
 ·intro i hi hp
  have hin:inb (i:Int) (List.length W)=true:=Zar ⟨by omega,by omega⟩
  unfold nx
  try dsimp only
  unfold Ze6
  refine br_tt (dec_t (show (i:Int)<(W.length:Int) by omega)) (Zaj hin ?_)
  by_cases h1:(100:Int)<((wrLen W (i:Int):Nat):Int)
  ·exact br_tt (dec_t h1) rfl
  refine br_ff (dec_f h1) (Zaj hin ?_)
  by_cases h2:(100:Int)<((wrDat W (i:Int):Nat):Int)
  ·exact br_tt (dec_t h2) rfl
  unfold p15 at hp
  rw [decide_eq_true (show wrLen W (i:Int)≤100 by omega),decide_eq_true (show wrDat W (i:Int)≤100 by omega)] at hp
  cases hp
 ·unfold nx
  try dsimp only
  unfold Ze6
  exact br_ff (dec_f (show ¬(W.length:Int)<(W.length:Int) by omega)) rfl
def mRd (T:List Za1.T) (i:Int):List Zb3.T:=(gt Za1 T i).2.2.2.1
def mWr (T:List Za1.T) (i:Int):List Zb8.T:=(gt Za1 T i).2.2.2.2.1
def mWord (T:List Za1.T) (i:Int):Int:=(gt Za1 T i).2.1
def p4 (T:List Za1.T) (i:Nat):Bool:=decide ((mRd T (i:Int)).length≤6)&&decide ((mWr T (i:Int)).length≤6)&&decide (mWord T (i:Int)≤100) &&
 (List.range (mRd T (i:Int)).length).all (p10 (mRd T (i:Int)))&&(List.range (mWr T (i:Int)).length).all (p15 (mWr T (i:Int)))
theorem light4 (d:Za5.T) (hT:d.2.2.2.2.2.2.1.length≤100000) :
  Zen ((0:Int),nx d ())=some (match (List.range d.2.2.2.2.2.2.1.length).all (p4 d.2.2.2.2.2.2.1) with | true=>.inr () | false=>.inl (false,())):=by
 unfold Zen;delta u9
 refine Zlj (fun i:Nat=>((i:Int),nx d ())) (p4 d.2.2.2.2.2.2.1) d.2.2.2.2.2.2.1.length ?_ ?_ ?_ rfl (Ze8 (by omega))
 ·intro i hi hp
  unfold p4 at hp
  simp only [Bool.and_eq_true,decide_eq_true_eq] at hp
  obtain ⟨⟨⟨⟨h1,h2⟩,h3⟩,h4⟩,h5⟩:=hp
  have hin:inb (i:Int) (List.length d.2.2.2.2.2.2.1)=true:=Zar ⟨by omega,by omega⟩
  have e10:=Za85 d (i:Int) (gt Za1 d.2.2.2.2.2.2.1 (i:Int)).1 (mWord d.2.2.2.2.2.2.1 (i:Int)) (gt Za1 d.2.2.2.2.2.2.1 (i:Int)).2.2.1 (mRd d.2.2.2.2.2.2.1 (i:Int)) (mWr d.2.2.2.2.2.2.1 (i:Int)) (by omega)
  have e15:=Za82 d (i:Int) (gt Za1 d.2.2.2.2.2.2.1 (i:Int)).1 (mWord d.2.2.2.2.2.2.1 (i:Int)) (gt Za1 d.2.2.2.2.2.2.1 (i:Int)).2.2.1 (mRd d.2.2.2.2.2.2.1 (i:Int)) (mWr d.2.2.2.2.2.2.1 (i:Int)) (by omega)
  rw [h4] at e10
  rw [h5] at e15
  unfold nx at e10 e15 ⊢
  try dsimp only
  unfold Zeo
  have e:∀p q:Int,p=q→(some (.inl (p,nx d ())):Option (TL Zcf.σs⊕Out Zbw))=some (.inl (q,nx d ())):=by rintro _ _ rfl;rfl
  exact br_tt (dec_t (show (i:Int)<(d.2.2.2.2.2.2.1.length:Int) by omega)) (Zaj hin (br_ff (dec_f (show ¬(6:Int)<(((mRd d.2.2.2.2.2.2.1 (i:Int)).length:Nat):Int) by omega)) (br_ff (dec_f (show ¬(6:Int)<(((mWr d.2.2.2.2.2.2.1 (i:Int)).length:Nat):Int) by omega)) (br_ff (dec_f (show ¬(100:Int)<mWord d.2.2.2.2.2.2.1 (i:Int) by omega)) ((bnd_s e10).trans ((bnd_s e15).trans (e _ _ (i64w (x:=(i:Int)+1) (by omega)))))))))
 ·intro i hi hp
  have hin:inb (i:Int) (List.length d.2.2.2.2.2.2.1)=true:=Zar ⟨by omega,by omega⟩
  unfold nx
  try dsimp only
  unfold Zeo
  refine br_tt (dec_t (show (i:Int)<(d.2.2.2.2.2.2.1.length:Int) by omega)) (Zaj hin ?_)
  by_cases h1:(6:Int)<(((mRd d.2.2.2.2.2.2.1 (i:Int)).length:Nat):Int)
  ·exact br_tt (dec_t h1) rfl
  refine br_ff (dec_f h1) ?_
  by_cases h2:(6:Int)<(((mWr d.2.2.2.2.2.2.1 (i:Int)).length:Nat):Int)
  ·exact br_tt (dec_t h2) rfl
  refine br_ff (dec_f h2) ?_
  by_cases h3:(100:Int)<mWord d.2.2.2.2.2.2.1 (i:Int)
  ·exact br_tt (dec_t h3) rfl
  refine br_ff (dec_f h3) ?_
  have e10:=Za85 d (i:Int) (gt Za1 d.2.2.2.2.2.2.1 (i:Int)).1 (mWord d.2.2.2.2.2.2.1 (i:Int)) (gt Za1 d.2.2.2.2.2.2.1 (i:Int)).2.2.1 (mRd d.2.2.2.2.2.2.1 (i:Int)) (mWr d.2.2.2.2.2.2.1 (i:Int)) (by omega)
  have e15:=Za82 d (i:Int) (gt Za1 d.2.2.2.2.2.2.1 (i:Int)).1 (mWord d.2.2.2.2.2.2.1 (i:Int)) (gt Za1 d.2.2.2.2.2.2.1 (i:Int)).2.2.1 (mRd d.2.2.2.2.2.2.1 (i:Int)) (mWr d.2.2.2.2.2.2.1 (i:Int)) (by omega)
  refine (bnd_s e10).trans ?_
  cases h4:(List.range (mRd d.2.2.2.2.2.2.1 (i:Int)).length).all (p10 (mRd d.2.2.2.2.2.2.1 (i:Int))) with
  | false=>rfl
  | true=>
   refine (bnd_s e15).trans ?_
   cases h5:(List.range (mWr d.2.2.2.2.2.2.1 (i:Int)).length).all (p15 (mWr d.2.2.2.2.2.2.1 (i:Int))) with
   | false=>rfl
   | true=>
    unfold p4 at hp
    rw [h4,h5,decide_eq_true (show (mRd d.2.2.2.2.2.2.1 (i:Int)).length≤6 by omega),decide_eq_true (show (mWr d.2.2.2.2.2.2.1 (i:Int)).length≤6 by omega),decide_eq_true (show mWord d.2.2.2.2.2.2.1 (i:Int)≤100 by omega)] at hp
    cases hp
 ·unfold nx
  try dsimp only
  unfold Zeo
  exact br_ff (dec_f (show ¬(d.2.2.2.2.2.2.1.length:Int)<(d.2.2.2.2.2.2.1.length:Int) by omega)) rfl
def Zu7 (d:Za5.T):Prop:=List.length d.2.1≤2100∧List.length d.2.2.1≤2100∧List.length d.2.2.2.2.2.2.2.1≤2100∧List.length d.2.2.2.1≤1100∧List.length d.2.2.2.2.1≤1100∧List.length d.2.2.2.2.2.1≤1100∧List.length d.2.2.2.2.2.2.1≤6 ∧
 (List.range d.2.2.2.2.2.2.1.length).all (p4 d.2.2.2.2.2.2.1)=true
theorem Za6d (d:Za5.T):∃b,Zdr (d,())=some (b,())∧(b=true→Zu7 d):=by
 have key:∀{b:Bool},(b=true→Zu7 d)→Zdr (d,())=some (b,())→∃b,Zdr (d,())=some (b,())∧(b=true→Zu7 d):=fun h e=>⟨_,e,h⟩
 by_cases h1:(2100:Int)<((List.length d.2.1:Nat):Int)
 ·exact key (fun h=>by cases h) (br_tt (dec_t h1) rfl)
 by_cases h2:(2100:Int)<((List.length d.2.2.1:Nat):Int)
 ·exact key (fun h=>by cases h) (br_ff (dec_f h1) (br_tt (dec_t h2) rfl))
 by_cases h3:(2100:Int)<((List.length d.2.2.2.2.2.2.2.1:Nat):Int)
 ·exact key (fun h=>by cases h) (br_ff (dec_f h1) (br_ff (dec_f h2) (br_tt (dec_t h3) rfl)))
 by_cases h4:(1100:Int)<((List.length d.2.2.2.1:Nat):Int)
 ·exact key (fun h=>by cases h) (br_ff (dec_f h1) (br_ff (dec_f h2) (br_ff (dec_f h3) (br_tt (dec_t h4) rfl))))
 by_cases h5:(1100:Int)<((List.length d.2.2.2.2.1:Nat):Int)
 ·exact key (fun h=>by cases h) (br_ff (dec_f h1) (br_ff (dec_f h2) (br_ff (dec_f h3) (br_ff (dec_f h4) (br_tt (dec_t h5) rfl)))))
 by_cases h6:(1100:Int)<((List.length d.2.2.2.2.2.1:Nat):Int)
 ·exact key (fun h=>by cases h) (br_ff (dec_f h1) (br_ff (dec_f h2) (br_ff (dec_f h3) (br_ff (dec_f h4) (br_ff (dec_f h5) (br_tt (dec_t h6) rfl))))))
 by_cases h7:(6:Int)<((List.length d.2.2.2.2.2.2.1:Nat):Int)
 ·exact key (fun h=>by cases h) (br_ff (dec_f h1) (br_ff (dec_f h2) (br_ff (dec_f h3) (br_ff (dec_f h4) (br_ff (dec_f h5) (br_ff (dec_f h6) (br_tt (dec_t h7) rfl)))))))
 have e4:=light4 d (by omega)
 cases h8:(List.range d.2.2.2.2.2.2.1.length).all (p4 d.2.2.2.2.2.2.1) with
 | false=>
  rw [h8] at e4
  exact key (fun h=>by cases h) (br_ff (dec_f h1) (br_ff (dec_f h2) (br_ff (dec_f h3) (br_ff (dec_f h4) (br_ff (dec_f h5) (br_ff (dec_f h6) (br_ff (dec_f h7) (Zba e4 rfl))))))))
 | true=>
  rw [h8] at e4
  exact key (fun _=>⟨by omega,by omega,by omega,by omega,by omega,by omega,by omega,h8⟩) (br_ff (dec_f h1) (br_ff (dec_f h2) (br_ff (dec_f h3) (br_ff (dec_f h4) (br_ff (dec_f h5) (br_ff (dec_f h6) (br_ff (dec_f h7) (Zba e4 rfl))))))))
theorem Za6c (d:Za5.T):∃b,Zcw (d,())=some (b,())∧(b=true→Zu7 d):=by
 obtain ⟨b,e,h⟩:=Za6d d
 cases b with
 | false=>exact ⟨false,Zba e rfl,fun q=>by cases q⟩
 | true=>
  by_cases h1:((List.length d.2.2.2.2.2.2.2.1:Nat):Int)≤100
  ·by_cases h2:((List.length d.2.1:Nat):Int)≤100
   ·by_cases h3:((List.length d.2.2.1:Nat):Int)≤100
    ·exact ⟨_,Zba e (br_tt rfl (br_tt (dec_t h1) (br_tt (dec_t h2) (br_tt (dec_t h3) rfl)))),fun _=>h rfl⟩
    ·exact ⟨false,Zba e (br_tt rfl (br_tt (dec_t h1) (br_tt (dec_t h2) (br_ff (dec_f h3) rfl)))),fun q=>by cases q⟩
   ·exact ⟨false,Zba e (br_tt rfl (br_tt (dec_t h1) (br_ff (dec_f h2) rfl))),fun q=>by cases q⟩
  ·exact ⟨false,Zba e (br_tt rfl (br_ff (dec_f h1) rfl)),fun q=>by cases q⟩
theorem wf_i64 {n:Int} (h:(Lit.int .i64 n).wf=true):I64 n:=by
 simp only [Lit.wf,Bool.and_eq_true,decide_eq_true_eq] at h
 have h1:IntKind.i64.min = -9223372036854775808:=by decide
 have h2:IntKind.i64.max=9223372036854775807:=by decide
 rw [h1,h2] at h
 exact h
theorem Zwq {L:List Int} (h:okD (.sl (.int .i64)) L):∀x∈L,I64 x:=fun x hx=>wf_i64 (h.2 x hx)
theorem Za1g {α β:Type} (f:α→β) (L:List α) {n k:Nat} (h:L.length≤n) (hk:n≤k):(L.map f).length≤k:=by rw [List.length_map];omega
theorem fit_mem {m:Za1.T} (h:okD Za1 m) (hr:List.length m.2.2.2.1≤6) (hw:List.length m.2.2.2.2.1≤6) (hword:@LE.le Int _ m.2.1 100)
  (h10:okAll (α:=Zb3.T) (fun r=>List.length r.2.1≤100∧@LE.le Int _ r.1 1099511627776∧@LE.le Int _ (-1099511627776) r.1) m.2.2.2.1) (h15:okAll (α:=Zb8.T) (fun r=>List.length r.2.1≤100∧List.length r.2.2.1≤100) m.2.2.2.2.1):Za5v (memD m):=by
 obtain ⟨a1,a2,a3,a4,a5,_⟩:=h
 refine ⟨⟨wf_i64 a2,Int.le_trans hword (by decide)⟩,wf_i64 a1,?_,?_,?_,?_⟩
 ·exact Za1g readD _ hr (by decide)
 ·exact Za1g Zvz _ hw (by decide)
 ·intro r hr
  obtain ⟨r',hr',rfl⟩:=List.mem_map.1 hr
  obtain ⟨b1,b2,b3⟩:=h10 r' hr'
  have hk:=a4.2 r' hr'
  exact ⟨Nat.le_trans b1 (by decide),b3,b2,Zwq hk.2.1⟩
 ·intro r hr
  obtain ⟨r',hr',rfl⟩:=List.mem_map.1 hr
  obtain ⟨b1,b2⟩:=h15 r' hr'
  have hk:=a5.2 r' hr'
  exact ⟨Nat.le_trans b1 (by decide),Nat.le_trans b2 (by decide),wf_i64 hk.1,Zwq hk.2.1,Zwq hk.2.2.1⟩
theorem Za9t {α:Type} {σ:Sh} {L:List σ.T} {p:Nat→Bool} {Q:σ.T→Prop} (h:(List.range L.length).all p=true) (hq:∀i x,L[i]?=some x→p i=true→Q x):okAll Q L:=by
 have h':∀i,i<L.length→p i=true:=by simpa [List.all_eq_true] using h
 intro x hx
 obtain ⟨i,hi⟩:=List.getElem?_of_mem hx
 exact hq i x hi (h' i (Za4j hi))
theorem fit_of {d:Za5.T} (h:okD Za5 d) (hl:Zu7 d):Fit (netD d):=by
 obtain ⟨a1,a2,a3,a4,a5,a6,a7,a8,_⟩:=h
 obtain ⟨b1,b2,b3,b4,b5,b6,b7,b8⟩:=hl
 have lat3:okAll (α:=Za0.T) (fun x=>I64 x.1∧I64 x.2.1∧I64 x.2.2.1) d.2.2.1:=fun x hx=>by
  have:=a3.2 x hx
  exact ⟨wf_i64 this.1,wf_i64 this.2.1,wf_i64 this.2.2.1⟩
 have and3:okAll (α:=Za0.T) (fun x=>I64 x.1∧I64 x.2.1∧I64 x.2.2.1) d.2.2.2.2.2.2.2.1:=fun x hx=>by
  have:=a8.2 x hx
  exact ⟨wf_i64 this.1,wf_i64 this.2.1,wf_i64 this.2.2.1⟩
 refine ⟨wf_i64 a1,⟨Nat.le_trans b1 (by decide),Zwq a2⟩,⟨?_,?_⟩,⟨Nat.le_trans b4 (by decide),Zwq a4⟩,⟨Nat.le_trans b5 (by decide),Zwq a5⟩,⟨Nat.le_trans b6 (by decide),Zwq a6⟩,⟨?_,?_⟩,⟨?_,?_⟩⟩
 ·exact Za1g latD _ b2 (by decide)
 ·intro l hl
  obtain ⟨x,hx,rfl⟩:=List.mem_map.1 hl
  exact lat3 x hx
 ·exact Za1g memD _ b7 (by decide)
 ·intro m hm
  obtain ⟨x,hx,rfl⟩:=List.mem_map.1 hm
  have hQ:=Za9t (α:=Unit) (σ:=Za1) (Q:=fun x=>List.length x.2.2.2.1≤6∧List.length x.2.2.2.2.1≤6∧@LE.le Int _ x.2.1 100∧(List.range (List.length x.2.2.2.1)).all (p10 x.2.2.2.1)=true∧(List.range (List.length x.2.2.2.2.1)).all (p15 x.2.2.2.2.1)=true) b8 (fun i x hi hp=>by
   unfold p4 mRd mWr mWord at hp
   rw [gt_at (σ:=Za1) hi] at hp
   simp only [Bool.and_eq_true,decide_eq_true_eq] at hp
   exact ⟨hp.1.1.1.1,hp.1.1.1.2,hp.1.1.2,hp.1.2,hp.2⟩) x hx
  obtain ⟨c1,c2,c3,c4,c5⟩:=hQ
  refine fit_mem (a7.2 x hx) c1 c2 c3 ?_ ?_
  ·exact Za9t (α:=Unit) (σ:=Zb3) c4 (fun i r hi hp=>by
    unfold p10 rdLen rdVar at hp
    rw [gt_at (σ:=Zb3) hi] at hp
    simp only [Bool.and_eq_true,decide_eq_true_eq] at hp
    exact ⟨hp.1.1,hp.1.2,hp.2⟩)
  ·exact Za9t (α:=Unit) (σ:=Zb8) c5 (fun i r hi hp=>by
    unfold p15 wrLen wrDat at hp
    rw [gt_at (σ:=Zb8) hi] at hp
    simp only [Bool.and_eq_true,decide_eq_true_eq] at hp
    exact hp)
 ·exact Za1g andD _ b3 (by decide)
 ·intro l hl
  obtain ⟨x,hx,rfl⟩:=List.mem_map.1 hl
  exact and3 x hx
end Go.Proofs.Ytnocaehijdmkkaa.V
end
