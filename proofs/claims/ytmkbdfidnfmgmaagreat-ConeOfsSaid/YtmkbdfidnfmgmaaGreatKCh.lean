import Derived.Test.YtmkbdfidnfmgmaaGreatKCe
import Derived.Test.YtmkbdfidnfmgmaaGreatKCg
set_option linter.all false
section
namespace Go.Proofs.YtmkbdfidnfmgmaaGreat.V
open Go Go.RowKit Go.Proofs.YtmkbdfidnfmgmaaGreat.Pl
set_option maxRecDepth 10000
section
variable{n:aB}{V:Nat}(hs:cA n V)
include hs
theorem al6{l l':dI}(h:l∈n.ah)(h':l'∈n.ah)(e:l.var=l'.var):l=l':=by
 have hn:=hs.nodup;unfold bp at hn;simp only[bM]at hn;rw[rx]at hn;have h2:=hn.2.1;rw[rx]at h2;obtain⟨i,hi,rfl⟩:=ash h;obtain⟨j,hj,rfl⟩:=ash h';have key:=asN.1 (atc.1 h2.1)
 grind
theorem al5{l:dI}(h:l∈n.ah){M:cC}(hM:M∈n.af):l.var∉dy M:=by intro hv;have hn:=hs.nodup;unfold bp at hn;simp only[bM]at hn;rw[rx]at hn;have h2:=hn.2.1;rw[rx]at h2;exact h2.2.2 l.var (AT h) l.var (AI _ (rc.2 ⟨M,hM,hv⟩)) rfl
theorem aa0{i j:Nat}{M M':cC}{v:Int}(hi:n.af[i]?=some M)(hj:n.af[j]?=some M')(h:v∈dy M)(h':v∈dy M'):i=j:=by have hn:=hs.nodup;unfold bp at hn;simp only[bM]at hn;rw[rx]at hn;have h2:=hn.2.1;rw[rx]at h2;have h3:=h2.2.1;rw[rx]at h3;exact Pd h3.1 hi hj h h'
theorem N2{M:cC}(hM:M∈n.af){l:Int}(hl:l∈dU M):0<=l/\l / 2<=(V:Int):=by
 refine hs.lits l ?_;unfold cL
 grind
end
variable{i:Nat}{l:dI}{j:Nat}{l':dI}
section
variable{n:aB}{V:Nat}(hs:cA n V)(ft:Fit n)(h0:da n=0)(ha:dO (bh n) V=true)
include hs ft h0 ha
theorem akc{M:cC}(hM:n.af[j]?=some M){m ms:kw}{left:jp}(off:ms.getD j false=false)(J:PJ n V j m (ms.set j true) left)(hp:∀l∈dU M,0<l / 2->im n (l / 2).toNat)(ht:todo m left<=10000)(lm mm:gR) :
  ∃m' left',we ((j:Int),tX n m ms left lm mm)=some (eK n m' (ms.set j true) left' lm mm)/\PI n V m' (ms.set j true) left'/\todo m' left'=todo m left/\∀p,On m p->On m' p:=by
 have hMm:=d5 hM;have hjl:=(rg.1 hM).1;have hlen2:ms.length=n.af.length:=by have:=J.lO;rw[aig]at this;exact this
 have hfm:=ft.af.2 M hMm;have hsm:=hs.af M hMm;have hM':(n.af.map aM)[j]?=some (aM M):=by rw[cW,hM];rfl
 have hlit:=fun l hl=>N2 hs hMm (l:=l) hl;obtain⟨ms',hms⟩:∃ms',ms'=ms.set j true:=⟨_,rfl⟩;rw[<-hms]at J;have e3:∃o,wg ((j:Int),M.reads.map bS,(M.reads.length:Int),(0:Int),eK n m ms' left lm mm)=some o/\∃m' left',o=((j:Int),eK n m' ms' left' lm mm)/\PJ n V j m' ms' left'/\todo m' left'=todo m left/\(∀p,On m p->On m' p)/\∀r∈M.reads,∀l∈r.addr,0<l / 2->On m' (l / 2).toNat:=by
  unfold wg;delta gK u5 bV cy;refine jD (fun d=>∃(k:Nat) (m':kw) (left':jp),k<=M.reads.length/\d=((j:Int),M.reads.map bS,(M.reads.length:Int),(k:Int),eK n m' ms' left' lm mm)/\PJ n V j m' ms' left'/\todo m' left'=todo m left/\(∀p,On m p->On m' p)/\∀r∈M.reads.take k,∀l∈r.addr,0<l / 2->On m' (l / 2).toNat) _ (fun d=>M.reads.length-d.2.2.2.1.toNat) ?_ NN _ ⟨0,m,left,Do _,rfl,J,rfl,fun _ h=>h,fun r h=>by simp at h⟩ (bG (by have:=hfm.kO;omega));rintro d ⟨k,m1,l1,hk,rfl,J1,ht1,up1,on1⟩;unfold eK nt
  try dsimp only
  unfold Lv;have hrn:=hfm.kO;by_cases hlt:k<M.reads.length
  .have hg:=bA hlt;have hrm:=ut hlt;obtain⟨r,hr⟩:∃r,r=M.reads[k]:=⟨_,rfl⟩;rw[<-hr]at hg hrm;have hg':(M.reads.map bS)[k]?=some (bS r):=by rw[cW,hg];rfl
   have hrl:∀l∈r.addr,l∈dU M:=fun l hl=>by unfold dU;simp only[qr,rc];exact .inl ⟨r,hrm,hl⟩
   obtain⟨m2,l2,e2,R⟩:=xb hs ft h0 ha (ls:=r.addr) (fun l hl=>hlit l (hrl l hl)) (by have:=(hfm.fq r hrm).1;omega) J1.len J1.iF ms' (left:=l1) auc lm mm;rw[bR auj,aW (aP ⟨auc,by rw[aG];omega⟩),bz (σ:=bO) hg'];right;refine⟨((j:Int),M.reads.map bS,(M.reads.length:Int),((k+1:Nat):Int),eK n m2 ms' l2 lm mm),?_,⟨k+1,m2,l2,hlt,rfl,J1.mark R fun l hl=>hp l (hrl l hl),R.todo.trans ht1,fun p h=>(R.on p).2 (.inl (up1 p h)),fun r' h' l hl h0'=>?_⟩,?_⟩
   .refine(bg e2).trans ?_;have e:∀b b':Int,b=b'->(aul ((j:Int),M.reads.map bS,(M.reads.length:Int),b,eK n m2 ms' l2 lm mm):am BQ Bk)=aul ((j:Int),M.reads.map bS,(M.reads.length:Int),b',eK n m2 ms' l2 lm mm):=by rintro _ _ rfl;rfl
    exact e _ _ (bP (x:=(k:Int)+1) auc)
   .rw[cK hg]at h';rcases qr.1 h' with h'|h'
    .exact(R.on _).2 (.inl (on1 r' h' l hl h0'))
    .rw[GE.1 h']at hl;exact(R.on _).2 (.inr (.base hl h0'))
   .show M.reads.length-((k+1:Nat):Int).toNat<M.reads.length-(k:Int).toNat;omega
  .left;have hk2:k=M.reads.length:=auc
   rw[hk2,cV]at on1;rw[bC aui];exact⟨_,rfl,m1,l1,rfl,J1,ht1,up1,on1⟩
 obtain⟨o,e3,m1,l1,rfl,J1,ht1,up1,on1⟩:=e3;have e8:∃o,tZ (M.writes.map bX,(M.writes.length:Int),(0:Int),eK n m1 ms' l1 lm mm)=some o/\∃m' left',o=eK n m' ms' left' lm mm/\PJ n V j m' ms' left'/\todo m' left'=todo m left/\(∀p,On m1 p->On m' p)/\∀r∈M.writes,∀l∈eF r,0<l / 2->On m' (l / 2).toNat:=by
  unfold tZ;delta u16 u4 bV cy;refine jD (fun d=>∃(k:Nat) (m':kw) (left':jp),k<=M.writes.length/\d=(M.writes.map bX,(M.writes.length:Int),(k:Int),eK n m' ms' left' lm mm)/\PJ n V j m' ms' left'/\todo m' left'=todo m left/\(∀p,On m1 p->On m' p)/\∀r∈M.writes.take k,∀l∈eF r,0<l / 2->On m' (l / 2).toNat) _ (fun d=>M.writes.length-d.2.2.1.toNat) ?_ NN _ ⟨0,m1,l1,Do _,rfl,J1,ht1,fun _ h=>h,fun r h=>by simp at h⟩ (bG (by have:=hfm.ph;omega));rintro d ⟨k,m3,l3,hk,rfl,J3,ht3,up3,on3⟩;unfold eK nt
  try dsimp only
  unfold Lw;have hrn:=hfm.ph;by_cases hlt:k<M.writes.length
  .have hg:=bA hlt;have hrm:=ut hlt;obtain⟨r,hr⟩:∃r,r=M.writes[k]:=⟨_,rfl⟩;rw[<-hr]at hg hrm;have hg':(M.writes.map bX)[k]?=some (bX r):=by rw[cW,hg];rfl
   have hrl:∀l∈eF r,l∈dU M:=fun l hl=>by unfold dU;simp only[qr,rc];exact .inr ⟨r,hrm,hl⟩
   have hwl:=hfm.gY r hrm;have hln:(eF r).length<=1000000:=by unfold eF;rw[dG,bF];omega
   obtain⟨m2,l2,e2,R⟩:=xb hs ft h0 ha (ls:=eF r) (fun l hl=>hlit l (hrl l hl)) hln J3.len J3.iF ms' (left:=l3) auc lm mm;rw[bR auj,aW (aP ⟨auc,by rw[aG];omega⟩),bz (σ:=bu) hg'];have r1:room 8 (List.length ((r.on::[])++r.addr))=true:=q9 (by rw[bF,dG,If];omega) (by rw[bF,dG,If];omega);have r2:room 8 (List.length (((r.on::[])++r.addr)++r.data))=true:=q9 (by rw[bF,bF,dG,If];omega) (by rw[bF,bF,dG,If];omega);right;refine⟨(M.writes.map bX,(M.writes.length:Int),((k+1:Nat):Int),eK n m2 ms' l2 lm mm),?_,⟨k+1,m2,l2,hlt,rfl,J3.mark R fun l hl=>hp l (hrl l hl),R.todo.trans ht3,fun p h=>(R.on p).2 (.inl (up3 p h)),fun r' h' l hl h0'=>?_⟩,?_⟩
   .refine(aW r1).trans ((aW (xQ (fun x=>Sh.uZ x) _)).trans ((aW r2).trans ?_));refine(bg e2).trans ?_;have e:∀b b':Int,b=b'->(aul (M.writes.map bX,(M.writes.length:Int),b,eK n m2 ms' l2 lm mm):am BR Bl)=aul (M.writes.map bX,(M.writes.length:Int),b',eK n m2 ms' l2 lm mm):=by rintro _ _ rfl;rfl
    exact e _ _ (bP (x:=(k:Int)+1) auc)
   .rw[cK hg]at h';rcases qr.1 h' with h'|h'
    .exact(R.on _).2 (.inl (on3 r' h' l hl h0'))
    .rw[GE.1 h']at hl;exact(R.on _).2 (.inr (.base hl h0'))
   .show M.writes.length-((k+1:Nat):Int).toNat<M.writes.length-(k:Int).toNat;omega
  .left;have hk2:k=M.writes.length:=auc
   rw[hk2,cV]at on3;rw[bC aui];exact⟨_,rfl,m3,l3,rfl,J3,ht3,up3,on3⟩
 obtain⟨o,e8,m2,l2,rfl,J2,ht2,up2,on2⟩:=e8;refine⟨m2,l2,?_,?_,ht2,fun p h=>up2 p (up1 p h)⟩
 .subst hms;show wi qE wg tZ (j:Int) n.vars n.ax (n.ah.map aX) n.bk n.aU n.constraints (n.af.map aM) (n.ag.map aL) m ms left lm mm=_;unfold wi;refine(aW aug).trans ((bC (show gt .bool ms (j:Int)=false from off)).trans ((aW aug).trans ((aW (aP ⟨auc,by rw[aG];omega⟩)).trans ?_)));rw[bz hM'];have e3':∀z:Int,z=(M.reads.length:Int)->wg ((j:Int),M.reads.map bS,z,(0:Int),eK n m (ms.set j true) left lm mm)=some ((j:Int),eK n m1 (ms.set j true) l1 lm mm):=by rintro _ rfl;exact e3
  have e8':∀z:Int,z=(M.writes.length:Int)->tZ (M.writes.map bX,z,(0:Int),eK n m1 (ms.set j true) l1 lm mm)=some (eK n m2 (ms.set j true) l2 lm mm):=by rintro _ rfl;exact e8
  refine(bg (e3' _ (by show((List.length (M.reads.map bS):Nat):Int)=_;rw[aG]))).trans ((aW (aP ⟨by show(0:Int)<=(j:Int);omega,by show(j:Int)<((List.length (n.af.map aM):Nat):Int);rw[aG];omega⟩)).trans ?_);have g2:gt ai (n.af.map aM) (j:Int)=aM M:=bz hM';have e8'':∀T:ai.T,T=aM M->tZ (T.2.2.2.2.1,(Int.ofNat (List.length T.2.2.2.2.1)),(0:Int),eK n m1 (ms.set j true) l1 lm mm)=some (eK n m2 (ms.set j true) l2 lm mm):=by rintro _ rfl;exact e8' _ (by show((List.length (M.writes.map bX):Nat):Int)=_;rw[aG])
  exact(bg (e8'' _ g2)).trans rfl
 .rw[<-hms];refine J2.leave hM fun l hl h0'=>?_;unfold dU at hl;simp only[qr,rc]at hl;rcases hl with⟨r,hr,hl⟩|⟨r,hr,hl⟩
  .exact up2 _ (on1 r hr l hl h0')
  .exact on2 r hr l hl h0'
end
variable{ms:kw}{left:jp}{m:kw}
theorem mhP{σ:Sh}{k x:Int}{v:σ.T}:∀(M:fb σ),jH (fR k v M) x=(decide (k=x)||jH M x)
 |[]=>by show(match decide (k=x)with|true=>true|false=>false)=(decide (k=x)||false);cases decide (k=x)<;>rfl
 |p::M=>by
  unfold fR;cases h1:decide (k<p.1)with
  |true=>show(match decide (k=x)with|true=>true|false=>jH (p::M) x)=_;cases decide (k=x)<;>rfl
  |false=>
   cases h2:decide (p.1=k)with
   |true=>
    have e:=asl h2;show(match decide (k=x)with|true=>true|false=>jH M x)=(decide (k=x)||(match decide (p.1=x)with|true=>true|false=>jH M x))
    grind
   |false=>
    show(match decide (p.1=x)with|true=>true|false=>jH (fR k v M) x)=(decide (k=x)||(match decide (p.1=x)with|true=>true|false=>jH M x));rw[mhP M]
    grind
theorem mgP{σ:Sh}{k x:Int}{v:σ.T}:∀(M:fb σ),j3 σ (fR k v M) x=(match decide (k=x)with|true=>v|false=>j3 σ M x)
 |[]=>rfl|p::M=>by
  unfold fR;cases h1:decide (k<p.1)with
  |true=>rfl|false=>
   cases h2:decide (p.1=k)with
   |true=>
    have e:=asl h2;show(match decide (k=x)with|true=>v|false=>j3 σ M x)=(match decide (k=x)with|true=>v|false=>(match decide (p.1=x)with|true=>p.2.1|false=>j3 σ M x))
    grind
   |false=>
    show(match decide (p.1=x)with|true=>p.2.1|false=>j3 σ (fR k v M) x)=(match decide (k=x)with|true=>v|false=>(match decide (p.1=x)with|true=>p.2.1|false=>j3 σ M x));rw[mgP M]
    grind
def Has(M:gR)(P:Int->Nat->Prop):Prop:=∀v:Int,(@jH .I M v=true↔∃q,P v q)/\∀q:Nat,P v q->@j3 .I M v=(q:Int)
theorem Has.nil:Has [] (fun _ _=>False):=fun v=>⟨⟨fun h=>(by cases h),fun⟨_,h⟩=>h.elim⟩,fun q h=>h.elim⟩
variable{P:Int->Nat->Prop}
theorem Has.put{M:gR}(h:Has M P){k:Int}(one:∀q,P k q->q=j):Has (@fR .I k (j:Int) M) (fun v q=>P v q\/(v=k/\q=j)):=fun v=>by
 have e1:=mhP (σ:=.I) (k:=k) (x:=v) (v:=(j:Int)) M;have e2:=mgP (σ:=.I) (k:=k) (x:=v) (v:=(j:Int)) M;by_cases q:k=v
 .subst q
  grind
 .rw[jC q]at e1 e2;rw[e1,e2];refine⟨⟨fun h2=>?_,fun⟨x,hx⟩=>?_⟩,fun x hx=>?_⟩
  .obtain⟨x,hx⟩:=(h v).1.1 h2;exact⟨x,.inl hx⟩
  .rcases hx with hx|⟨rfl,_⟩
   .exact(h v).1.2 ⟨x,hx⟩
   .exact absurd rfl q
  .rcases hx with hx|⟨rfl,_⟩
   .exact(h v).2 x hx
   .exact absurd rfl q
theorem Has.iff{M:gR}{Q:Int->Nat->Prop}(h:Has M P)(e:∀v q,P v q↔Q v q):Has M Q:=fun v=>⟨⟨fun k=>by obtain⟨x,hx⟩:=(h v).1.1 k;exact⟨x,(e v x).1 hx⟩,fun⟨x,hx⟩=>(h v).1.2 ⟨x,(e v x).2 hx⟩⟩,fun q hq=>(h v).2 q ((e v q).2 hq)⟩
def FH(n:aB)(v:Int)(q:Nat):Prop:=∃l,n.ah[q]?=some l/\l.var=v
def qY(n:aB)(v:Int)(q:Nat):Prop:=∃M,n.af[q]?=some M/\v∈dy M
section
variable{n:aB}{V:Nat}(hs:cA n V)
include hs
theorem anm(hi:n.ah[i]?=some l)(hj:n.ah[j]?=some l')(e:l.var=l'.var):i=j:=by
 have hn:=hs.nodup;unfold bp at hn;simp only[bM]at hn;rw[rx]at hn;have h2:=hn.2.1;rw[rx]at h2;have key:=asN.1 (atc.1 h2.1)
 grind
variable(ft:Fit n)(h0:da n=0)(ha:dO (bh n) V=true)
include ft h0 ha
theorem alP{lm mm:gR}(hlm:Has lm (FH n))(hmm:Has mm (qY n))(I:PI n V m ms left)(ht:todo m left<=10000) :
  ∃m' ms',Yj (tX n m ms left lm mm)=some (eK n m' ms' [] lm mm)/\PI n V m' ms' []/\∀p,On m p->On m' p:=by
 have hV2:=hs.v2;have e1:∃o,Yk (eK n m ms left lm mm)=some o/\∃m' ms',o=eK n m' ms' [] lm mm/\PI n V m' ms' []/\∀p,On m p->On m' p:=by
  unfold Yk;delta iT u1 bV cy;refine jD (fun d=>∃(m' ms':kw) (left':jp),d=eK n m' ms' left' lm mm/\PI n V m' ms' left'/\todo m' left'<=10000/\∀p,On m p->On m' p) _ (fun d=>todo d.2.2.2.2.2.2.2.2.1 d.2.2.2.2.2.2.2.2.2.2.2.2.1) ?_ NN _ ⟨m,ms,left,rfl,I,ht,fun _ h=>h⟩ (bG (by show todo m left<=_;omega));rintro d ⟨m1,ms1,left1,rfl,I1,ht1,up1⟩;unfold eK nt
  try dsimp only
  unfold MD;have hll:left1.length<=10000:=by unfold todo at ht1;omega
  rcases List.eq_nil_or_concat left1 with rfl|⟨L0,x,rfl⟩
  .left;rw[bC (aJ (by show ¬(0:Int)<((0:Nat):Int);omega))];exact⟨_,rfl,m1,ms1,rfl,I1,up1⟩
  .rw[List.concat_eq_append]at I1 ht1 hll |-;obtain⟨x1,x2,x3⟩:=I1.ni x aue;obtain⟨v,hv⟩:=By (show 0<=x by omega);have hv:x=(v:Int):=hv;subst hv;have hlen:(L0++[(v:Int)]).length=L0.length+1:=aue
   have K:=I1.pop;have htd:todo m1 L0+1=todo m1 (L0++[(v:Int)]):=by unfold todo;rw[hlen];omega
   have ew:pu ((Int.ofNat (List.length (L0++[(v:Int)])))-(1:Int))=((L0.length:Nat):Int):=by rw[hlen];exact bP (x:=Int.ofNat (L0.length+1)-1) (by rw[hlen]at hll;show -9223372036854775808<=(((L0.length+1:Nat):Int)-1)/\(((L0.length+1:Nat):Int)-1)<=9223372036854775807;omega) |>.trans (by show(((L0.length+1:Nat):Int)-1)=_;omega)
   have eg0:(L0++[(v:Int)])[L0.length]?=some (v:Int):=by rw[In (ro _),Nat.sub_self];rfl
   have eg:gt .I (L0++[(v:Int)]) ((L0.length:Nat):Int)=(v:Int):=bz (σ:=.I) eg0;rw[bR (aF (by rw[hlen];show(0:Int)<((L0.length+1:Nat):Int);omega)),ew,eg];simp only[ST,Nat.sub_zero,atL];rw[aW (aP ⟨auc,by rw[hlen];omega⟩)];refine(fun{R:Prop}(h:R)=>h) ?_;have ck:both (iE (0:Int) ((L0.length:Nat):Int)) (iE ((L0.length:Nat):Int) (Int.ofNat (List.length (L0++[(v:Int)]))))=true:=by have e1:iE (0:Int) ((L0.length:Nat):Int)=true:=auj;have e2:iE ((L0.length:Nat):Int) (Int.ofNat (List.length (L0++[(v:Int)])))=true:=aF (by rw[hlen];show((L0.length:Nat):Int)<=((L0.length+1:Nat):Int);omega);rw[e1,e2];rfl
   rw[aW ck];right;cases q1:@jH .I lm (v:Int)with
   |true=>
    obtain⟨i,l,hi,hlv⟩:=(hlm (v:Int)).1.1 q1;have hg:=(hlm (v:Int)).2 i ⟨l,hi,hlv⟩;have hlm2:=d5 hi;have hil:=(rg.1 hi).1;have hi':(n.ah.map aX)[i]?=some (aX l):=by rw[cW,hi];rfl
    have hlr:=hs.lits l.next (by unfold cL;simp only[qr,rt];exact .inl (.inl (.inl (.inl (.inl ⟨l,hlm2,rfl⟩)))));obtain⟨m2,l2,e2,R⟩:=xb hs ft h0 ha (ls:=[l.next]) (fun y hy=>by rw[GE.1 hy];exact hlr) aue K.len K.iF ms1 (left:=L0) auc lm mm;have I2:=K.aT hs hlm2 hlv (fun l' h' e'=>al6 hs h' hlm2 (e'.trans hlv.symm)) (fun M hM=>by rw[<-hlv];exact al5 hs hlm2 hM) R;refine⟨eK n m2 ms1 l2 lm mm,?_,⟨m2,ms1,l2,rfl,I2,by have:=R.todo;omega,fun p h=>(R.on p).2 (.inl (up1 p h))⟩,?_⟩
    .rw[bR rfl,hg,aW (aP ⟨auc,by rw[aG];omega⟩),bz hi'];have e2':∀T:jp,T=L0->qE ([l.next],tX n m1 ms1 T lm mm)=some (eK n m2 ms1 l2 lm mm):=by rintro _ rfl;exact e2
     exact(bg (e2' _ atL)).trans rfl
    .show todo m2 l2<todo m1 (L0++[(v:Int)]);have:=R.todo;omega
   |false=>
    have no1:∀l∈n.ah,l.var≠(v:Int):=fun l hl e=>by obtain⟨i,hi⟩:=LT hl;have:=(hlm (v:Int)).1.2 ⟨i,l,hi,e⟩;rw[q1]at this;cases this
    cases q2:@jH .I mm (v:Int)with
    |true=>
     obtain⟨j,M,hj,hMv⟩:=(hmm (v:Int)).1.1 q2;have hg:=(hmm (v:Int)).2 j ⟨M,hj,hMv⟩;have one:∀(i:Nat) (M':cC),n.af[i]?=some M'->(v:Int)∈dy M'->i=j:=fun i M' hi h'=>aa0 hs hi hj h' hMv;cases q3:ms1.getD j false with
     |true=>
      have I2:=K.anv no1 one (show On ms1 j from q3);refine⟨eK n m1 ms1 L0 lm mm,?_,⟨m1,ms1,L0,rfl,I2,auc,up1⟩,?_⟩
      .rw[bC rfl,bR rfl,hg];have em:we ((j:Int),tX n m1 ms1 L0 lm mm)=some (eK n m1 ms1 L0 lm mm):=by show wi qE wg tZ (j:Int) n.vars n.ax (n.ah.map aX) n.bk n.aU n.constraints (n.af.map aM) (n.ag.map aL) m1 ms1 L0 lm mm=_;unfold wi;have hjl:=(rg.1 hj).1;exact(aW (aP ⟨auc,by rw[K.lO];omega⟩)).trans ((bR (show gt .bool ms1 (j:Int)=true from q3)).trans rfl)
       have em':∀T:jp,T=L0->we ((j:Int),tX n m1 ms1 T lm mm)=some (eK n m1 ms1 L0 lm mm):=by rintro _ rfl;exact em
       exact(bg (em' _ atL)).trans rfl
      .show todo m1 L0<todo m1 (L0++[(v:Int)]);omega
     |false=>
      have J:=K.amg no1 hj hMv one;have hp:im n v:=K.ku.h1 v K.on;obtain⟨m2,l2,e2,I2,t2,up2⟩:=akc hs ft h0 ha hj q3 J (fun l hl h=>.step hp (.mem (d5 hj) hMv hl) h) auc lm mm;refine⟨eK n m2 (ms1.set j true) l2 lm mm,?_,⟨m2,_,l2,rfl,I2,auc,fun p h=>up2 p (up1 p h)⟩,?_⟩
      .rw[bC rfl,bR rfl,hg];have e2':∀T:jp,T=L0->we ((j:Int),tX n m1 ms1 T lm mm)=some (eK n m2 (ms1.set j true) l2 lm mm):=by rintro _ rfl;exact e2
       exact(bg (e2' _ atL)).trans rfl
      .show todo m2 l2<todo m1 (L0++[(v:Int)]);omega
    |false=>
     have no2:∀M∈n.af,(v:Int)∉dy M:=fun M hM h=>by obtain⟨j,hj⟩:=LT hM;have:=(hmm (v:Int)).1.2 ⟨j,M,hj,h⟩;rw[q2]at this;cases this
     refine⟨eK n m1 ms1 L0 lm mm,?_,⟨m1,ms1,L0,rfl,K.none no1 no2,auc,up1⟩,?_⟩
     .rw[bC rfl,bC rfl];have fin:∀T:jp,T=L0->(aul (eK n m1 ms1 T lm mm):am Db CO)=aul (eK n m1 ms1 L0 lm mm):=by rintro _ rfl;rfl
      exact fin _ atL
     .show todo m1 L0<todo m1 (L0++[(v:Int)]);omega
 obtain⟨o,e1,m2,ms2,rfl,I2,up2⟩:=e1;exact⟨m2,ms2,(bg e1).trans rfl,I2,up2⟩
end
section
variable{n:aB}{V:Nat}(hs:cA n V)(ft:Fit n)(h0:da n=0)(ha:dO (bh n) V=true)
include hs ft h0 ha
theorem ak3(m ms:kw):∃lm:gR,wG (n.ah.map aX,(n.ah.length:Int),(0:Int),nt n (nt n (m,ms,[],[],())))=some (nt n (nt n (m,ms,lm,[],())))/\Has lm (FH n):=by
 have h:∃o,wG (n.ah.map aX,(n.ah.length:Int),(0:Int),nt n (nt n (m,ms,[],[],())))=some o/\∃lm:gR,o=nt n (nt n (m,ms,lm,[],()))/\Has lm (FH n):=by
  have hll:=hs.lens.2.1;unfold wG;delta qC ju bV cy;refine jD (fun d=>∃(k:Nat) (lm:gR),k<=n.ah.length/\d=(n.ah.map aX,(n.ah.length:Int),(k:Int),nt n (nt n (m,ms,lm,[],())))/\Has lm (fun v q=>q<k/\FH n v q)) _ (fun d=>n.ah.length-d.2.2.1.toNat) ?_ NN _ ⟨0,[],Do _,rfl,Has.nil.iff fun v q=>⟨fun h=>h.elim,fun h=>auc⟩⟩ (bG (by show n.ah.length-0<=_;omega));rintro d ⟨k,lm,hk,rfl,hH⟩;unfold nt
  try dsimp only
  unfold Nw;by_cases hlt:k<n.ah.length
  .have hg:=bA hlt;obtain⟨l,hl⟩:∃l,l=n.ah[k]:=⟨_,rfl⟩;rw[<-hl]at hg;have hg':(n.ah.map aX)[k]?=some (aX l):=by rw[cW,hg];rfl
   rw[bR auj,aW (aP ⟨auc,by rw[aG];omega⟩),bz hg'];right;have hP:=hH.put (k:=l.var) (j:=k) fun q hq=>by obtain⟨_,l',h1,h2⟩:=hq;exact anm hs h1 hg h2
   refine⟨(n.ah.map aX,(n.ah.length:Int),((k+1:Nat):Int),nt n (nt n (m,ms,@fR .I l.var (k:Int) lm,[],()))),?_,⟨k+1,_,hlt,rfl,hP.iff fun v q=>?_⟩,?_⟩
   .have e:∀b b':Int,b=b'->(aul (n.ah.map aX,(n.ah.length:Int),b,nt n (nt n (m,ms,@fR .I l.var (k:Int) lm,[],()))):am D4 DN)=aul (n.ah.map aX,(n.ah.length:Int),b',nt n (nt n (m,ms,@fR .I l.var (k:Int) lm,[],()))):=by rintro _ _ rfl;rfl
    exact e _ _ (bP (x:=(k:Int)+1) auc)
   .constructor
    .rintro(⟨h1,h2⟩|⟨rfl,rfl⟩)
     .exact⟨auc,h2⟩
     .exact⟨auc,l,hg,rfl⟩
    .rintro⟨h1,l',h2,h3⟩;by_cases q2:q<k
     .exact .inl ⟨q2,l',h2,h3⟩
     .obtain rfl:q=k:=auc
      rw[hg]at h2;cases h2;exact .inr ⟨h3.symm,rfl⟩
   .show n.ah.length-((k+1:Nat):Int).toNat<n.ah.length-(k:Int).toNat;omega
  .left;rw[bC aui];exact⟨_,rfl,lm,rfl,hH.iff fun v q=>⟨fun h=>h.2,fun h=>⟨by obtain⟨l,h1,_⟩:=h;have:=(rg.1 h1).1;omega,h⟩⟩⟩
 obtain⟨o,h1,lm,rfl,h2⟩:=h;exact⟨lm,h1,h2⟩
abbrev kJ(n:aB)(m ms:kw)(lm mm:gR)(M:cC):=nt n (nt n (m,ms,lm,mm,aM M))
theorem akm(m ms:kw)(lm mm:gR){M:cC}(hH:Has mm P)(D:jp)(hD:D.length<=100000)(hP:∀v∈D,∀q,P v q->q=j)(a c d:Int)(b:List ai.T)(e:Int) :
  ∃mm':gR,wE ((j:Int),b,a,c,d,e,D,(D.length:Int),(0:Int),kJ n m ms lm mm M)=some ((j:Int),b,a,c,d,e,kJ n m ms lm mm' M)/\Has mm' (fun v q=>P v q\/(v∈D/\q=j)):=by
 have h:∃o,wE ((j:Int),b,a,c,d,e,D,(D.length:Int),(0:Int),kJ n m ms lm mm M)=some o/\∃mm':gR,o=((j:Int),b,a,c,d,e,kJ n m ms lm mm' M)/\Has mm' (fun v q=>P v q\/(v∈D/\q=j)):=by
  unfold wE;delta lF ei bV cy;refine jD (fun x=>∃(k:Nat) (mm':gR),k<=D.length/\x=((j:Int),b,a,c,d,e,D,(D.length:Int),(k:Int),kJ n m ms lm mm' M)/\Has mm' (fun v q=>P v q\/(v∈D.take k/\q=j))) _ (fun x=>D.length-x.2.2.2.2.2.2.2.2.1.toNat) ?_ NN _ ⟨0,mm,Do _,rfl,hH.iff fun v q=>aue⟩ (bG (by show D.length-0<=_;omega));rintro x ⟨k,mm1,hk,rfl,hH1⟩;unfold kJ nt aM
  try dsimp only
  unfold Nh;by_cases hlt:k<D.length
  .have hg:=bA hlt;rw[bR auj,aW aug,bz (σ:=.I) hg];right;have hP2:=hH1.put (k:=D[k]) (j:=j) fun q hq=>by
    rcases hq with hq|⟨_,rfl⟩
    .exact hP _ (ut hlt) q hq
    .rfl
   refine⟨((j:Int),b,a,c,d,e,D,(D.length:Int),((k+1:Nat):Int),kJ n m ms lm (@fR .I D[k] (j:Int) mm1) M),?_,⟨k+1,_,hlt,rfl,hP2.iff fun v q=>?_⟩,?_⟩
   .have e':∀y y':Int,y=y'->(aul ((j:Int),b,a,c,d,e,D,(D.length:Int),y,kJ n m ms lm (@fR .I D[k] (j:Int) mm1) M):am DM DB)=aul ((j:Int),b,a,c,d,e,D,(D.length:Int),y',kJ n m ms lm (@fR .I D[k] (j:Int) mm1) M):=by rintro _ _ rfl;rfl
    exact e' _ _ (bP (x:=(k:Int)+1) auc)
   .rw[cK hg]
    grind
   .show D.length-((k+1:Nat):Int).toNat<D.length-(k:Int).toNat;omega
  .left;have hk2:k=D.length:=auc
   rw[hk2,cV]at hH1;rw[bC aui];exact⟨_,rfl,mm1,rfl,hH1⟩
 obtain⟨o,h1,mm',rfl,h2⟩:=h;exact⟨mm',h1,h2⟩
theorem akl(m ms:kw)(lm mm:gR){M:cC}(hM:n.af[j]?=some M)(hH:Has mm (fun v q=>q<j/\qY n v q))(a:Int)(b:List ai.T) :
  ∃mm':gR,uh ((j:Int),b,a,(j:Int),(M.reads.length:Int),(0:Int),kJ n m ms lm mm M)=some (b,a,(j:Int),nt n (nt n (m,ms,lm,mm',())))/\Has mm' (fun v q=>q<j+1/\qY n v q):=by
 have hMm:=d5 hM;have hfm:=ft.af.2 M hMm;have hsm:=hs.af M hMm;have h:∃o,uh ((j:Int),b,a,(j:Int),(M.reads.length:Int),(0:Int),kJ n m ms lm mm M)=some o/\∃mm':gR,o=(b,a,(j:Int),nt n (nt n (m,ms,lm,mm',())))/\Has mm' (fun v q=>q<j+1/\qY n v q):=by
  unfold uh;delta nq u7 bV cy;refine jD (fun x=>∃(k:Nat) (mm':gR),k<=M.reads.length/\x=((j:Int),b,a,(j:Int),(M.reads.length:Int),(k:Int),kJ n m ms lm mm' M)/\Has mm' (fun v q=>(q<j/\qY n v q)\/(v∈(M.reads.take k).flatMap (fun r=>cM r.var M.word.toNat)/\q=j))) _ (fun x=>M.reads.length-x.2.2.2.2.2.1.toNat) ?_ NN _ ⟨0,mm,Do _,rfl,hH.iff fun v q=>aue⟩ (bG (by show M.reads.length-0<=_;have:=hfm.kO;omega));rintro x ⟨k,mm1,hk,rfl,hH1⟩;unfold kJ nt aM
  try dsimp only
  unfold Ng;have hrn:=hfm.kO;by_cases hlt:k<M.reads.length
  .have hg:=bA hlt;obtain⟨r,hr⟩:∃r,r=M.reads[k]:=⟨_,rfl⟩;have hrm:=ut hlt;rw[<-hr]at hg hrm;have hfr:=hfm.fq r hrm;have e0:=Pu M k r hg ⟨auc,hfm.word.2⟩ ⟨hfr.2.1,hfr.2.2.1⟩;obtain⟨mm2,e14,hH2⟩:=akm hs ft h0 ha m ms lm mm1 (M:=M) (j:=j) hH1 (cM r.var M.word.toNat) (by rw[yW];have:=hfm.word.2;omega) (fun v hv q hq=>by
    rcases hq with⟨h1,M',h2,h3⟩|⟨_,h⟩
    .exact aa0 hs h2 hM h3 (rc.2 ⟨r,hrm,hv⟩)
    .exact h) a (j:Int) (M.reads.length:Int) b (k:Int)
   rw[bR auj];right;refine⟨((j:Int),b,a,(j:Int),(M.reads.length:Int),((k+1:Nat):Int),kJ n m ms lm mm2 M),?_,⟨k+1,mm2,hlt,rfl,hH2.iff fun v q=>?_⟩,?_⟩
   .refine(bg e0).trans ((bg e14).trans ?_);have e':∀y y':Int,y=y'->(aul ((j:Int),b,a,(j:Int),(M.reads.length:Int),y,kJ n m ms lm mm2 M):am DL DA)=aul ((j:Int),b,a,(j:Int),(M.reads.length:Int),y',kJ n m ms lm mm2 M):=by rintro _ _ rfl;rfl
    exact e' _ _ (bP (x:=(k:Int)+1) auc)
   .rw[cK hg,BT,ww,NE,di,qr];constructor
    .rintro((h|⟨h1,h2⟩)|⟨h1,h2⟩)
     .exact .inl h
     .exact .inr ⟨.inl h1,h2⟩
     .exact .inr ⟨.inr h1,h2⟩
    .rintro(h|⟨h1|h1,h2⟩)
     .exact .inl (.inl h)
     .exact .inl (.inr ⟨h1,h2⟩)
     .exact .inr ⟨h1,h2⟩
   .show M.reads.length-((k+1:Nat):Int).toNat<M.reads.length-(k:Int).toNat;omega
  .left;have hk2:k=M.reads.length:=auc
   rw[hk2,cV]at hH1;rw[bC aui];refine⟨_,rfl,mm1,rfl,hH1.iff fun v q=>⟨?_,?_⟩⟩
   .rintro(⟨h1,h2⟩|⟨h1,rfl⟩)
    .exact⟨auc,h2⟩
    .exact⟨auc,M,hM,h1⟩
   .rintro⟨h1,M',h2,h3⟩;by_cases q2:q<j
    .exact .inl ⟨q2,M',h2,h3⟩
    .obtain rfl:q=j:=auc
     rw[hM]at h2;cases h2;exact .inr ⟨h3,rfl⟩
 obtain⟨o,h1,mm',rfl,h2⟩:=h;exact⟨mm',h1,h2⟩
theorem ak4(m ms:kw)(lm:gR):∃mm:gR,wH (n.af.map aM,(n.af.length:Int),(0:Int),nt n (nt n (m,ms,lm,[],())))=some (nt n (nt n (m,ms,lm,mm,())))/\Has mm (qY n):=by
 have h:∃o,wH (n.af.map aM,(n.af.length:Int),(0:Int),nt n (nt n (m,ms,lm,[],())))=some o/\∃mm:gR,o=nt n (nt n (m,ms,lm,mm,()))/\Has mm (qY n):=by
  have hll:=hs.lens.2.2.2.2;unfold wH;delta qC ju bV cy;refine jD (fun d=>∃(k:Nat) (mm:gR),k<=n.af.length/\d=(n.af.map aM,(n.af.length:Int),(k:Int),nt n (nt n (m,ms,lm,mm,())))/\Has mm (fun v q=>q<k/\qY n v q)) _ (fun d=>n.af.length-d.2.2.1.toNat) ?_ NN _ ⟨0,[],Do _,rfl,Has.nil.iff fun v q=>⟨fun h=>h.elim,fun h=>auc⟩⟩ (bG (by show n.af.length-0<=_;omega));rintro d ⟨k,mm,hk,rfl,hH⟩;unfold nt
  try dsimp only
  unfold Nx;by_cases hlt:k<n.af.length
  .have hg:=bA hlt;obtain⟨M,hM⟩:∃M,M=n.af[k]:=⟨_,rfl⟩;rw[<-hM]at hg;have hg':(n.af.map aM)[k]?=some (aM M):=by rw[cW,hg];rfl
   obtain⟨mm2,e11,hH2⟩:=akl hs ft h0 ha m ms lm mm hg hH (n.af.length:Int) (n.af.map aM);rw[bR auj,aW (aP ⟨auc,by rw[aG];omega⟩),bz hg'];right;refine⟨(n.af.map aM,(n.af.length:Int),((k+1:Nat):Int),nt n (nt n (m,ms,lm,mm2,()))),?_,⟨k+1,mm2,hlt,rfl,hH2⟩,?_⟩
   .have e11':∀z:Int,z=(M.reads.length:Int)->uh ((k:Int),n.af.map aM,(n.af.length:Int),(k:Int),z,(0:Int),kJ n m ms lm mm M)=some (n.af.map aM,((n.af.length:Int),(k:Int),nt n (nt n (m,ms,lm,mm2,()))) ):=by rintro _ rfl;exact e11
    refine(bg (e11' _ (by show((List.length (M.reads.map bS):Nat):Int)=_;rw[aG]))).trans ?_;have e:∀b b':Int,b=b'->(aul (n.af.map aM,(n.af.length:Int),b,nt n (nt n (m,ms,lm,mm2,()))):am D5 DO)=aul (n.af.map aM,(n.af.length:Int),b',nt n (nt n (m,ms,lm,mm2,()))):=by rintro _ _ rfl;rfl
    exact e _ _ (bP (x:=(k:Int)+1) auc)
   grind
  .left;rw[bC aui];exact⟨_,rfl,mm,rfl,hH.iff fun v q=>⟨fun h=>h.2,fun h=>⟨by obtain⟨l,h1,_⟩:=h;have:=(rg.1 h1).1;omega,h⟩⟩⟩
 obtain⟨o,h1,lm,rfl,h2⟩:=h;exact⟨lm,h1,h2⟩
theorem aka:∃(s:S2) (lm mm:gR),Nz (nt n ())=some (nt n (s.1,s.2,[],lm,mm,()))/\jk n V s:=by
 have hV2:=hs.v2;have hvars:=hs.vars;obtain⟨lens1,lens2,lens3,lens4,lens5⟩:=hs.lens;obtain⟨m0,hm0⟩:∃m0,m0=List.replicate (V+1) false:=⟨_,rfl⟩;obtain⟨ms0,hms0⟩:∃ms0,ms0=List.replicate n.af.length false:=⟨_,rfl⟩;obtain⟨lm,e3,hlm⟩:=ak3 hs ft h0 ha m0 ms0;obtain⟨mm,e8,hmm⟩:=ak4 hs ft h0 ha m0 ms0 lm;have I0:PI n V m0 ms0 []:=by rw[hm0,hms0];exact pi0
 have t0:todo m0 []<=10000:=by
  unfold todo
  grind
 have hb:∀l∈n.aU++n.constraints,0<=l/\l / 2<=(V:Int):=fun l hl=>hs.lits l (by
  unfold cL;simp only[qr]at hl |-;rcases hl with h|h
  .exact .inl (.inl (.inl (.inr h)))
  .exact .inl (.inl (.inr h)))
 obtain⟨m1,l1,e1,R1⟩:=xb hs ft h0 ha (ls:=n.aU) (fun l hl=>hb l (AI _ hl)) auc I0.len I0.iF ms0 t0 lm mm;have I1:=I0.mark R1 fun l hl h=>.base (AI _ hl) h;obtain⟨m2,l2,e2,R2⟩:=xb hs ft h0 ha (ls:=n.constraints) (fun l hl=>hb l (Fd _ hl)) auc I1.len I1.iF ms0 (left:=l1) (by rw[R1.todo];exact t0) lm mm;have I2:=I1.mark R2 fun l hl h=>.base (Fd _ hl) h;obtain⟨m3,ms3,ea,I3,up⟩:=alP hs ft h0 ha hlm hmm I2 (by rw[R2.todo,R1.todo];exact t0);refine⟨(m3,ms3),lm,mm,?_,I3.full fun l hl h=>up _ ?_⟩
 .show NF yU Yj qE wG wH uh wE n.vars n.ax (n.ah.map aX) n.bk n.aU n.constraints (n.af.map aM) (n.ag.map aL)=_;unfold NF;have w1:pu (n.vars+1)=((V+1:Nat):Int):=by rw[hvars];exact auk
  have hml:(List.length (n.af.map aM))=n.af.length:=aG ..;rw[w1,hml,aW (nC auj (aF (atm _)) (aF (by rw[show(Int.ofNat 1:Int)=1 from rfl];omega))),aW (nC (aF (by show(0:Int)<=((n.af.length:Nat):Int);omega)) (aF (atm _)) (aF (by show(1:Int)*((n.af.length:Nat):Int)<=281474976710656;omega)))];have e3':∀(z:Int) (a b:kw),z=(n.ah.length:Int)->a=m0->b=ms0->wG (n.ah.map aX,z,(0:Int),nt n (nt n (a,b,[],[],())))=some (nt n (nt n (m0,ms0,lm,[],()))):=by rintro _ _ _ rfl rfl rfl;exact e3
  have e8':∀z:Int,z=(n.af.length:Int)->wH (n.af.map aM,z,(0:Int),nt n (nt n (m0,ms0,lm,[],())))=some (nt n (nt n (m0,ms0,lm,mm,()))):=by rintro _ rfl;exact e8
  refine(bg (e3' _ _ _ (by show((List.length (n.ah.map aX):Nat):Int)=_;rw[aG]) (by rw[hm0];rfl) (by rw[hms0];rfl))).trans ?_;refine(bg (e8' _ (by show((List.length (n.af.map aM):Nat):Int)=_;rw[aG]))).trans ?_;refine(bg e1).trans ((bg e2).trans ((bg ea).trans rfl))
 .rcases qr.1 hl with hl|hl
  .exact(R2.on _).2 (.inl ((R1.on _).2 (.inr (.base hl h))))
  .exact(R2.on _).2 (.inr (.base hl h))
end
def ez(L:md):jp:=L.map fun v:Nat=>(v:Int)
theorem N3{L:md}{k:Nat}(h:L[k]?=some i):(ez L)[k]?=some (i:Int):=by unfold ez;grind
theorem nB(L:md):(ez L).length=L.length:=aG _
variable{α:Type}
theorem uv(L:List α)(p:Nat->Bool):(qV L p).length<=L.length:=by
 unfold qV
 grind
theorem N4{L:List α}{p:Nat->Bool}(h:i∈qV L p):i<L.length:=act.1 (asv.1 h).1
abbrev stM{α:Type}(n:aB)(s:S2)(lm mm:gR)(r:α):=nt n (s.1,s.2,([]:jp),lm,mm,r)
section
variable{n:aB}{V:Nat}(hs:cA n V){s:S2}(M:jk n V s)(lm mm:gR)
include hs M
theorem abV(hi:i<n.ax.length):∃v:Nat,n.ax[i]?=some (v:Int)/\1<=v/\v<=V:=by
 have h:=hs.eJ n.ax[i] (by unfold bp;grind);obtain⟨v,hv⟩:=By (show 0<=n.ax[i] by omega)
 grind
theorem ajR:MX ((n.ax.length:Int),stM n s lm mm (nt n ()))=some (stM n s lm mm (nt n (ez (jP n s),()))):=by
 have hml:=M.l1;have hl:=hs.lens.1;have hv2:=hs.v2;have e:YH ((n.ax.length:Int),(0:Int),stM n s lm mm (nt n (([]:jp),())))=some (stM n s lm mm (nt n (ez (jP n s),()))):=by
  unfold YH;delta pg bV cy;refine cO (fun k:Nat=>((n.ax.length:Int),(k:Int),stM n s lm mm (nt n (ez ((List.range k).filter fun i=>kv s (n.ax.getD i 0)),())))) n.ax.length rfl ?_ ?_ auh
  .intro k hk;unfold stM nt
   try dsimp only
   unfold D6;obtain⟨v,hg,v1,v2⟩:=abV hs M hk;have hgd:n.ax.getD k 0=(v:Int):=by rw[ff,hg];rfl
   have ek:pu ((k:Int)+1)=((k+1:Nat):Int):=auk;have fin:∀(b b':Int) (L L':jp),b=b'->L=L'->(aul ((n.ax.length:Int),b,stM n s lm mm (nt n (L,()))):am DC Dt)=aul ((n.ax.length:Int),b',stM n s lm mm (nt n (L',()))):=by rintro _ _ _ _ rfl rfl;rfl
   rw[bR auj,aW aug,bz (σ:=.I) hg,aW aug];have hln:(ez ((List.range k).filter fun i=>kv s (n.ax.getD i 0))).length<=100000000:=by
    rw[nB]
    grind
   cases q:s.1.getD v false with
   |true=>
    have qk:kv s (n.ax.getD k 0)=true:=by unfold kv;rw[hgd];exact q
    rw[bR (show gt .bool s.1 (v:Int)=true from q),aW (eX hln auc)];exact fin _ _ _ _ ek (qT (p:=fun i=>kv s (n.ax.getD i 0)) qk).symm
   |false=>
    have qk:kv s (n.ax.getD k 0)=false:=by unfold kv;rw[hgd];exact q
    rw[bC (show gt .bool s.1 (v:Int)=false from q)];exact fin _ _ _ _ ek (qS (p:=fun i=>kv s (n.ax.getD i 0)) qk).symm
  .unfold stM nt
   try dsimp only
   unfold D6;rw[bC aui];rfl
 exact(bg e).trans rfl
theorem ajS:D8 ((n.ah.length:Int),stM n s lm mm (nt n ()))=some (stM n s lm mm (nt n (ez (i9 n s),()))):=by
 have hml:=M.l1;have hl:=hs.lens.2.1;have hv2:=hs.v2;have e:YK ((n.ah.length:Int),(0:Int),stM n s lm mm (nt n (([]:jp),())))=some (stM n s lm mm (nt n (ez (i9 n s),()))):=by
  unfold YK;delta pg bV cy;refine cO (fun k:Nat=>((n.ah.length:Int),(k:Int),stM n s lm mm (nt n (ez ((List.range k).filter fun i=>kv s (n.ah.getD i j0).var),())))) n.ah.length rfl ?_ ?_ auh
  .intro k hk;unfold stM nt
   try dsimp only
   unfold D7;have hg:=bA hk;obtain⟨l,hl2⟩:∃l,l=n.ah[k]:=⟨_,rfl⟩;rw[<-hl2]at hg;have hg':(n.ah.map aX)[k]?=some (aX l):=by rw[cW,hg];rfl
   have hr:=hs.eJ l.var (by unfold bp;grind);obtain⟨v,hv⟩:=By (show 0<=l.var by omega);have hv:l.var=(v:Int):=hv;have hv':(aX l).1=(v:Int):=hv;have hgd:(n.ah.getD k j0).var=(v:Int):=by rw[ff,hg];exact hv
   have ek:pu ((k:Int)+1)=((k+1:Nat):Int):=auk;have fin:∀(b b':Int) (L L':jp),b=b'->L=L'->(aul ((n.ah.length:Int),b,stM n s lm mm (nt n (L,()))):am DD Du)=aul ((n.ah.length:Int),b',stM n s lm mm (nt n (L',()))):=by rintro _ _ _ _ rfl rfl;rfl
   rw[bR auj,aW (aP ⟨auc,by rw[aG];omega⟩),bz hg',hv',aW aug];have hln:(ez ((List.range k).filter fun i=>kv s (n.ah.getD i j0).var)).length<=100000000:=by
    rw[nB]
    grind
   cases q:s.1.getD v false with
   |true=>
    have qk:kv s (n.ah.getD k j0).var=true:=by unfold kv;rw[hgd];exact q
    rw[bR (show gt .bool s.1 (v:Int)=true from q),aW (eX hln auc)];exact fin _ _ _ _ ek (qT (p:=fun i=>kv s (n.ah.getD i j0).var) qk).symm
   |false=>
    have qk:kv s (n.ah.getD k j0).var=false:=by unfold kv;rw[hgd];exact q
    rw[bC (show gt .bool s.1 (v:Int)=false from q)];exact fin _ _ _ _ ek (qS (p:=fun i=>kv s (n.ah.getD i j0).var) qk).symm
  .unfold stM nt
   try dsimp only
   unfold D7;rw[bC aui];rfl
 exact(bg e).trans rfl
theorem ajT:Ea ((n.af.length:Int),stM n s lm mm ())=some (stM n s lm mm (ez (iz n s),())):=by
 have hml:=M.l2;have hl:=hs.lens.2.2.2.2;have e:YN ((n.af.length:Int),(0:Int),stM n s lm mm (([]:jp),()))=some (stM n s lm mm (ez (iz n s),())):=by
  unfold YN;delta u16 u4 bV cy;refine cO (fun k:Nat=>((n.af.length:Int),(k:Int),stM n s lm mm (ez ((List.range k).filter fun i=>s.2.getD i false),()))) n.af.length rfl ?_ ?_ auh
  .intro k hk;unfold stM nt
   try dsimp only
   unfold D9;have ek:pu ((k:Int)+1)=((k+1:Nat):Int):=auk;have fin:∀(b b':Int) (L L':jp),b=b'->L=L'->(aul ((n.af.length:Int),b,stM n s lm mm (L,())):am DE Dv)=aul ((n.af.length:Int),b',stM n s lm mm (L',())):=by intros;subst_vars;rfl
   rw[bR auj,aW aug];have hln:(ez ((List.range k).filter fun i=>s.2.getD i false)).length<=100000000:=by
    rw[nB]
    grind
   cases q:s.2.getD k false with|true=>rw[bR (show gt .bool s.2 (k:Int)=true from q),aW (eX hln auc)];exact fin _ _ _ _ ek (qT (p:=fun i=>s.2.getD i false) q).symm|false=>rw[bC (show gt .bool s.2 (k:Int)=false from q)];exact fin _ _ _ _ ek (qS (p:=fun i=>s.2.getD i false) q).symm
  .unfold stM nt
   try dsimp only
   unfold D9;rw[bC aui];rfl
 exact(bg e).trans rfl
abbrev gJ{α:Type}(n:aB)(s:S2)(lm mm:gR)(r:α):=nt n ((0:Int),ez (jP n s),ez (i9 n s),ez (iz n s),stM n s lm mm (n.vars,n.aU,n.constraints,r))
theorem aol:wJ (((jP n s).length:Int),(0:Int),gJ n s lm mm (([]:jp),()))=some (gJ n s lm mm ((cz n s).ax,())):=by
 have hl:=hs.lens.1;have hil:(jP n s).length<=n.ax.length:=uv _ _;have he:(cz n s).ax=(jP n s).map fun i=>n.ax.getD i 0:=(ZS n.ax 0 (kv s)).symm;rw[he];unfold wJ;delta nq u7 bV cy;refine cO (fun k:Nat=>(((jP n s).length:Int),(k:Int),gJ n s lm mm (((jP n s).take k).map (fun i=>n.ax.getD i 0),()))) (jP n s).length rfl ?_ ?_ auh
 .intro k hk;unfold gJ stM nt
  try dsimp only
  unfold EH;have hg:=bA hk;obtain⟨i,hi⟩:∃i,i=(jP n s)[k]:=⟨_,rfl⟩;rw[<-hi]at hg;have aS:=N4 (d5 hg);have hg':=N3 hg;have ek:pu ((k:Int)+1)=((k+1:Nat):Int):=auk;have fin:∀(b b':Int) (L L':jp),b=b'->L=L'->(aul (((jP n s).length:Int),b,gJ n s lm mm (L,())):am Ey Eo)=aul (((jP n s).length:Int),b',gJ n s lm mm (L',())):=by rintro _ _ _ _ rfl rfl;rfl
  rw[bR auj,aW (aP ⟨auc,by rw[nB];omega⟩),bz (σ:=.I) hg',aW aug];refine(aW (eX (by rw[aG,dK];omega) auc)).trans ?_;exact fin _ _ _ _ ek (by rw[cK hg,cH];rfl)
 .unfold gJ stM nt
  try dsimp only
  unfold EH;rw[bC aui,cV];rfl
theorem aom(I:jp):wK (((i9 n s).length:Int),(0:Int),gJ n s lm mm (I,([]:List ae.T),()))=some (gJ n s lm mm (I,(cz n s).ah.map aX,())):=by
 have hl:=hs.lens.2.1;have hil:(i9 n s).length<=n.ah.length:=uv _ _;have he:(cz n s).ah=(i9 n s).map fun i=>n.ah.getD i j0:=(ZS n.ah j0 fun l=>kv s l.var).symm;rw[he];unfold wK;delta kZ u8 bV cy;refine cO (fun k:Nat=>(((i9 n s).length:Int),(k:Int),gJ n s lm mm (I,(((i9 n s).take k).map (fun i=>n.ah.getD i j0)).map aX,()))) (i9 n s).length rfl ?_ ?_ auh
 .intro k hk;unfold gJ stM nt
  try dsimp only
  unfold EI;have hg:=bA hk;obtain⟨i,hi⟩:∃i,i=(i9 n s)[k]:=⟨_,rfl⟩;rw[<-hi]at hg;have aS:=N4 (d5 hg);have hg':=N3 hg;have hli:=bA aS;have hli':(n.ah.map aX)[i]?=some (aX n.ah[i]):=by rw[cW,hli];rfl
  have ek:pu ((k:Int)+1)=((k+1:Nat):Int):=auk;have fin:∀(b b':Int) (L L':List ae.T),b=b'->L=L'->(aul (((i9 n s).length:Int),b,gJ n s lm mm (I,L,())):am Ez Ep)=aul (((i9 n s).length:Int),b',gJ n s lm mm (I,L',())):=by rintro _ _ _ _ rfl rfl;rfl
  rw[bR auj,aW (aP ⟨auc,by rw[nB];omega⟩),bz (σ:=.I) hg',aW (aP ⟨auc,by rw[aG];omega⟩),bz hli'];refine(aW (eX (by rw[aG,aG,dK];omega) auc)).trans ?_;refine fin _ _ _ _ ek ?_;rw[cK hg,cH,cH,UV,asr,UV,asr,ff,hli];rfl
 .unfold gJ stM nt
  try dsimp only
  unfold EI;rw[bC aui,cV];rfl
theorem aon(I:jp)(L:List ae.T):wL (((iz n s).length:Int),(0:Int),gJ n s lm mm (I,L,([]:List ai.T),()))=some (gJ n s lm mm (I,L,(cz n s).af.map aM,())):=by
 have hl:=hs.lens.2.2.2.2;have hil:(iz n s).length<=n.af.length:=uv _ _;have he:(cz n s).af=(iz n s).map fun i=>n.af.getD i oJ:=rfl;have eC:sy (nt n ())=some (iA n (n.ax,())):=by show od n.vars n.ax (n.ah.map aX) n.bk n.aU n.constraints (n.af.map aM) (n.ag.map aL)=_;unfold od;have e:eH (n.vars,n.ax,n.ah.map aX,n.bk,n.aU,n.constraints,n.af.map aM,n.ag.map aL,())=n:=o6 n;rw[e,pV (pz hs)];rfl
 rw[he];unfold wL;delta Ux u9 bV cy;refine cO (fun k:Nat=>(((iz n s).length:Int),(k:Int),gJ n s lm mm (I,L,(((iz n s).take k).map (fun i=>n.af.getD i oJ)).map aM,()))) (iz n s).length rfl ?_ ?_ auh
 .intro k hk;unfold gJ stM nt
  try dsimp only
  unfold EJ;have hg:=bA hk;obtain⟨i,hi⟩:∃i,i=(iz n s)[k]:=⟨_,rfl⟩;rw[<-hi]at hg;have aS:=N4 (d5 hg);have hg':=N3 hg;have hli:=bA aS;have hli':(n.af.map aM)[i]?=some (aM n.af[i]):=by rw[cW,hli];rfl
  have ek:pu ((k:Int)+1)=((k+1:Nat):Int):=auk;have fin:∀(b b':Int) (X X':List ai.T),b=b'->X=X'->(aul (((iz n s).length:Int),b,gJ n s lm mm (I,L,X,())):am wI wF)=aul (((iz n s).length:Int),b',gJ n s lm mm (I,L,X',())):=by rintro _ _ _ _ rfl rfl;rfl
  rw[bR auj,aW (aP ⟨auc,by rw[nB];omega⟩),bz (σ:=.I) hg'];refine(bg eC).trans ?_;refine(aW (aP ⟨auc,by show(i:Int)<((List.length (n.af.map aM):Nat):Int);rw[aG];omega⟩)).trans ((aW (aF rfl)).trans ?_);have key:∀y:ai.T,y=aM n.af[i]->(aj (room 72 (List.length ((((iz n s).take k).map (fun i=>n.af.getD i oJ)).map aM++(y::[])))) <|(aul (((iz n s).length:Int),(pu ((k:Int)+1)),gJ n s lm mm (I,L,(((iz n s).take k).map (fun i=>n.af.getD i oJ)).map aM++(y::[]),())):am wI wF))=aul (((iz n s).length:Int),((k+1:Nat):Int),gJ n s lm mm (I,L,(((iz n s).take (k+1)).map (fun i=>n.af.getD i oJ)).map aM,())):=by rintro _ rfl;rw[aW (eX (by rw[aG,aG,dK];omega) auc)];refine fin _ _ _ _ ek ?_;rw[cK hg,cH,cH,UV,asr,UV,asr,ff,hli];rfl
  exact key _ (bz hli')
 .unfold gJ stM nt
  try dsimp only
  unfold EJ;rw[bC aui,cV];rfl
abbrev qA{α:Type}(n:aB)(s:S2)(r:α):=((0:Int),ez (jP n s),ez (i9 n s),ez (iz n s),r)
theorem aoo(I:jp)(L:List ae.T)(X:List ai.T):wM (n.ag.map aL,(n.ag.length:Int),(0:Int),qA n s (stM n s lm mm (n.vars,n.aU,n.constraints,I,L,X,([]:List ae.T),())))=some (qA n s (n.vars,n.aU,n.constraints,I,L,X,(cz n s).ag.map aL,())):=by
 have hl:=hs.lens.2.2.1;have hml:=M.l1;have he:(cz n s).ag=n.ag.filter fun a=>kv s a.var:=rfl;rw[he];unfold wM;delta fW u3 bV cy;refine cO (fun k:Nat=>(n.ag.map aL,(n.ag.length:Int),(k:Int),qA n s (stM n s lm mm (n.vars,n.aU,n.constraints,I,L,X,((n.ag.take k).filter (fun a=>kv s a.var)).map aL,()))) ) n.ag.length rfl ?_ ?_ auh
 .intro k hk;unfold qA stM nt
  try dsimp only
  unfold EK;have hg:=bA hk;obtain⟨a,ha⟩:∃a,a=n.ag[k]:=⟨_,rfl⟩;rw[<-ha]at hg;have hg':(n.ag.map aL)[k]?=some (aL a):=by rw[cW,hg];rfl
  have hr:=hs.eJ a.var (by unfold bp;simp only[qr,rt];exact .inr ⟨a,d5 hg,rfl⟩);obtain⟨v,hv⟩:=By (show 0<=a.var by omega);have hv:a.var=(v:Int):=hv;have hv':(aL a).1=(v:Int):=hv;have ek:pu ((k:Int)+1)=((k+1:Nat):Int):=auk;have fin:∀(b b':Int) (Y Y':List ae.T),b=b'->Y=Y'->(aul (n.ag.map aL,(n.ag.length:Int),b,qA n s (stM n s lm mm (n.vars,n.aU,n.constraints,I,L,X,Y,()))):am EA Er)=aul (n.ag.map aL,(n.ag.length:Int),b',qA n s (stM n s lm mm (n.vars,n.aU,n.constraints,I,L,X,Y',()))):=by rintro _ _ _ _ rfl rfl;rfl
  rw[bR auj,aW (aP ⟨auc,by rw[aG];omega⟩),bz hg'];refine(aW (aP ⟨by show(0:Int)<=a.var;omega,by show a.var<((s.1.length:Nat):Int);omega⟩)).trans ?_;have hln:(((n.ag.take k).filter (fun a=>kv s a.var)).map aL).length<=100000000:=by grind
  cases q:kv s a.var with|true=>refine(bR (show gt .bool s.1 (aL a).1=true from q)).trans ((aW (eX hln auc)).trans ?_);refine fin _ _ _ _ ek ?_;rw[cK hg,are,asq,IO q,cH];rfl|false=>refine(bC (show gt .bool s.1 (aL a).1=false from q)).trans ?_;refine fin _ _ _ _ ek ?_;rw[cK hg,are,asq,Fr (by rw[q];simp),atg,di]
 .unfold qA stM nt
  try dsimp only
  unfold EK;rw[bC aui,cV];rfl
end
theorem ab6{n:aB}{V:Nat}(hs:cA n V)(h0:da n=0)(ha:dO (bh n) V=true):∃s,jk n V s/\wS (dn n,())=some ((dn (pG n s V),ez (jP n s),ez (i9 n s),ez (iz n s),()),(0:Int),()):=by
 have ft:=pz hs;have hck:Pl.gV n=0:=w7 hs h0 fun v hv=>(jW hs.apart V).1 ha v hv;obtain⟨s,lm,mm,eM,M⟩:=aka hs ft h0 ha;refine⟨s,M,?_⟩;have eC:=Jq ft;rw[hck]at eC;have eCl:sy (nt n ())=some (iA n (n.ax,())):=by show od n.vars n.ax (n.ah.map aX) n.bk n.aU n.constraints (n.af.map aM) (n.ag.map aL)=_;unfold od;have e:eH (n.vars,n.ax,n.ah.map aX,n.bk,n.aU,n.constraints,n.af.map aM,n.ag.map aL,())=n:=o6 n;rw[e,pV ft];rfl
 have eI:=ajR hs M lm mm;have eL:=ajS hs M lm mm;have eP:=ajT hs M lm mm;have e11:=aol hs M lm mm;have e16:=aom hs M lm mm (cz n s).ax;have e21:=aon hs M lm mm (cz n s).ax ((cz n s).ah.map aX);have e26:=aoo hs M lm mm (cz n s).ax ((cz n s).ah.map aX) ((cz n s).af.map aM);have eD:=akM hs h0 ha M;have eN:=ako (uw hs M h0) (wO hs M h0) (EW hs h0 ha M);have eL':∀z:Int,z=(n.ah.length:Int)->D8 (z,stM n s lm mm (nt n ()))=some (stM n s lm mm (nt n (ez (i9 n s),()))):=by rintro _ rfl;exact eL
 have eP':∀z:Int,z=(n.af.length:Int)->Ea (z,stM n s lm mm ())=some (stM n s lm mm (ez (iz n s),())):=by rintro _ rfl;exact eP
 have e11':∀z:Int,z=((jP n s).length:Int)->wJ (z,(0:Int),gJ n s lm mm (([]:jp),()))=some (gJ n s lm mm ((cz n s).ax,())):=by rintro _ rfl;exact e11
 have e16':∀z:Int,z=((i9 n s).length:Int)->wK (z,(0:Int),gJ n s lm mm ((cz n s).ax,([]:List ae.T),()))=some (gJ n s lm mm ((cz n s).ax,(cz n s).ah.map aX,())):=by rintro _ rfl;exact e16
 have e21':∀z:Int,z=((iz n s).length:Int)->wL (z,(0:Int),gJ n s lm mm ((cz n s).ax,(cz n s).ah.map aX,([]:List ai.T),()))=some (gJ n s lm mm ((cz n s).ax,(cz n s).ah.map aX,(cz n s).af.map aM,())):=by rintro _ rfl;exact e21
 have e26':∀z:Int,z=(n.ag.length:Int)->wM (n.ag.map aL,z,(0:Int),qA n s (stM n s lm mm (n.vars,n.aU,n.constraints,(cz n s).ax,(cz n s).ah.map aX,(cz n s).af.map aM,([]:List ae.T),())))=some (qA n s (n.vars,n.aU,n.constraints,(cz n s).ax,(cz n s).ah.map aX,(cz n s).af.map aM,(cz n s).ag.map aL,())):=by rintro _ rfl;exact e26
 have mapl:∀{α β:Type}(f:α->β) (L:List α),((List.length (L.map f):Nat):Int)=(L.length:Int):=fun f L=>by rw[aG]
 have natl:∀L:md,((List.length (ez L):Nat):Int)=(L.length:Int):=fun L=>by rw[nB]
 show wV Nb NC I9 sy Ea D8 MX Nz wJ wK wL wM (dn n)=_;unfold wV;refine(bg eC).trans ((bC rfl).trans ((bg eM).trans ((bg eI).trans ?_)));refine(bg (eL' _ (mapl aX n.ah))).trans ?_;refine(bg (eP' _ (mapl aM n.af))).trans ((bg eCl).trans ?_);refine(bg (e11' _ (natl _))).trans ?_;refine(bg (e16' _ (natl _))).trans ?_;refine(bg (e21' _ (natl _))).trans ?_;refine(bg (e26' _ (mapl aL n.ag))).trans ?_;refine(bg eD).trans ((bC rfl).trans ((bg eN).trans rfl))
theorem anD{n:aB}(ft:Fit n)(h:Pl.gV n≠0):wS (dn n,())=some (((((0:Int),[],[],[],[],[],[],[],()),[],[],[],()),Pl.gV n,())):=by show wV Nb NC I9 sy Ea D8 MX Nz wJ wK wL wM (dn n)=_;unfold wV;exact(bg (Jq ft)).trans ((bR (sZ (aJ h))).trans rfl)
