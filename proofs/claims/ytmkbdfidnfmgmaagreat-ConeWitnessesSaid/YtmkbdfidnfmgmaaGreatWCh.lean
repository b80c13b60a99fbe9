import Derived.Test.YtmkbdfidnfmgmaaGreatWCe
import Derived.Test.YtmkbdfidnfmgmaaGreatWCg
set_option linter.all false
section
namespace Go.Proofs.YtmkbdfidnfmgmaaGreat.V
open Go Go.RowKit Go.Proofs.YtmkbdfidnfmgmaaGreat.Pl
set_option maxRecDepth 10000
section
variable{n:ak}{V:Nat}(hs:bR n V)
include hs
theorem aj5{l l':dJ}(h:l∈n.ag)(h':l'∈n.ag)(e:l.var=l'.var):l=l':=by
 have hn:=hs.nodup;unfold aX at hn;simp only[bB]at hn;rw[rx]at hn;have h2:=hn.2.1;rw[rx]at h2;obtain⟨i,hi,rfl⟩:=arO h;obtain⟨j,hj,rfl⟩:=arO h';have key:=asb.1 (arN.1 h2.1)
 grind
theorem aj4{l:dJ}(h:l∈n.ag){M:cf}(hM:M∈n.ae):l.var∉fv M:=by intro hv;have hn:=hs.nodup;unfold aX at hn;simp only[bB]at hn;rw[rx]at hn;have h2:=hn.2.1;rw[rx]at h2;exact h2.2.2 l.var (AI h) l.var (AC _ (rg.2 ⟨M,hM,hv⟩)) rfl
theorem Yw{i j:Nat}{M M':cf}{v:Int}(hi:n.ae[i]?=some M)(hj:n.ae[j]?=some M')(h:v∈fv M)(h':v∈fv M'):i=j:=by have hn:=hs.nodup;unfold aX at hn;simp only[bB]at hn;rw[rx]at hn;have h2:=hn.2.1;rw[rx]at h2;have h3:=h2.2.1;rw[rx]at h3;exact NP h3.1 hi hj h h'
theorem aiW{M:cf}(hM:M∈n.ae){l:Int}(hl:l∈fi M):0<=l/\l / 2<=(V:Int):=by
 refine hs.lits l ?_;unfold bJ
 grind
end
variable{j:Nat}{i:Nat}{l:dJ}{l':dJ}
section
variable{n:ak}{V:Nat}(hs:bR n V)(ft:Fit n)(h0:cZ n=0)(ha:dT (aY n) V=true)
include hs ft h0 ha
theorem ahP{M:cf}(hM:n.ae[j]?=some M){m ms:md}{left:jp}(off:ms.getD j false=false)(J:PJ n V j m (ms.set j true) left)(hp:∀l∈fi M,0<l / 2->iD n (l / 2).toNat)(ht:todo m left<=10000)(lm mm:ib) :
  ∃m' left',xK ((j:Int),vk n m ms left lm mm)=some (fg n m' (ms.set j true) left' lm mm)/\PI n V m' (ms.set j true) left'/\todo m' left'=todo m left/\∀p,On m p->On m' p:=by
 have hMm:=dy hM;have hjl:=(ut.1 hM).1;have hlen2:ms.length=n.ae.length:=by have:=J.mQ;rw[acl]at this;exact this
 have hfm:=ft.ae.2 M hMm;have hsm:=hs.ae M hMm;have hM':(n.ae.map aI)[j]?=some (aI M):=by rw[ct,hM];rfl
 have hlit:=fun l hl=>aiW hs hMm (l:=l) hl;obtain⟨ms',hms⟩:∃ms',ms'=ms.set j true:=⟨_,rfl⟩;rw[<-hms]at J;have e3:∃o,xL ((j:Int),M.reads.map fC,(M.reads.length:Int),(0:Int),fg n m ms' left lm mm)=some o/\∃m' left',o=((j:Int),fg n m' ms' left' lm mm)/\PJ n V j m' ms' left'/\todo m' left'=todo m left/\(∀p,On m p->On m' p)/\∀r∈M.reads,∀l∈r.addr,0<l / 2->On m' (l / 2).toNat:=by
  unfold xL;delta jv u5 bM bX;refine kp (fun d=>∃(k:Nat) (m':md) (left':jp),k<=M.reads.length/\d=((j:Int),M.reads.map fC,(M.reads.length:Int),(k:Int),fg n m' ms' left' lm mm)/\PJ n V j m' ms' left'/\todo m' left'=todo m left/\(∀p,On m p->On m' p)/\∀r∈M.reads.take k,∀l∈r.addr,0<l / 2->On m' (l / 2).toNat) _ (fun d=>M.reads.length-d.2.2.2.1.toNat) ?_ NN _ ⟨0,m,left,GT _,rfl,J,rfl,fun _ h=>h,fun r h=>by simp at h⟩ (cp (by have:=hfm.nH;omega));rintro d ⟨k,m1,l1,hk,rfl,J1,ht1,up1,on1⟩;unfold fg nt
  try dsimp only
  unfold Kh;have hrn:=hfm.nH;by_cases hlt:k<M.reads.length
  .have hg:=ba hlt;have hrm:=By hlt;obtain⟨r,hr⟩:∃r,r=M.reads[k]:=⟨_,rfl⟩;rw[<-hr]at hg hrm;have hg':(M.reads.map fC)[k]?=some (fC r):=by rw[ct,hg];rfl
   have hrl:∀l∈r.addr,l∈fi M:=fun l hl=>by unfold fi;simp only[rc,rg];exact .inl ⟨r,hrm,hl⟩
   obtain⟨m2,l2,e2,R⟩:=yk hs ft h0 ha (ls:=r.addr) (fun l hl=>hlit l (hrl l hl)) (by have:=(hfm.ig r hrm).1;omega) J1.len J1.iV ms' (left:=l1) atO lm mm;rw[dc atW,bH (aU ⟨atO,by rw[aP];omega⟩),bI (σ:=cF) hg'];right;refine⟨((j:Int),M.reads.map fC,(M.reads.length:Int),((k+1:Nat):Int),fg n m2 ms' l2 lm mm),?_,⟨k+1,m2,l2,hlt,rfl,J1.mark R fun l hl=>hp l (hrl l hl),R.todo.trans ht1,fun p h=>(R.on p).2 (.inl (up1 p h)),fun r' h' l hl h0'=>?_⟩,?_⟩
   .refine(bS e2).trans ?_;have e:∀b b':Int,b=b'->(atY ((j:Int),M.reads.map fC,(M.reads.length:Int),b,fg n m2 ms' l2 lm mm):am BH BC)=atY ((j:Int),M.reads.map fC,(M.reads.length:Int),b',fg n m2 ms' l2 lm mm):=by rintro _ _ rfl;rfl
    exact e _ _ (cH (x:=(k:Int)+1) atO)
   .rw[eE hg]at h';rcases rc.1 h' with h'|h'
    .exact(R.on _).2 (.inl (on1 r' h' l hl h0'))
    .rw[NE.1 h']at hl;exact(R.on _).2 (.inr (.base hl h0'))
   .show M.reads.length-((k+1:Nat):Int).toNat<M.reads.length-(k:Int).toNat;omega
  .left;have hk2:k=M.reads.length:=atO
   rw[hk2,eX]at on1;rw[cE atV];exact⟨_,rfl,m1,l1,rfl,J1,ht1,up1,on1⟩
 obtain⟨o,e3,m1,l1,rfl,J1,ht1,up1,on1⟩:=e3;have e8:∃o,vq (M.writes.map fy,(M.writes.length:Int),(0:Int),fg n m1 ms' l1 lm mm)=some o/\∃m' left',o=fg n m' ms' left' lm mm/\PJ n V j m' ms' left'/\todo m' left'=todo m left/\(∀p,On m1 p->On m' p)/\∀r∈M.writes,∀l∈iP r,0<l / 2->On m' (l / 2).toNat:=by
  unfold vq;delta u16 u4 bM bX;refine kp (fun d=>∃(k:Nat) (m':md) (left':jp),k<=M.writes.length/\d=(M.writes.map fy,(M.writes.length:Int),(k:Int),fg n m' ms' left' lm mm)/\PJ n V j m' ms' left'/\todo m' left'=todo m left/\(∀p,On m1 p->On m' p)/\∀r∈M.writes.take k,∀l∈iP r,0<l / 2->On m' (l / 2).toNat) _ (fun d=>M.writes.length-d.2.2.1.toNat) ?_ NN _ ⟨0,m1,l1,GT _,rfl,J1,ht1,fun _ h=>h,fun r h=>by simp at h⟩ (cp (by have:=hfm.tI;omega));rintro d ⟨k,m3,l3,hk,rfl,J3,ht3,up3,on3⟩;unfold fg nt
  try dsimp only
  unfold Ki;have hrn:=hfm.tI;by_cases hlt:k<M.writes.length
  .have hg:=ba hlt;have hrm:=By hlt;obtain⟨r,hr⟩:∃r,r=M.writes[k]:=⟨_,rfl⟩;rw[<-hr]at hg hrm;have hg':(M.writes.map fy)[k]?=some (fy r):=by rw[ct,hg];rfl
   have hrl:∀l∈iP r,l∈fi M:=fun l hl=>by unfold fi;simp only[rc,rg];exact .inr ⟨r,hrm,hl⟩
   have hwl:=hfm.iX r hrm;have hln:(iP r).length<=1000000:=by unfold iP;rw[di,bU];omega
   obtain⟨m2,l2,e2,R⟩:=yk hs ft h0 ha (ls:=iP r) (fun l hl=>hlit l (hrl l hl)) hln J3.len J3.iV ms' (left:=l3) atO lm mm;rw[dc atW,bH (aU ⟨atO,by rw[aP];omega⟩),bI (σ:=bD) hg'];have r1:room 8 (List.length ((r.on::[])++r.addr))=true:=uE (by rw[bU,di,IT];omega) (by rw[bU,di,IT];omega);have r2:room 8 (List.length (((r.on::[])++r.addr)++r.data))=true:=uE (by rw[bU,bU,di,IT];omega) (by rw[bU,bU,di,IT];omega);right;refine⟨(M.writes.map fy,(M.writes.length:Int),((k+1:Nat):Int),fg n m2 ms' l2 lm mm),?_,⟨k+1,m2,l2,hlt,rfl,J3.mark R fun l hl=>hp l (hrl l hl),R.todo.trans ht3,fun p h=>(R.on p).2 (.inl (up3 p h)),fun r' h' l hl h0'=>?_⟩,?_⟩
   .refine(bH r1).trans ((bH (yZ (fun x=>Sh.zz x) _)).trans ((bH r2).trans ?_));refine(bS e2).trans ?_;have e:∀b b':Int,b=b'->(atY (M.writes.map fy,(M.writes.length:Int),b,fg n m2 ms' l2 lm mm):am BI BD)=atY (M.writes.map fy,(M.writes.length:Int),b',fg n m2 ms' l2 lm mm):=by rintro _ _ rfl;rfl
    exact e _ _ (cH (x:=(k:Int)+1) atO)
   .rw[eE hg]at h';rcases rc.1 h' with h'|h'
    .exact(R.on _).2 (.inl (on3 r' h' l hl h0'))
    .rw[NE.1 h']at hl;exact(R.on _).2 (.inr (.base hl h0'))
   .show M.writes.length-((k+1:Nat):Int).toNat<M.writes.length-(k:Int).toNat;omega
  .left;have hk2:k=M.writes.length:=atO
   rw[hk2,eX]at on3;rw[cE atV];exact⟨_,rfl,m3,l3,rfl,J3,ht3,up3,on3⟩
 obtain⟨o,e8,m2,l2,rfl,J2,ht2,up2,on2⟩:=e8;refine⟨m2,l2,?_,?_,ht2,fun p h=>up2 p (up1 p h)⟩
 .subst hms;show xM rP xL vq (j:Int) n.vars n.al (n.ag.map bq) n.aZ n.aN n.constraints (n.ae.map aI) (n.aj.map bc) m ms left lm mm=_;unfold xM;refine(bH atT).trans ((cE (show gt .bool ms (j:Int)=false from off)).trans ((bH atT).trans ((bH (aU ⟨atO,by rw[aP];omega⟩)).trans ?_)));rw[bI hM'];have e3':∀z:Int,z=(M.reads.length:Int)->xL ((j:Int),M.reads.map fC,z,(0:Int),fg n m (ms.set j true) left lm mm)=some ((j:Int),fg n m1 (ms.set j true) l1 lm mm):=by rintro _ rfl;exact e3
  have e8':∀z:Int,z=(M.writes.length:Int)->vq (M.writes.map fy,z,(0:Int),fg n m1 (ms.set j true) l1 lm mm)=some (fg n m2 (ms.set j true) l2 lm mm):=by rintro _ rfl;exact e8
  refine(bS (e3' _ (by show((List.length (M.reads.map fC):Nat):Int)=_;rw[aP]))).trans ((bH (aU ⟨by show(0:Int)<=(j:Int);omega,by show(j:Int)<((List.length (n.ae.map aI):Nat):Int);rw[aP];omega⟩)).trans ?_);have g2:gt ah (n.ae.map aI) (j:Int)=aI M:=bI hM';have e8'':∀T:ah.T,T=aI M->vq (T.2.2.2.2.1,(Int.ofNat (List.length T.2.2.2.2.1)),(0:Int),fg n m1 (ms.set j true) l1 lm mm)=some (fg n m2 (ms.set j true) l2 lm mm):=by rintro _ rfl;exact e8' _ (by show((List.length (M.writes.map fy):Nat):Int)=_;rw[aP])
  exact(bS (e8'' _ g2)).trans rfl
 .rw[<-hms];refine J2.leave hM fun l hl h0'=>?_;unfold fi at hl;simp only[rc,rg]at hl;rcases hl with⟨r,hr,hl⟩|⟨r,hr,hl⟩
  .exact up2 _ (on1 r hr l hl h0')
  .exact on2 r hr l hl h0'
end
variable{left:jp}{m:md}{ms:md}
theorem mhP{σ:Sh}{k x:Int}{v:σ.T}:∀(M:fl σ),j5 (fF k v M) x=(decide (k=x)||j5 M x)
 |[]=>by show(match decide (k=x)with|true=>true|false=>false)=(decide (k=x)||false);cases decide (k=x)<;>rfl
 |p::M=>by
  unfold fF;cases h1:decide (k<p.1)with
  |true=>show(match decide (k=x)with|true=>true|false=>j5 (p::M) x)=_;cases decide (k=x)<;>rfl
  |false=>
   cases h2:decide (p.1=k)with
   |true=>
    have e:=aig h2;show(match decide (k=x)with|true=>true|false=>j5 M x)=(decide (k=x)||(match decide (p.1=x)with|true=>true|false=>j5 M x))
    grind
   |false=>
    show(match decide (p.1=x)with|true=>true|false=>j5 (fF k v M) x)=(decide (k=x)||(match decide (p.1=x)with|true=>true|false=>j5 M x));rw[mhP M]
    grind
theorem mgP{σ:Sh}{k x:Int}{v:σ.T}:∀(M:fl σ),jM σ (fF k v M) x=(match decide (k=x)with|true=>v|false=>jM σ M x)
 |[]=>rfl|p::M=>by
  unfold fF;cases h1:decide (k<p.1)with
  |true=>rfl|false=>
   cases h2:decide (p.1=k)with
   |true=>
    have e:=aig h2;show(match decide (k=x)with|true=>v|false=>jM σ M x)=(match decide (k=x)with|true=>v|false=>(match decide (p.1=x)with|true=>p.2.1|false=>jM σ M x))
    grind
   |false=>
    show(match decide (p.1=x)with|true=>p.2.1|false=>jM σ (fF k v M) x)=(match decide (k=x)with|true=>v|false=>(match decide (p.1=x)with|true=>p.2.1|false=>jM σ M x));rw[mgP M]
    grind
def Has(M:ib)(P:Int->Nat->Prop):Prop:=∀v:Int,(@j5 .I M v=true↔∃q,P v q)/\∀q:Nat,P v q->@jM .I M v=(q:Int)
theorem Has.nil:Has [] (fun _ _=>False):=fun v=>⟨⟨fun h=>(by cases h),fun⟨_,h⟩=>h.elim⟩,fun q h=>h.elim⟩
variable{P:Int->Nat->Prop}
theorem Has.put{M:ib}(h:Has M P){k:Int}(one:∀q,P k q->q=j):Has (@fF .I k (j:Int) M) (fun v q=>P v q\/(v=k/\q=j)):=fun v=>by
 have e1:=mhP (σ:=.I) (k:=k) (x:=v) (v:=(j:Int)) M;have e2:=mgP (σ:=.I) (k:=k) (x:=v) (v:=(j:Int)) M;by_cases q:k=v
 .subst q
  grind
 .rw[eY q]at e1 e2;rw[e1,e2];refine⟨⟨fun h2=>?_,fun⟨x,hx⟩=>?_⟩,fun x hx=>?_⟩
  .obtain⟨x,hx⟩:=(h v).1.1 h2;exact⟨x,.inl hx⟩
  .rcases hx with hx|⟨rfl,_⟩
   .exact(h v).1.2 ⟨x,hx⟩
   .exact absurd rfl q
  .rcases hx with hx|⟨rfl,_⟩
   .exact(h v).2 x hx
   .exact absurd rfl q
theorem Has.iff{M:ib}{Q:Int->Nat->Prop}(h:Has M P)(e:∀v q,P v q↔Q v q):Has M Q:=fun v=>⟨⟨fun k=>by obtain⟨x,hx⟩:=(h v).1.1 k;exact⟨x,(e v x).1 hx⟩,fun⟨x,hx⟩=>(h v).1.2 ⟨x,(e v x).2 hx⟩⟩,fun q hq=>(h v).2 q ((e v q).2 hq)⟩
def EO(n:ak)(v:Int)(q:Nat):Prop:=∃l,n.ag[q]?=some l/\l.var=v
def sk(n:ak)(v:Int)(q:Nat):Prop:=∃M,n.ae[q]?=some M/\v∈fv M
section
variable{n:ak}{V:Nat}(hs:bR n V)
include hs
theorem ale(hi:n.ag[i]?=some l)(hj:n.ag[j]?=some l')(e:l.var=l'.var):i=j:=by
 have hn:=hs.nodup;unfold aX at hn;simp only[bB]at hn;rw[rx]at hn;have h2:=hn.2.1;rw[rx]at h2;have key:=asb.1 (arN.1 h2.1)
 grind
variable(ft:Fit n)(h0:cZ n=0)(ha:dT (aY n) V=true)
include ft h0 ha
theorem ajM{lm mm:ib}(hlm:Has lm (EO n))(hmm:Has mm (sk n))(I:PI n V m ms left)(ht:todo m left<=10000) :
  ∃m' ms',U9 (vk n m ms left lm mm)=some (fg n m' ms' [] lm mm)/\PI n V m' ms' []/\∀p,On m p->On m' p:=by
 have hV2:=hs.v2;have e1:∃o,Va (fg n m ms left lm mm)=some o/\∃m' ms',o=fg n m' ms' [] lm mm/\PI n V m' ms' []/\∀p,On m p->On m' p:=by
  unfold Va;delta kI u1 bM bX;refine kp (fun d=>∃(m' ms':md) (left':jp),d=fg n m' ms' left' lm mm/\PI n V m' ms' left'/\todo m' left'<=10000/\∀p,On m p->On m' p) _ (fun d=>todo d.2.2.2.2.2.2.2.2.1 d.2.2.2.2.2.2.2.2.2.2.2.2.1) ?_ NN _ ⟨m,ms,left,rfl,I,ht,fun _ h=>h⟩ (cp (by show todo m left<=_;omega));rintro d ⟨m1,ms1,left1,rfl,I1,ht1,up1⟩;unfold fg nt
  try dsimp only
  unfold Kx;have hll:left1.length<=10000:=by unfold todo at ht1;omega
  rcases List.eq_nil_or_concat left1 with rfl|⟨L0,x,rfl⟩
  .left;rw[cE (aF (by show ¬(0:Int)<((0:Nat):Int);omega))];exact⟨_,rfl,m1,ms1,rfl,I1,up1⟩
  .rw[List.concat_eq_append]at I1 ht1 hll |-;obtain⟨x1,x2,x3⟩:=I1.oC x atQ;obtain⟨v,hv⟩:=BY (show 0<=x by omega);have hv:x=(v:Int):=hv;subst hv;have hlen:(L0++[(v:Int)]).length=L0.length+1:=atQ
   have K:=I1.pop;have htd:todo m1 L0+1=todo m1 (L0++[(v:Int)]):=by unfold todo;rw[hlen];omega
   have ew:qr ((Int.ofNat (List.length (L0++[(v:Int)])))-(1:Int))=((L0.length:Nat):Int):=by rw[hlen];exact cH (x:=Int.ofNat (L0.length+1)-1) (by rw[hlen]at hll;show -9223372036854775808<=(((L0.length+1:Nat):Int)-1)/\(((L0.length+1:Nat):Int)-1)<=9223372036854775807;omega) |>.trans (by show(((L0.length+1:Nat):Int)-1)=_;omega)
   have eg0:(L0++[(v:Int)])[L0.length]?=some (v:Int):=by rw[WF (rt _),Nat.sub_self];rfl
   have eg:gt .I (L0++[(v:Int)]) ((L0.length:Nat):Int)=(v:Int):=bI (σ:=.I) eg0;rw[dc (aD (by rw[hlen];show(0:Int)<((L0.length+1:Nat):Int);omega)),ew,eg];simp only[Ne,Nat.sub_zero,atw];rw[bH (aU ⟨atO,by rw[hlen];omega⟩)];refine(fun{R:Prop}(h:R)=>h) ?_;have ck:both (iE (0:Int) ((L0.length:Nat):Int)) (iE ((L0.length:Nat):Int) (Int.ofNat (List.length (L0++[(v:Int)]))))=true:=by have e1:iE (0:Int) ((L0.length:Nat):Int)=true:=atW;have e2:iE ((L0.length:Nat):Int) (Int.ofNat (List.length (L0++[(v:Int)])))=true:=aD (by rw[hlen];show((L0.length:Nat):Int)<=((L0.length+1:Nat):Int);omega);rw[e1,e2];rfl
   rw[bH ck];right;cases q1:@j5 .I lm (v:Int)with
   |true=>
    obtain⟨i,l,hi,hlv⟩:=(hlm (v:Int)).1.1 q1;have hg:=(hlm (v:Int)).2 i ⟨l,hi,hlv⟩;have hlm2:=dy hi;have hil:=(ut.1 hi).1;have hi':(n.ag.map bq)[i]?=some (bq l):=by rw[ct,hi];rfl
    have hlr:=hs.lits l.next (by unfold bJ;simp only[rc,ro];exact .inl (.inl (.inl (.inl (.inl ⟨l,hlm2,rfl⟩)))));obtain⟨m2,l2,e2,R⟩:=yk hs ft h0 ha (ls:=[l.next]) (fun y hy=>by rw[NE.1 hy];exact hlr) atQ K.len K.iV ms1 (left:=L0) atO lm mm;have I2:=K.aJ hs hlm2 hlv (fun l' h' e'=>aj5 hs h' hlm2 (e'.trans hlv.symm)) (fun M hM=>by rw[<-hlv];exact aj4 hs hlm2 hM) R;refine⟨fg n m2 ms1 l2 lm mm,?_,⟨m2,ms1,l2,rfl,I2,by have:=R.todo;omega,fun p h=>(R.on p).2 (.inl (up1 p h))⟩,?_⟩
    .rw[dc rfl,hg,bH (aU ⟨atO,by rw[aP];omega⟩),bI hi'];have e2':∀T:jp,T=L0->rP ([l.next],vk n m1 ms1 T lm mm)=some (fg n m2 ms1 l2 lm mm):=by rintro _ rfl;exact e2
     exact(bS (e2' _ atw)).trans rfl
    .show todo m2 l2<todo m1 (L0++[(v:Int)]);have:=R.todo;omega
   |false=>
    have no1:∀l∈n.ag,l.var≠(v:Int):=fun l hl e=>by obtain⟨i,hi⟩:=Fr hl;have:=(hlm (v:Int)).1.2 ⟨i,l,hi,e⟩;rw[q1]at this;cases this
    cases q2:@j5 .I mm (v:Int)with
    |true=>
     obtain⟨j,M,hj,hMv⟩:=(hmm (v:Int)).1.1 q2;have hg:=(hmm (v:Int)).2 j ⟨M,hj,hMv⟩;have one:∀(i:Nat) (M':cf),n.ae[i]?=some M'->(v:Int)∈fv M'->i=j:=fun i M' hi h'=>Yw hs hi hj h' hMv;cases q3:ms1.getD j false with
     |true=>
      have I2:=K.alo no1 one (show On ms1 j from q3);refine⟨fg n m1 ms1 L0 lm mm,?_,⟨m1,ms1,L0,rfl,I2,atO,up1⟩,?_⟩
      .rw[cE rfl,dc rfl,hg];have em:xK ((j:Int),vk n m1 ms1 L0 lm mm)=some (fg n m1 ms1 L0 lm mm):=by show xM rP xL vq (j:Int) n.vars n.al (n.ag.map bq) n.aZ n.aN n.constraints (n.ae.map aI) (n.aj.map bc) m1 ms1 L0 lm mm=_;unfold xM;have hjl:=(ut.1 hj).1;exact(bH (aU ⟨atO,by rw[K.mQ];omega⟩)).trans ((dc (show gt .bool ms1 (j:Int)=true from q3)).trans rfl)
       have em':∀T:jp,T=L0->xK ((j:Int),vk n m1 ms1 T lm mm)=some (fg n m1 ms1 L0 lm mm):=by rintro _ rfl;exact em
       exact(bS (em' _ atw)).trans rfl
      .show todo m1 L0<todo m1 (L0++[(v:Int)]);omega
     |false=>
      have J:=K.akg no1 hj hMv one;have hp:iD n v:=K.kY.h1 v K.on;obtain⟨m2,l2,e2,I2,t2,up2⟩:=ahP hs ft h0 ha hj q3 J (fun l hl h=>.step hp (.mem (dy hj) hMv hl) h) atO lm mm;refine⟨fg n m2 (ms1.set j true) l2 lm mm,?_,⟨m2,_,l2,rfl,I2,atO,fun p h=>up2 p (up1 p h)⟩,?_⟩
      .rw[cE rfl,dc rfl,hg];have e2':∀T:jp,T=L0->xK ((j:Int),vk n m1 ms1 T lm mm)=some (fg n m2 (ms1.set j true) l2 lm mm):=by rintro _ rfl;exact e2
       exact(bS (e2' _ atw)).trans rfl
      .show todo m2 l2<todo m1 (L0++[(v:Int)]);omega
    |false=>
     have no2:∀M∈n.ae,(v:Int)∉fv M:=fun M hM h=>by obtain⟨j,hj⟩:=Fr hM;have:=(hmm (v:Int)).1.2 ⟨j,M,hj,h⟩;rw[q2]at this;cases this
     refine⟨fg n m1 ms1 L0 lm mm,?_,⟨m1,ms1,L0,rfl,K.none no1 no2,atO,up1⟩,?_⟩
     .rw[cE rfl,cE rfl];have fin:∀T:jp,T=L0->(atY (fg n m1 ms1 T lm mm):am BQ BN)=atY (fg n m1 ms1 L0 lm mm):=by rintro _ rfl;rfl
      exact fin _ atw
     .show todo m1 L0<todo m1 (L0++[(v:Int)]);omega
 obtain⟨o,e1,m2,ms2,rfl,I2,up2⟩:=e1;exact⟨m2,ms2,(bS e1).trans rfl,I2,up2⟩
end
section
variable{n:ak}{V:Nat}(hs:bR n V)(ft:Fit n)(h0:cZ n=0)(ha:dT (aY n) V=true)
include hs ft h0 ha
theorem aiS(m ms:md):∃lm:ib,xV (n.ag.map bq,(n.ag.length:Int),(0:Int),nt n (nt n (m,ms,[],[],())))=some (nt n (nt n (m,ms,lm,[],())))/\Has lm (EO n):=by
 have h:∃o,xV (n.ag.map bq,(n.ag.length:Int),(0:Int),nt n (nt n (m,ms,[],[],())))=some o/\∃lm:ib,o=nt n (nt n (m,ms,lm,[],()))/\Has lm (EO n):=by
  have hll:=hs.lens.2.1;unfold xV;delta rO vm bM bX;refine kp (fun d=>∃(k:Nat) (lm:ib),k<=n.ag.length/\d=(n.ag.map bq,(n.ag.length:Int),(k:Int),nt n (nt n (m,ms,lm,[],())))/\Has lm (fun v q=>q<k/\EO n v q)) _ (fun d=>n.ag.length-d.2.2.1.toNat) ?_ NN _ ⟨0,[],GT _,rfl,Has.nil.iff fun v q=>⟨fun h=>h.elim,fun h=>atO⟩⟩ (cp (by show n.ag.length-0<=_;omega));rintro d ⟨k,lm,hk,rfl,hH⟩;unfold nt
  try dsimp only
  unfold Lj;by_cases hlt:k<n.ag.length
  .have hg:=ba hlt;obtain⟨l,hl⟩:∃l,l=n.ag[k]:=⟨_,rfl⟩;rw[<-hl]at hg;have hg':(n.ag.map bq)[k]?=some (bq l):=by rw[ct,hg];rfl
   rw[dc atW,bH (aU ⟨atO,by rw[aP];omega⟩),bI hg'];right;have hP:=hH.put (k:=l.var) (j:=k) fun q hq=>by obtain⟨_,l',h1,h2⟩:=hq;exact ale hs h1 hg h2
   refine⟨(n.ag.map bq,(n.ag.length:Int),((k+1:Nat):Int),nt n (nt n (m,ms,@fF .I l.var (k:Int) lm,[],()))),?_,⟨k+1,_,hlt,rfl,hP.iff fun v q=>?_⟩,?_⟩
   .have e:∀b b':Int,b=b'->(atY (n.ag.map bq,(n.ag.length:Int),b,nt n (nt n (m,ms,@fF .I l.var (k:Int) lm,[],()))):am CJ Cq)=atY (n.ag.map bq,(n.ag.length:Int),b',nt n (nt n (m,ms,@fF .I l.var (k:Int) lm,[],()))):=by rintro _ _ rfl;rfl
    exact e _ _ (cH (x:=(k:Int)+1) atO)
   .constructor
    .rintro(⟨h1,h2⟩|⟨rfl,rfl⟩)
     .exact⟨atO,h2⟩
     .exact⟨atO,l,hg,rfl⟩
    .rintro⟨h1,l',h2,h3⟩;by_cases q2:q<k
     .exact .inl ⟨q2,l',h2,h3⟩
     .obtain rfl:q=k:=atO
      rw[hg]at h2;cases h2;exact .inr ⟨h3.symm,rfl⟩
   .show n.ag.length-((k+1:Nat):Int).toNat<n.ag.length-(k:Int).toNat;omega
  .left;rw[cE atV];exact⟨_,rfl,lm,rfl,hH.iff fun v q=>⟨fun h=>h.2,fun h=>⟨by obtain⟨l,h1,_⟩:=h;have:=(ut.1 h1).1;omega,h⟩⟩⟩
 obtain⟨o,h1,lm,rfl,h2⟩:=h;exact⟨lm,h1,h2⟩
abbrev lD(n:ak)(m ms:md)(lm mm:ib)(M:cf):=nt n (nt n (m,ms,lm,mm,aI M))
theorem ah8(m ms:md)(lm mm:ib){M:cf}(hH:Has mm P)(D:jp)(hD:D.length<=100000)(hP:∀v∈D,∀q,P v q->q=j)(a c d:Int)(b:List ah.T)(e:Int) :
  ∃mm':ib,xT ((j:Int),b,a,c,d,e,D,(D.length:Int),(0:Int),lD n m ms lm mm M)=some ((j:Int),b,a,c,d,e,lD n m ms lm mm' M)/\Has mm' (fun v q=>P v q\/(v∈D/\q=j)):=by
 have h:∃o,xT ((j:Int),b,a,c,d,e,D,(D.length:Int),(0:Int),lD n m ms lm mm M)=some o/\∃mm':ib,o=((j:Int),b,a,c,d,e,lD n m ms lm mm' M)/\Has mm' (fun v q=>P v q\/(v∈D/\q=j)):=by
  unfold xT;delta mw vl bM bX;refine kp (fun x=>∃(k:Nat) (mm':ib),k<=D.length/\x=((j:Int),b,a,c,d,e,D,(D.length:Int),(k:Int),lD n m ms lm mm' M)/\Has mm' (fun v q=>P v q\/(v∈D.take k/\q=j))) _ (fun x=>D.length-x.2.2.2.2.2.2.2.2.1.toNat) ?_ NN _ ⟨0,mm,GT _,rfl,hH.iff fun v q=>atQ⟩ (cp (by show D.length-0<=_;omega));rintro x ⟨k,mm1,hk,rfl,hH1⟩;unfold lD nt aI
  try dsimp only
  unfold K3;by_cases hlt:k<D.length
  .have hg:=ba hlt;rw[dc atW,bH atT,bI (σ:=.I) hg];right;have hP2:=hH1.put (k:=D[k]) (j:=j) fun q hq=>by
    rcases hq with hq|⟨_,rfl⟩
    .exact hP _ (By hlt) q hq
    .rfl
   refine⟨((j:Int),b,a,c,d,e,D,(D.length:Int),((k+1:Nat):Int),lD n m ms lm (@fF .I D[k] (j:Int) mm1) M),?_,⟨k+1,_,hlt,rfl,hP2.iff fun v q=>?_⟩,?_⟩
   .have e':∀y y':Int,y=y'->(atY ((j:Int),b,a,c,d,e,D,(D.length:Int),y,lD n m ms lm (@fF .I D[k] (j:Int) mm1) M):am Cp Ce)=atY ((j:Int),b,a,c,d,e,D,(D.length:Int),y',lD n m ms lm (@fF .I D[k] (j:Int) mm1) M):=by rintro _ _ rfl;rfl
    exact e' _ _ (cH (x:=(k:Int)+1) atO)
   .rw[eE hg]
    grind
   .show D.length-((k+1:Nat):Int).toNat<D.length-(k:Int).toNat;omega
  .left;have hk2:k=D.length:=atO
   rw[hk2,eX]at hH1;rw[cE atV];exact⟨_,rfl,mm1,rfl,hH1⟩
 obtain⟨o,h1,mm',rfl,h2⟩:=h;exact⟨mm',h1,h2⟩
theorem ah7(m ms:md)(lm mm:ib){M:cf}(hM:n.ae[j]?=some M)(hH:Has mm (fun v q=>q<j/\sk n v q))(a:Int)(b:List ah.T) :
  ∃mm':ib,vv ((j:Int),b,a,(j:Int),(M.reads.length:Int),(0:Int),lD n m ms lm mm M)=some (b,a,(j:Int),nt n (nt n (m,ms,lm,mm',())))/\Has mm' (fun v q=>q<j+1/\sk n v q):=by
 have hMm:=dy hM;have hfm:=ft.ae.2 M hMm;have hsm:=hs.ae M hMm;have h:∃o,vv ((j:Int),b,a,(j:Int),(M.reads.length:Int),(0:Int),lD n m ms lm mm M)=some o/\∃mm':ib,o=(b,a,(j:Int),nt n (nt n (m,ms,lm,mm',())))/\Has mm' (fun v q=>q<j+1/\sk n v q):=by
  unfold vv;delta rN u7 bM bX;refine kp (fun x=>∃(k:Nat) (mm':ib),k<=M.reads.length/\x=((j:Int),b,a,(j:Int),(M.reads.length:Int),(k:Int),lD n m ms lm mm' M)/\Has mm' (fun v q=>(q<j/\sk n v q)\/(v∈(M.reads.take k).flatMap (fun r=>bZ r.var M.word.toNat)/\q=j))) _ (fun x=>M.reads.length-x.2.2.2.2.2.1.toNat) ?_ NN _ ⟨0,mm,GT _,rfl,hH.iff fun v q=>atQ⟩ (cp (by show M.reads.length-0<=_;have:=hfm.nH;omega));rintro x ⟨k,mm1,hk,rfl,hH1⟩;unfold lD nt aI
  try dsimp only
  unfold KZ;have hrn:=hfm.nH;by_cases hlt:k<M.reads.length
  .have hg:=ba hlt;obtain⟨r,hr⟩:∃r,r=M.reads[k]:=⟨_,rfl⟩;have hrm:=By hlt;rw[<-hr]at hg hrm;have hfr:=hfm.ig r hrm;have e0:=N5 M k r hg ⟨atO,hfm.word.2⟩ ⟨hfr.2.1,hfr.2.2.1⟩;obtain⟨mm2,e14,hH2⟩:=ah8 hs ft h0 ha m ms lm mm1 (M:=M) (j:=j) hH1 (bZ r.var M.word.toNat) (by rw[AB];have:=hfm.word.2;omega) (fun v hv q hq=>by
    rcases hq with⟨h1,M',h2,h3⟩|⟨_,h⟩
    .exact Yw hs h2 hM h3 (rg.2 ⟨r,hrm,hv⟩)
    .exact h) a (j:Int) (M.reads.length:Int) b (k:Int)
   rw[dc atW];right;refine⟨((j:Int),b,a,(j:Int),(M.reads.length:Int),((k+1:Nat):Int),lD n m ms lm mm2 M),?_,⟨k+1,mm2,hlt,rfl,hH2.iff fun v q=>?_⟩,?_⟩
   .refine(bS e0).trans ((bS e14).trans ?_);have e':∀y y':Int,y=y'->(atY ((j:Int),b,a,(j:Int),(M.reads.length:Int),y,lD n m ms lm mm2 M):am Co Cd)=atY ((j:Int),b,a,(j:Int),(M.reads.length:Int),y',lD n m ms lm mm2 M):=by rintro _ _ rfl;rfl
    exact e' _ _ (cH (x:=(k:Int)+1) atO)
   .rw[eE hg,OF,AT,arZ,d6,rc];constructor
    .rintro((h|⟨h1,h2⟩)|⟨h1,h2⟩)
     .exact .inl h
     .exact .inr ⟨.inl h1,h2⟩
     .exact .inr ⟨.inr h1,h2⟩
    .rintro(h|⟨h1|h1,h2⟩)
     .exact .inl (.inl h)
     .exact .inl (.inr ⟨h1,h2⟩)
     .exact .inr ⟨h1,h2⟩
   .show M.reads.length-((k+1:Nat):Int).toNat<M.reads.length-(k:Int).toNat;omega
  .left;have hk2:k=M.reads.length:=atO
   rw[hk2,eX]at hH1;rw[cE atV];refine⟨_,rfl,mm1,rfl,hH1.iff fun v q=>⟨?_,?_⟩⟩
   .rintro(⟨h1,h2⟩|⟨h1,rfl⟩)
    .exact⟨atO,h2⟩
    .exact⟨atO,M,hM,h1⟩
   .rintro⟨h1,M',h2,h3⟩;by_cases q2:q<j
    .exact .inl ⟨q2,M',h2,h3⟩
    .obtain rfl:q=j:=atO
     rw[hM]at h2;cases h2;exact .inr ⟨h3,rfl⟩
 obtain⟨o,h1,mm',rfl,h2⟩:=h;exact⟨mm',h1,h2⟩
theorem aiT(m ms:md)(lm:ib):∃mm:ib,xW (n.ae.map aI,(n.ae.length:Int),(0:Int),nt n (nt n (m,ms,lm,[],())))=some (nt n (nt n (m,ms,lm,mm,())))/\Has mm (sk n):=by
 have h:∃o,xW (n.ae.map aI,(n.ae.length:Int),(0:Int),nt n (nt n (m,ms,lm,[],())))=some o/\∃mm:ib,o=nt n (nt n (m,ms,lm,mm,()))/\Has mm (sk n):=by
  have hll:=hs.lens.2.2.2.2;unfold xW;delta rO vm bM bX;refine kp (fun d=>∃(k:Nat) (mm:ib),k<=n.ae.length/\d=(n.ae.map aI,(n.ae.length:Int),(k:Int),nt n (nt n (m,ms,lm,mm,())))/\Has mm (fun v q=>q<k/\sk n v q)) _ (fun d=>n.ae.length-d.2.2.1.toNat) ?_ NN _ ⟨0,[],GT _,rfl,Has.nil.iff fun v q=>⟨fun h=>h.elim,fun h=>atO⟩⟩ (cp (by show n.ae.length-0<=_;omega));rintro d ⟨k,mm,hk,rfl,hH⟩;unfold nt
  try dsimp only
  unfold Lk;by_cases hlt:k<n.ae.length
  .have hg:=ba hlt;obtain⟨M,hM⟩:∃M,M=n.ae[k]:=⟨_,rfl⟩;rw[<-hM]at hg;have hg':(n.ae.map aI)[k]?=some (aI M):=by rw[ct,hg];rfl
   obtain⟨mm2,e11,hH2⟩:=ah7 hs ft h0 ha m ms lm mm hg hH (n.ae.length:Int) (n.ae.map aI);rw[dc atW,bH (aU ⟨atO,by rw[aP];omega⟩),bI hg'];right;refine⟨(n.ae.map aI,(n.ae.length:Int),((k+1:Nat):Int),nt n (nt n (m,ms,lm,mm2,()))),?_,⟨k+1,mm2,hlt,rfl,hH2⟩,?_⟩
   .have e11':∀z:Int,z=(M.reads.length:Int)->vv ((k:Int),n.ae.map aI,(n.ae.length:Int),(k:Int),z,(0:Int),lD n m ms lm mm M)=some (n.ae.map aI,((n.ae.length:Int),(k:Int),nt n (nt n (m,ms,lm,mm2,()))) ):=by rintro _ rfl;exact e11
    refine(bS (e11' _ (by show((List.length (M.reads.map fC):Nat):Int)=_;rw[aP]))).trans ?_;have e:∀b b':Int,b=b'->(atY (n.ae.map aI,(n.ae.length:Int),b,nt n (nt n (m,ms,lm,mm2,()))):am CK Cr)=atY (n.ae.map aI,(n.ae.length:Int),b',nt n (nt n (m,ms,lm,mm2,()))):=by rintro _ _ rfl;rfl
    exact e _ _ (cH (x:=(k:Int)+1) atO)
   grind
  .left;rw[cE atV];exact⟨_,rfl,mm,rfl,hH.iff fun v q=>⟨fun h=>h.2,fun h=>⟨by obtain⟨l,h1,_⟩:=h;have:=(ut.1 h1).1;omega,h⟩⟩⟩
 obtain⟨o,h1,lm,rfl,h2⟩:=h;exact⟨lm,h1,h2⟩
theorem ahN:∃(s:S2) (lm mm:ib),Lm (nt n ())=some (nt n (s.1,s.2,[],lm,mm,()))/\iZ n V s:=by
 have hV2:=hs.v2;have hvars:=hs.vars;obtain⟨lens1,lens2,lens3,lens4,lens5⟩:=hs.lens;obtain⟨m0,hm0⟩:∃m0,m0=List.replicate (V+1) false:=⟨_,rfl⟩;obtain⟨ms0,hms0⟩:∃ms0,ms0=List.replicate n.ae.length false:=⟨_,rfl⟩;obtain⟨lm,e3,hlm⟩:=aiS hs ft h0 ha m0 ms0;obtain⟨mm,e8,hmm⟩:=aiT hs ft h0 ha m0 ms0 lm;have I0:PI n V m0 ms0 []:=by rw[hm0,hms0];exact pi0
 have t0:todo m0 []<=10000:=by
  unfold todo
  grind
 have hb:∀l∈n.aN++n.constraints,0<=l/\l / 2<=(V:Int):=fun l hl=>hs.lits l (by
  unfold bJ;simp only[rc]at hl |-;rcases hl with h|h
  .exact .inl (.inl (.inl (.inr h)))
  .exact .inl (.inl (.inr h)))
 obtain⟨m1,l1,e1,R1⟩:=yk hs ft h0 ha (ls:=n.aN) (fun l hl=>hb l (AC _ hl)) atO I0.len I0.iV ms0 t0 lm mm;have I1:=I0.mark R1 fun l hl h=>.base (AC _ hl) h;obtain⟨m2,l2,e2,R2⟩:=yk hs ft h0 ha (ls:=n.constraints) (fun l hl=>hb l (EQ _ hl)) atO I1.len I1.iV ms0 (left:=l1) (by rw[R1.todo];exact t0) lm mm;have I2:=I1.mark R2 fun l hl h=>.base (EQ _ hl) h;obtain⟨m3,ms3,ea,I3,up⟩:=ajM hs ft h0 ha hlm hmm I2 (by rw[R2.todo,R1.todo];exact t0);refine⟨(m3,ms3),lm,mm,?_,I3.full fun l hl h=>up _ ?_⟩
 .show Ly Az U9 rP xV xW vv xT n.vars n.al (n.ag.map bq) n.aZ n.aN n.constraints (n.ae.map aI) (n.aj.map bc)=_;unfold Ly;have w1:qr (n.vars+1)=((V+1:Nat):Int):=by rw[hvars];exact atX
  have hml:(List.length (n.ae.map aI))=n.ae.length:=aP ..;rw[w1,hml,bH (vR atW (aD (asQ _)) (aD (by rw[show(Int.ofNat 1:Int)=1 from rfl];omega))),bH (vR (aD (by show(0:Int)<=((n.ae.length:Nat):Int);omega)) (aD (asQ _)) (aD (by show(1:Int)*((n.ae.length:Nat):Int)<=281474976710656;omega)))];have e3':∀(z:Int) (a b:md),z=(n.ag.length:Int)->a=m0->b=ms0->xV (n.ag.map bq,z,(0:Int),nt n (nt n (a,b,[],[],())))=some (nt n (nt n (m0,ms0,lm,[],()))):=by rintro _ _ _ rfl rfl rfl;exact e3
  have e8':∀z:Int,z=(n.ae.length:Int)->xW (n.ae.map aI,z,(0:Int),nt n (nt n (m0,ms0,lm,[],())))=some (nt n (nt n (m0,ms0,lm,mm,()))):=by rintro _ rfl;exact e8
  refine(bS (e3' _ _ _ (by show((List.length (n.ag.map bq):Nat):Int)=_;rw[aP]) (by rw[hm0];rfl) (by rw[hms0];rfl))).trans ?_;refine(bS (e8' _ (by show((List.length (n.ae.map aI):Nat):Int)=_;rw[aP]))).trans ?_;refine(bS e1).trans ((bS e2).trans ((bS ea).trans rfl))
 .rcases rc.1 hl with hl|hl
  .exact(R2.on _).2 (.inl ((R1.on _).2 (.inr (.base hl h))))
  .exact(R2.on _).2 (.inr (.base hl h))
end
def cJ(L:mt):jp:=L.map fun v:Nat=>(v:Int)
theorem vN{L:mt}{k:Nat}(h:L[k]?=some i):(cJ L)[k]?=some (i:Int):=by unfold cJ;grind
theorem kK(L:mt):(cJ L).length=L.length:=aP _
variable{α:Type}
theorem qF(L:List α)(p:Nat->Bool):(qS L p).length<=L.length:=by
 unfold qS
 grind
theorem nK{L:List α}{p:Nat->Bool}(h:i∈qS L p):i<L.length:=Id.1 (arg.1 h).1
abbrev stM{α:Type}(n:ak)(s:S2)(lm mm:ib)(r:α):=nt n (s.1,s.2,([]:jp),lm,mm,r)
section
variable{n:ak}{V:Nat}(hs:bR n V){s:S2}(M:iZ n V s)(lm mm:ib)
include hs M
theorem al2(hi:i<n.al.length):∃v:Nat,n.al[i]?=some (v:Int)/\1<=v/\v<=V:=by
 have h:=hs.dY n.al[i] (by unfold aX;grind);obtain⟨v,hv⟩:=BY (show 0<=n.al[i] by omega)
 grind
theorem ahu:KS ((n.al.length:Int),stM n s lm mm (nt n ()))=some (stM n s lm mm (nt n (cJ (dm n s),()))):=by
 have hml:=M.l1;have hl:=hs.lens.1;have hv2:=hs.v2;have e:VA ((n.al.length:Int),(0:Int),stM n s lm mm (nt n (([]:jp),())))=some (stM n s lm mm (nt n (cJ (dm n s),()))):=by
  unfold VA;delta qA bM bX;refine d9 (fun k:Nat=>((n.al.length:Int),(k:Int),stM n s lm mm (nt n (cJ ((List.range k).filter fun i=>kv s (n.al.getD i 0)),())))) n.al.length rfl ?_ ?_ atU
  .intro k hk;unfold stM nt
   try dsimp only
   unfold CL;obtain⟨v,hg,v1,v2⟩:=al2 hs M hk;have hgd:n.al.getD k 0=(v:Int):=by rw[eu,hg];rfl
   have ek:qr ((k:Int)+1)=((k+1:Nat):Int):=atX;have fin:∀(b b':Int) (L L':jp),b=b'->L=L'->(atY ((n.al.length:Int),b,stM n s lm mm (nt n (L,()))):am Cf B3)=atY ((n.al.length:Int),b',stM n s lm mm (nt n (L',()))):=by rintro _ _ _ _ rfl rfl;rfl
   rw[dc atW,bH atT,bI (σ:=.I) hg,bH atT];have hln:(cJ ((List.range k).filter fun i=>kv s (n.al.getD i 0))).length<=100000000:=by
    rw[kK]
    grind
   cases q:s.1.getD v false with
   |true=>
    have qk:kv s (n.al.getD k 0)=true:=by unfold kv;rw[hgd];exact q
    rw[dc (show gt .bool s.1 (v:Int)=true from q),bH (lM hln atO)];exact fin _ _ _ _ ek (yJ (p:=fun i=>kv s (n.al.getD i 0)) qk).symm
   |false=>
    have qk:kv s (n.al.getD k 0)=false:=by unfold kv;rw[hgd];exact q
    rw[cE (show gt .bool s.1 (v:Int)=false from q)];exact fin _ _ _ _ ek (yI (p:=fun i=>kv s (n.al.getD i 0)) qk).symm
  .unfold stM nt
   try dsimp only
   unfold CL;rw[cE atV];rfl
 exact(bS e).trans rfl
theorem ahv:CN ((n.ag.length:Int),stM n s lm mm (nt n ()))=some (stM n s lm mm (nt n (cJ (de n s),()))):=by
 have hml:=M.l1;have hl:=hs.lens.2.1;have hv2:=hs.v2;have e:VD ((n.ag.length:Int),(0:Int),stM n s lm mm (nt n (([]:jp),())))=some (stM n s lm mm (nt n (cJ (de n s),()))):=by
  unfold VD;delta qA bM bX;refine d9 (fun k:Nat=>((n.ag.length:Int),(k:Int),stM n s lm mm (nt n (cJ ((List.range k).filter fun i=>kv s (n.ag.getD i lT).var),())))) n.ag.length rfl ?_ ?_ atU
  .intro k hk;unfold stM nt
   try dsimp only
   unfold CM;have hg:=ba hk;obtain⟨l,hl2⟩:∃l,l=n.ag[k]:=⟨_,rfl⟩;rw[<-hl2]at hg;have hg':(n.ag.map bq)[k]?=some (bq l):=by rw[ct,hg];rfl
   have hr:=hs.dY l.var (by unfold aX;grind);obtain⟨v,hv⟩:=BY (show 0<=l.var by omega);have hv:l.var=(v:Int):=hv;have hv':(bq l).1=(v:Int):=hv;have hgd:(n.ag.getD k lT).var=(v:Int):=by rw[eu,hg];exact hv
   have ek:qr ((k:Int)+1)=((k+1:Nat):Int):=atX;have fin:∀(b b':Int) (L L':jp),b=b'->L=L'->(atY ((n.ag.length:Int),b,stM n s lm mm (nt n (L,()))):am Cg B5)=atY ((n.ag.length:Int),b',stM n s lm mm (nt n (L',()))):=by rintro _ _ _ _ rfl rfl;rfl
   rw[dc atW,bH (aU ⟨atO,by rw[aP];omega⟩),bI hg',hv',bH atT];have hln:(cJ ((List.range k).filter fun i=>kv s (n.ag.getD i lT).var)).length<=100000000:=by
    rw[kK]
    grind
   cases q:s.1.getD v false with
   |true=>
    have qk:kv s (n.ag.getD k lT).var=true:=by unfold kv;rw[hgd];exact q
    rw[dc (show gt .bool s.1 (v:Int)=true from q),bH (lM hln atO)];exact fin _ _ _ _ ek (yJ (p:=fun i=>kv s (n.ag.getD i lT).var) qk).symm
   |false=>
    have qk:kv s (n.ag.getD k lT).var=false:=by unfold kv;rw[hgd];exact q
    rw[cE (show gt .bool s.1 (v:Int)=false from q)];exact fin _ _ _ _ ek (yI (p:=fun i=>kv s (n.ag.getD i lT).var) qk).symm
  .unfold stM nt
   try dsimp only
   unfold CM;rw[cE atV];rfl
 exact(bS e).trans rfl
theorem ahw:CP ((n.ae.length:Int),stM n s lm mm ())=some (stM n s lm mm (cJ (cL n s),())):=by
 have hml:=M.l2;have hl:=hs.lens.2.2.2.2;have e:VG ((n.ae.length:Int),(0:Int),stM n s lm mm (([]:jp),()))=some (stM n s lm mm (cJ (cL n s),())):=by
  unfold VG;delta u16 u4 bM bX;refine d9 (fun k:Nat=>((n.ae.length:Int),(k:Int),stM n s lm mm (cJ ((List.range k).filter fun i=>s.2.getD i false),()))) n.ae.length rfl ?_ ?_ atU
  .intro k hk;unfold stM nt
   try dsimp only
   unfold CO;have ek:qr ((k:Int)+1)=((k+1:Nat):Int):=atX;have fin:∀(b b':Int) (L L':jp),b=b'->L=L'->(atY ((n.ae.length:Int),b,stM n s lm mm (L,())):am Ch B6)=atY ((n.ae.length:Int),b',stM n s lm mm (L',())):=by intros;subst_vars;rfl
   rw[dc atW,bH atT];have hln:(cJ ((List.range k).filter fun i=>s.2.getD i false)).length<=100000000:=by
    rw[kK]
    grind
   cases q:s.2.getD k false with|true=>rw[dc (show gt .bool s.2 (k:Int)=true from q),bH (lM hln atO)];exact fin _ _ _ _ ek (yJ (p:=fun i=>s.2.getD i false) q).symm|false=>rw[cE (show gt .bool s.2 (k:Int)=false from q)];exact fin _ _ _ _ ek (yI (p:=fun i=>s.2.getD i false) q).symm
  .unfold stM nt
   try dsimp only
   unfold CO;rw[cE atV];rfl
 exact(bS e).trans rfl
abbrev gY{α:Type}(n:ak)(s:S2)(lm mm:ib)(r:α):=nt n ((0:Int),cJ (dm n s),cJ (de n s),cJ (cL n s),stM n s lm mm (n.vars,n.aN,n.constraints,r))
theorem al9:xZ (((dm n s).length:Int),(0:Int),gY n s lm mm (([]:jp),()))=some (gY n s lm mm ((bV n s).al,())):=by
 have hl:=hs.lens.1;have hil:(dm n s).length<=n.al.length:=qF _ _;have he:(bV n s).al=(dm n s).map fun i=>n.al.getD i 0:=(DC n.al 0 (kv s)).symm;rw[he];unfold xZ;delta rN u7 bM bX;refine d9 (fun k:Nat=>(((dm n s).length:Int),(k:Int),gY n s lm mm (((dm n s).take k).map (fun i=>n.al.getD i 0),()))) (dm n s).length rfl ?_ ?_ atU
 .intro k hk;unfold gY stM nt
  try dsimp only
  unfold Dy;have hg:=ba hk;obtain⟨i,hi⟩:∃i,i=(dm n s)[k]:=⟨_,rfl⟩;rw[<-hi]at hg;have bz:=nK (dy hg);have hg':=vN hg;have ek:qr ((k:Int)+1)=((k+1:Nat):Int):=atX;have fin:∀(b b':Int) (L L':jp),b=b'->L=L'->(atY (((dm n s).length:Int),b,gY n s lm mm (L,())):am Dl Dc)=atY (((dm n s).length:Int),b',gY n s lm mm (L',())):=by rintro _ _ _ _ rfl rfl;rfl
  rw[dc atW,bH (aU ⟨atO,by rw[kK];omega⟩),bI (σ:=.I) hg',bH atT];refine(bH (lM (by rw[aP,fx];omega) atO)).trans ?_;exact fin _ _ _ _ ek (by rw[eE hg,d7];rfl)
 .unfold gY stM nt
  try dsimp only
  unfold Dy;rw[cE atV,eX];rfl
theorem ama(I:jp):ya (((de n s).length:Int),(0:Int),gY n s lm mm (I,([]:List af.T),()))=some (gY n s lm mm (I,(bV n s).ag.map bq,())):=by
 have hl:=hs.lens.2.1;have hil:(de n s).length<=n.ag.length:=qF _ _;have he:(bV n s).ag=(de n s).map fun i=>n.ag.getD i lT:=(DC n.ag lT fun l=>kv s l.var).symm;rw[he];unfold ya;delta l9 u8 bM bX;refine d9 (fun k:Nat=>(((de n s).length:Int),(k:Int),gY n s lm mm (I,(((de n s).take k).map (fun i=>n.ag.getD i lT)).map bq,()))) (de n s).length rfl ?_ ?_ atU
 .intro k hk;unfold gY stM nt
  try dsimp only
  unfold Dz;have hg:=ba hk;obtain⟨i,hi⟩:∃i,i=(de n s)[k]:=⟨_,rfl⟩;rw[<-hi]at hg;have bz:=nK (dy hg);have hg':=vN hg;have hli:=ba bz;have hli':(n.ag.map bq)[i]?=some (bq n.ag[i]):=by rw[ct,hli];rfl
  have ek:qr ((k:Int)+1)=((k+1:Nat):Int):=atX;have fin:∀(b b':Int) (L L':List af.T),b=b'->L=L'->(atY (((de n s).length:Int),b,gY n s lm mm (I,L,())):am Dm Dd)=atY (((de n s).length:Int),b',gY n s lm mm (I,L',())):=by rintro _ _ _ _ rfl rfl;rfl
  rw[dc atW,bH (aU ⟨atO,by rw[kK];omega⟩),bI (σ:=.I) hg',bH (aU ⟨atO,by rw[aP];omega⟩),bI hli'];refine(bH (lM (by rw[aP,aP,fx];omega) atO)).trans ?_;refine fin _ _ _ _ ek ?_;rw[eE hg,d7,d7,arI,asG,arI,asG,eu,hli];rfl
 .unfold gY stM nt
  try dsimp only
  unfold Dz;rw[cE atV,eX];rfl
theorem amb(I:jp)(L:List af.T):yb (((cL n s).length:Int),(0:Int),gY n s lm mm (I,L,([]:List ah.T),()))=some (gY n s lm mm (I,L,(bV n s).ae.map aI,())):=by
 have hl:=hs.lens.2.2.2.2;have hil:(cL n s).length<=n.ae.length:=qF _ _;have he:(bV n s).ae=(cL n s).map fun i=>n.ae.getD i nv:=rfl;have eC:tM (nt n ())=some (iM n (n.al,())):=by show pC n.vars n.al (n.ag.map bq) n.aZ n.aN n.constraints (n.ae.map aI) (n.aj.map bc)=_;unfold pC;have e:d8 (n.vars,n.al,n.ag.map bq,n.aZ,n.aN,n.constraints,n.ae.map aI,n.aj.map bc,())=n:=lZ n;rw[e,qW (vP hs)];rfl
 rw[he];unfold yb;delta T8 u9 bM bX;refine d9 (fun k:Nat=>(((cL n s).length:Int),(k:Int),gY n s lm mm (I,L,(((cL n s).take k).map (fun i=>n.ae.getD i nv)).map aI,()))) (cL n s).length rfl ?_ ?_ atU
 .intro k hk;unfold gY stM nt
  try dsimp only
  unfold DA;have hg:=ba hk;obtain⟨i,hi⟩:∃i,i=(cL n s)[k]:=⟨_,rfl⟩;rw[<-hi]at hg;have bz:=nK (dy hg);have hg':=vN hg;have hli:=ba bz;have hli':(n.ae.map aI)[i]?=some (aI n.ae[i]):=by rw[ct,hli];rfl
  have ek:qr ((k:Int)+1)=((k+1:Nat):Int):=atX;have fin:∀(b b':Int) (X X':List ah.T),b=b'->X=X'->(atY (((cL n s).length:Int),b,gY n s lm mm (I,L,X,())):am xX xU)=atY (((cL n s).length:Int),b',gY n s lm mm (I,L,X',())):=by rintro _ _ _ _ rfl rfl;rfl
  rw[dc atW,bH (aU ⟨atO,by rw[kK];omega⟩),bI (σ:=.I) hg'];refine(bS eC).trans ?_;refine(bH (aU ⟨atO,by show(i:Int)<((List.length (n.ae.map aI):Nat):Int);rw[aP];omega⟩)).trans ((bH (aD rfl)).trans ?_);have key:∀y:ah.T,y=aI n.ae[i]->(au (room 72 (List.length ((((cL n s).take k).map (fun i=>n.ae.getD i nv)).map aI++(y::[])))) <|(atY (((cL n s).length:Int),(qr ((k:Int)+1)),gY n s lm mm (I,L,(((cL n s).take k).map (fun i=>n.ae.getD i nv)).map aI++(y::[]),())):am xX xU))=atY (((cL n s).length:Int),((k+1:Nat):Int),gY n s lm mm (I,L,(((cL n s).take (k+1)).map (fun i=>n.ae.getD i nv)).map aI,())):=by rintro _ rfl;rw[bH (lM (by rw[aP,aP,fx];omega) atO)];refine fin _ _ _ _ ek ?_;rw[eE hg,d7,d7,arI,asG,arI,asG,eu,hli];rfl
  exact key _ (bI hli')
 .unfold gY stM nt
  try dsimp only
  unfold DA;rw[cE atV,eX];rfl
abbrev rL{α:Type}(n:ak)(s:S2)(r:α):=((0:Int),cJ (dm n s),cJ (de n s),cJ (cL n s),r)
theorem amc(I:jp)(L:List af.T)(X:List ah.T):yc (n.aj.map bc,(n.aj.length:Int),(0:Int),rL n s (stM n s lm mm (n.vars,n.aN,n.constraints,I,L,X,([]:List af.T),())))=some (rL n s (n.vars,n.aN,n.constraints,I,L,X,(bV n s).aj.map bc,())):=by
 have hl:=hs.lens.2.2.1;have hml:=M.l1;have he:(bV n s).aj=n.aj.filter fun a=>kv s a.var:=rfl;rw[he];unfold yc;delta gm u3 bM bX;refine d9 (fun k:Nat=>(n.aj.map bc,(n.aj.length:Int),(k:Int),rL n s (stM n s lm mm (n.vars,n.aN,n.constraints,I,L,X,((n.aj.take k).filter (fun a=>kv s a.var)).map bc,()))) ) n.aj.length rfl ?_ ?_ atU
 .intro k hk;unfold rL stM nt
  try dsimp only
  unfold DB;have hg:=ba hk;obtain⟨a,ha⟩:∃a,a=n.aj[k]:=⟨_,rfl⟩;rw[<-ha]at hg;have hg':(n.aj.map bc)[k]?=some (bc a):=by rw[ct,hg];rfl
  have hr:=hs.dY a.var (by unfold aX;simp only[rc,ro];exact .inr ⟨a,dy hg,rfl⟩);obtain⟨v,hv⟩:=BY (show 0<=a.var by omega);have hv:a.var=(v:Int):=hv;have hv':(bc a).1=(v:Int):=hv;have ek:qr ((k:Int)+1)=((k+1:Nat):Int):=atX;have fin:∀(b b':Int) (Y Y':List af.T),b=b'->Y=Y'->(atY (n.aj.map bc,(n.aj.length:Int),b,rL n s (stM n s lm mm (n.vars,n.aN,n.constraints,I,L,X,Y,()))):am Dn De)=atY (n.aj.map bc,(n.aj.length:Int),b',rL n s (stM n s lm mm (n.vars,n.aN,n.constraints,I,L,X,Y',()))):=by rintro _ _ _ _ rfl rfl;rfl
  rw[dc atW,bH (aU ⟨atO,by rw[aP];omega⟩),bI hg'];refine(bH (aU ⟨by show(0:Int)<=a.var;omega,by show a.var<((s.1.length:Nat):Int);omega⟩)).trans ?_;have hln:(((n.aj.take k).filter (fun a=>kv s a.var)).map bc).length<=100000000:=by grind
  cases q:kv s a.var with|true=>refine(dc (show gt .bool s.1 (bc a).1=true from q)).trans ((bH (lM hln atO)).trans ?_);refine fin _ _ _ _ ek ?_;rw[eE hg,asa,asq,IO q,d7];rfl|false=>refine(cE (show gt .bool s.1 (bc a).1=false from q)).trans ?_;refine fin _ _ _ _ ek ?_;rw[eE hg,asa,asq,BT (by rw[q];simp),List.filter_nil,d6]
 .unfold rL stM nt
  try dsimp only
  unfold DB;rw[cE atV,eX];rfl
end
theorem ND{n:ak}{V:Nat}(hs:bR n V)(h0:cZ n=0)(ha:dT (aY n) V=true):∃s,iZ n V s/\DG (bW n,())=some ((bW (dW n s V),cJ (dm n s),cJ (de n s),cJ (cL n s),()),(0:Int),()):=by
 have ft:=vP hs;have hck:Pl.eZ n=0:=rS hs h0 fun v hv=>(jL hs.apart V).1 ha v hv;obtain⟨s,lm,mm,eM,M⟩:=ahN hs ft h0 ha;refine⟨s,M,?_⟩;have eC:=th ft;rw[hck]at eC;have eCl:tM (nt n ())=some (iM n (n.al,())):=by show pC n.vars n.al (n.ag.map bq) n.aZ n.aN n.constraints (n.ae.map aI) (n.aj.map bc)=_;unfold pC;have e:d8 (n.vars,n.al,n.ag.map bq,n.aZ,n.aN,n.constraints,n.ae.map aI,n.aj.map bc,())=n:=lZ n;rw[e,qW ft];rfl
 have eI:=ahu hs M lm mm;have eL:=ahv hs M lm mm;have eP:=ahw hs M lm mm;have e11:=al9 hs M lm mm;have e16:=ama hs M lm mm (bV n s).al;have e21:=amb hs M lm mm (bV n s).al ((bV n s).ag.map bq);have e26:=amc hs M lm mm (bV n s).al ((bV n s).ag.map bq) ((bV n s).ae.map aI);have eD:=aiz hs h0 ha M;have eN:=ah9 (tS hs M h0) (vF hs M h0) (yi hs h0 ha M);have eL':∀z:Int,z=(n.ag.length:Int)->CN (z,stM n s lm mm (nt n ()))=some (stM n s lm mm (nt n (cJ (de n s),()))):=by rintro _ rfl;exact eL
 have eP':∀z:Int,z=(n.ae.length:Int)->CP (z,stM n s lm mm ())=some (stM n s lm mm (cJ (cL n s),())):=by rintro _ rfl;exact eP
 have e11':∀z:Int,z=((dm n s).length:Int)->xZ (z,(0:Int),gY n s lm mm (([]:jp),()))=some (gY n s lm mm ((bV n s).al,())):=by rintro _ rfl;exact e11
 have e16':∀z:Int,z=((de n s).length:Int)->ya (z,(0:Int),gY n s lm mm ((bV n s).al,([]:List af.T),()))=some (gY n s lm mm ((bV n s).al,(bV n s).ag.map bq,())):=by rintro _ rfl;exact e16
 have e21':∀z:Int,z=((cL n s).length:Int)->yb (z,(0:Int),gY n s lm mm ((bV n s).al,(bV n s).ag.map bq,([]:List ah.T),()))=some (gY n s lm mm ((bV n s).al,(bV n s).ag.map bq,(bV n s).ae.map aI,())):=by rintro _ rfl;exact e21
 have e26':∀z:Int,z=(n.aj.length:Int)->yc (n.aj.map bc,z,(0:Int),rL n s (stM n s lm mm (n.vars,n.aN,n.constraints,(bV n s).al,(bV n s).ag.map bq,(bV n s).ae.map aI,([]:List af.T),())))=some (rL n s (n.vars,n.aN,n.constraints,(bV n s).al,(bV n s).ag.map bq,(bV n s).ae.map aI,(bV n s).aj.map bc,())):=by rintro _ rfl;exact e26
 have mapl:∀{α β:Type}(f:α->β) (L:List α),((List.length (L.map f):Nat):Int)=(L.length:Int):=fun f L=>by rw[aP]
 have natl:∀L:mt,((List.length (cJ L):Nat):Int)=(L.length:Int):=fun L=>by rw[kK]
 show yg KW Lw IQ tM CP CN KS Lm xZ ya yb yc (bW n)=_;unfold yg;refine(bS eC).trans ((cE rfl).trans ((bS eM).trans ((bS eI).trans ?_)));refine(bS (eL' _ (mapl bq n.ag))).trans ?_;refine(bS (eP' _ (mapl aI n.ae))).trans ((bS eCl).trans ?_);refine(bS (e11' _ (natl _))).trans ?_;refine(bS (e16' _ (natl _))).trans ?_;refine(bS (e21' _ (natl _))).trans ?_;refine(bS (e26' _ (mapl bc n.aj))).trans ?_;refine(bS eD).trans ((cE rfl).trans ((bS eN).trans rfl))
theorem alw{n:ak}(ft:Fit n)(h:Pl.eZ n≠0):DG (bW n,())=some (((((0:Int),[],[],[],[],[],[],[],()),[],[],[],()),Pl.eZ n,())):=by show yg KW Lw IQ tM CP CN KS Lm xZ ya yb yc (bW n)=_;unfold yg;exact(bS (th ft)).trans ((dc (qQ (aF h))).trans rfl)
