import Derived.Test.YtkcpdpplobhpaaaGreatJMgReachPaths01
set_option linter.unusedSectionVars false
set_option linter.unusedVariables false
set_option linter.unusedSimpArgs false
set_option linter.unnecessarySimpa false
section
namespace Go.Proofs.YtkcpdpplobhpaaaGreat.V
open Go Go.RowKit Go.Proofs.YtkcpdpplobhpaaaGreat.Pl
set_option maxRecDepth 10000
theorem yx{σ:Sh}{k x:Int}{v:σ.T}:∀(M:cW σ),eX σ (dg k v M) x=(match decide (k=x)with|true=>v|false=>eX σ M x)
 |[]=>rfl|p::M=>by
  unfold dg;cases h1:decide (k<p.1)with
  |true=>rfl|false=>
   cases h2:decide (p.1=k)with
   |true=>have e:=of_decide_eq_true h2;show(match decide (k=x)with|true=>v|false=>eX σ M x)=(match decide (k=x)with|true=>v|false=>(match decide (p.1=x)with|true=>p.2.1|false=>eX σ M x));rw[e];cases decide (k=x)<;>rfl
   |false=>
    show(match decide (p.1=x)with|true=>p.2.1|false=>eX σ (dg k v M) x)=(match decide (k=x)with|true=>v|false=>(match decide (p.1=x)with|true=>p.2.1|false=>eX σ M x));rw[yx M];cases h3:decide (p.1=x)with
    |false=>cases decide (k=x)<;>rfl
    |true=>have a:=of_decide_eq_true h3;have b:=of_decide_eq_false h2;rw[decide_eq_false (show ¬k=x by omega)]
abbrev rQ:=Int×Int×Unit
def k8(n:ax)(c:iI)(m:Nat)(how:mO):Nat->Nat->Prop
 |0,k=>dY how (k:Int)=true/\eX cX how (k:Int)=(((-1:Int),((0:Int),())):rQ)/\∃j∈fY n (2^wid n),cU n j=k|i+1,k=>dY how (k:Int)=true/\∃k' y:Nat,eX cX how (k:Int)=(((k':Int),((y:Int),())):rQ)/\y<m/\c.fi k' y=true/\c.nx k' y=k/\k8 n c m how i k'
theorem k8.put{n:ax}{c:iI}{m:Nat}{how:mO}{a:Int}{v:rQ}(ha:dY how a=false):∀i k,k8 n c m how i k->k8 n c m (dg (σ:=cX) a v how) i k:=by
 have two:∀k:Nat,dY how (k:Int)=true->dY (dg (σ:=cX) a v how) (k:Int)=true/\eX cX (dg (σ:=cX) a v how) (k:Int)=eX cX how (k:Int):=by
  intro k hk;have hne:¬a=(k:Int):=by rintro rfl;rw[hk]at ha;cases ha
  refine⟨(yu (σ:=cX) how).trans (by rw[hk,Bool.or_true]),(yx (σ:=cX) how).trans ?_⟩;rw[decide_eq_false hne]
 intro i
 induction i with
 |zero=>rintro k ⟨h1,h2,h3⟩;obtain⟨e1,e2⟩:=two k h1;exact⟨e1,e2.trans h2,h3⟩
 |succ i ih=>rintro k ⟨h1,k',y,h2,h3,h4,h5,h6⟩;obtain⟨e1,e2⟩:=two k h1;exact⟨e1,k',y,e2.trans h2,h3,h4,h5,ih k' h6⟩
structure nf(n:ax)(c:iI)(m i:Nat)(N:List Nat)(q:Qs):Prop where
 now:∀k∈N,k8 n c m q.how i k
 iN:∀x∈q.next,k8 n c m q.how (i+1) x
theorem ads{n:ax}{c:iI}{m i:Nat}{N:List Nat}{q:Qs}{k y:Nat}(hk:k∈N)(hy:y<m)(h:nf n c m i N q) :
  (∃r,na n c k y q=.inl r/\nf n c m i N r/\pc c k y)\/∃q2,na n c k y q=.inr q2/\nf n c m i N q2:=by
 unfold na;cases hf:c.fi k y with
 |false=>exact .inr ⟨_,rfl,h.now,h.iN⟩|true=>
  by_cases hb:0<=c.bd k y
  .rw[decide_eq_true hb];exact .inl ⟨_,rfl,⟨h.now,h.iN⟩,hf,hb⟩
  .rw[decide_eq_false hb];cases hm:dY q.how (c.nx k y:Int)with
   |true=>exact .inr ⟨_,rfl,h.now,h.iN⟩|false=>
    refine .inr ⟨_,rfl,fun k' hk'=>(h.now k' hk').put hm _ _,fun x hx=>?_⟩;have hx:x∈q.next++[c.nx k y]:=hx;rcases List.mem_append.1 hx with a|a
    .exact(h.iN x a).put hm _ _
    .obtain rfl:=List.mem_singleton.1 a;refine⟨(yu (σ:=cX) q.how).trans (by rw[decide_eq_true rfl];rfl),k,y,(yx (σ:=cX) q.how).trans ?_,hy,hf,rfl,(h.now k hk).put hm _ _⟩;rw[decide_eq_true rfl];rfl
theorem adZ{n:ax}{c:iI}{m i:Nat}{l:List Nat}{q:Qs}(h:nf n c m i l q) :
  (∃r,ou n c m l q=.inl r/\r.1<l.length/\r.2.1<m/\nf n c m i l r.2.2/\pc c (l.getD r.1 0) r.2.1)\/∃q2,ou n c m l q=.inr q2/\nf n c m i l q2:=by
 refine(rB (stp:=B8 n c m l) (fun _ q=>nf n c m i l q) (fun j (r:Nat×Qs)=>r.1<m/\nf n c m i l r.2/\pc c (l.getD j 0) r.1) l.length (fun j q hj h=>?_) l.length 0 q (by omega) h);have hm:l.getD j 0∈l:=by rw[List.getD_eq_getElem?_getD,List.getElem?_eq_getElem hj];exact List.getElem_mem hj
 rcases rB (stp:=na n c (l.getD j 0)) (fun _ q=>nf n c m i l q) (fun y r=>nf n c m i l r/\pc c (l.getD j 0) y) m (fun y q hy h=>ads hm hy h) m 0 q (by omega) h with⟨r,e,a,b,d⟩|⟨q2,e,a⟩
 .exact .inl ⟨r,e,a,b,d⟩
 .exact .inr ⟨q2,e,a⟩
theorem adh{n:ax}{c:iI}{m W d:Nat}(hn:∀k y,c.nx k y<W){q:Qs}(ok:dO W q)(h:∀k∈q.next,k8 n c m q.how 0 k){i:Nat}{x:sV×List Nat}(hr:l9 n c m d q=.inl (i,.inl x)) :
  i<d/\∃k,x.2.getD x.1.1 0=k/\k<W/\x.1.2.1<m/\k8 n c m x.1.2.2.how i k/\pc c k x.1.2.1:=by
 rcases rB (stp:=jR n c m) (fun i (q:Int×Qs)=>dO W q.2/\∀k∈q.2.next,k8 n c m q.2.how i k)
  (fun i (r:sV×List Nat⊕Int×Qs)=>∀x,r=Sum.inl x->∃k,x.2.getD x.1.1 0=k/\k<W/\x.1.2.1<m/\k8 n c m x.1.2.2.how i k/\pc c k x.1.2.1) d (fun i q hi h=>by
   obtain⟨ok,hc⟩:=h;have h0:dO W ⟨q.2.how,[],q.2.ls,q.2.rs⟩:=⟨ok.jH,ok.key,Nat.zero_le _,fun k hk=>nomatch hk⟩;rcases adZ (n:=n) (c:=c) (m:=m) (i:=i) (l:=q.2.next) (q:=⟨q.2.how,[],q.2.ls,q.2.rs⟩) ⟨hc,fun x hx=>nomatch hx⟩with⟨r,e4,r1,r2,r3,r4⟩|⟨q2,e4,P⟩
   .have ep:jR n c m i q=.inl (.inl (r,q.2.next)):=by unfold jR;rw[e4]
    refine .inl ⟨_,ep,fun x hx=>?_⟩;obtain rfl:=Sum.inl.inj hx;have hm:q.2.next.getD r.1 0∈q.2.next:=by rw[List.getD_eq_getElem?_getD,List.getElem?_eq_getElem r1];exact List.getElem_mem r1
    exact⟨_,rfl,ok.iN _ hm,r2,r3.now _ hm,r4⟩
   .have hq2:dO W q2:=by
     rcases yG (n:=n) (c:=c) (m:=m) (fun k y _ _=>hn k y) ok.iN h0 with⟨r,e,_⟩|⟨q3,e,h⟩
     .rw[e4]at e;cases e
     .rw[e4]at e;cases e;exact h
    by_cases hz:(q2.next.length:Int)=0
    .have ep:jR n c m i q=.inl (.inr ((q.2.how.length:Int),q2)):=by unfold jR;rw[e4];dsimp only;rw[decide_eq_true hz]
     exact .inl ⟨_,ep,fun x hx=>nomatch hx⟩
    .have ep:jR n c m i q=.inr ((q.2.how.length:Int),q2):=by unfold jR;rw[e4];dsimp only;rw[decide_eq_false hz]
     exact .inr ⟨_,ep,hq2,P.iN⟩) d 0 ((0:Int),q) (by omega) ⟨ok,h⟩with⟨r,e,hi,hJ⟩|⟨q2,e,_⟩
 .have hr:kb (jR n c m) 0 d ((0:Int),q)=.inl (i,.inl x):=hr;rw[e]at hr;have hr:=Sum.inl.inj hr;subst hr;exact⟨hi,hJ x rfl⟩
 .have hr:kb (jR n c m) 0 d ((0:Int),q)=.inl (i,.inl x):=hr;rw[e]at hr;cases hr
def qA(c:iI)(m:Nat):List Nat->Nat->Nat->Prop
 |[],k0,k=>k0=k|y::ys,k0,k=>y<m/\c.fi k0 y=true/\qA c m ys (c.nx k0 y) k
theorem Q5{c:iI}{m:Nat}:∀{ys:List Nat}{k0 k y:Nat},qA c m ys k0 k->y<m->c.fi k y=true->qA c m (ys++[y]) k0 (c.nx k y)
 |[],k0,k,y,h,h1,h2=>by obtain rfl:k0=k:=h;exact⟨h1,h2,rfl⟩
 |z::ys,k0,k,y,h,h1,h2=>⟨h.1,h.2.1,Q5 h.2.2 h1 h2⟩
def ff(n:ax)(l:List Nat):List (List Bool):=l.map fun y=>bN y n.aJ.length
section
variable{n:ax}{V:Nat}(t:fN n V)
include t
theorem adI(m:Nat):∀k∈(dE n).next,k8 n (bH n) m (dE n).how 0 k:=by
 have inv:∀(L:List Nat) (H:mO) (S:Nat->Prop),(∀k:Nat,S k->dY H (k:Int)=true/\eX cX H (k:Int)=(((-1:Int),((0:Int),())):rQ))->∀k,(S k\/∃j∈L,cU n j=k) ->
   dY (L.foldl (fun h k=>dg (σ:=cX) ((cU n k:Nat):Int) ((-1:Int),((0:Int),())) h) H) (k:Int)=true/\eX cX (L.foldl (fun h k=>dg (σ:=cX) ((cU n k:Nat):Int) ((-1:Int),((0:Int),())) h) H) (k:Int)=(((-1:Int),((0:Int),())):rQ):=by
  intro L
  induction L with
  |nil=>exact fun H S hS k hk=>hk.elim (hS k) (fun⟨j,hj,_⟩=>nomatch hj)
  |cons j L ih=>
   intro H S hS k hk;refine ih _ (fun k=>S k\/cU n j=k) (fun x hx=>?_) k ?_
   .refine⟨(yu (σ:=cX) H).trans ?_,(yx (σ:=cX) H).trans ?_⟩
    .rcases hx with a|rfl
     .rw[(hS x a).1,Bool.or_true]
     .rw[decide_eq_true rfl];rfl
    .rcases hx with a|rfl
     .cases decide (((cU n j:Nat):Int)=(x:Int))with|true=>rfl|false=>exact(hS x a).2
     .rw[decide_eq_true rfl];rfl
   .rcases hk with a|⟨z,hz,e⟩
    .exact .inl (.inl a)
    .rcases List.mem_cons.1 hz with rfl|hz
     .exact .inl (.inr e)
     .exact .inr ⟨z,hz,e⟩
 intro k hk;have hk:k∈(fY n (2^wid n)).map (cU n):=hk;obtain⟨j,hj,e⟩:=List.mem_map.1 hk;obtain⟨h1,h2⟩:=inv (fY n (2^wid n)) [] (fun _=>False) (fun _ h=>h.elim) k (.inr ⟨j,hj,e⟩);exact⟨h1,h2,j,hj,e⟩
theorem aer{m:Nat}(hm:m<=64)(w bad:Int)(how:mO)(now:List Int)(ord:List (bz×bp))(ls:List Bool)(rs:List cZ):∀(i k y:Nat) (acc:List (List Bool)) (N:Nat),k8 n (bH n) m how i k->y<m->i<N->acc.length+i<=5000 ->
  ∃(fw:List Nat) (k0 y0:Nat),fw.length=i/\qA (bH n) m fw k0 k/\(∃j∈fY n (2^wid n),cU n j=k0) /\
   aR (fun d=>ud iZ d.1 d.2.1 d.2.2.1 d.2.2.2.1 d.2.2.2.2.1 d.2.2.2.2.2.1 d.2.2.2.2.2.2.1 d.2.2.2.2.2.2.2.1 d.2.2.2.2.2.2.2.2.1 d.2.2.2.2.2.2.2.2.2.1 d.2.2.2.2.2.2.2.2.2.2.1 d.2.2.2.2.2.2.2.2.2.2.2.1 d.2.2.2.2.2.2.2.2.2.2.2.2.1 d.2.2.2.2.2.2.2.2.2.2.2.2.2.1 d.2.2.2.2.2.2.2.2.2.2.2.2.2.2.1 d.2.2.2.2.2.2.2.2.2.2.2.2.2.2.2.1 d.2.2.2.2.2.2.2.2.2.2.2.2.2.2.2.2.1 d.2.2.2.2.2.2.2.2.2.2.2.2.2.2.2.2.2.1 d.2.2.2.2.2.2.2.2.2.2.2.2.2.2.2.2.2.2.1 d.2.2.2.2.2.2.2.2.2.2.2.2.2.2.2.2.2.2.2.1 d.2.2.2.2.2.2.2.2.2.2.2.2.2.2.2.2.2.2.2.2.1 d.2.2.2.2.2.2.2.2.2.2.2.2.2.2.2.2.2.2.2.2.2.1 d.2.2.2.2.2.2.2.2.2.2.2.2.2.2.2.2.2.2.2.2.2.2.1 d.2.2.2.2.2.2.2.2.2.2.2.2.2.2.2.2.2.2.2.2.2.2.2.1 d.2.2.2.2.2.2.2.2.2.2.2.2.2.2.2.2.2.2.2.2.2.2.2.2.1 d.2.2.2.2.2.2.2.2.2.2.2.2.2.2.2.2.2.2.2.2.2.2.2.2.2.1 d.2.2.2.2.2.2.2.2.2.2.2.2.2.2.2.2.2.2.2.2.2.2.2.2.2.2.1 d.2.2.2.2.2.2.2.2.2.2.2.2.2.2.2.2.2.2.2.2.2.2.2.2.2.2.2.1 d.2.2.2.2.2.2.2.2.2.2.2.2.2.2.2.2.2.2.2.2.2.2.2.2.2.2.2.2.1 d.2.2.2.2.2.2.2.2.2.2.2.2.2.2.2.2.2.2.2.2.2.2.2.2.2.2.2.2.2.1 d.2.2.2.2.2.2.2.2.2.2.2.2.2.2.2.2.2.2.2.2.2.2.2.2.2.2.2.2.2.2.1 d.2.2.2.2.2.2.2.2.2.2.2.2.2.2.2.2.2.2.2.2.2.2.2.2.2.2.2.2.2.2.2.1 d.2.2.2.2.2.2.2.2.2.2.2.2.2.2.2.2.2.2.2.2.2.2.2.2.2.2.2.2.2.2.2.2.1 d.2.2.2.2.2.2.2.2.2.2.2.2.2.2.2.2.2.2.2.2.2.2.2.2.2.2.2.2.2.2.2.2.2.1) N (nt n (bad,(acc,nt n (w,(how,(now,mc n ord ls rs ((k:Int),((y:Int),()))))))))
    = some (bad,(acc++ff n (fw++[y]).reverse,nt n (w,(how,(now,mc n ord ls rs ((k0:Int),((y0:Int),()))))))):=by
 intro i
 induction i with
 |zero=>
  intro k y acc N hc hy hN ha;obtain⟨N,rfl⟩:∃M,N=M+1:=⟨N-1,by omega⟩;obtain⟨h1,h2,h3⟩:=hc;refine⟨[],k,y,rfl,rfl,h3,?_⟩;have e1:iZ (IntKind.wrap .u64 (y:Int),(Int.ofNat n.aJ.length,()))=some (bN y n.aJ.length,()):=by rw[jE (by omega)];exact oB y n.aJ.length (by have:=t.ins;omega) (by omega)
  have h2':iL (eX cX how (k:Int)).1 0=true:=by rw[h2];exact aj (by decide)
  have hB:∀f:_->Option (_⊕Out rh),f=(fun d:TL ri.σs=>ud iZ d.1 d.2.1 d.2.2.1 d.2.2.2.1 d.2.2.2.2.1 d.2.2.2.2.2.1 d.2.2.2.2.2.2.1 d.2.2.2.2.2.2.2.1 d.2.2.2.2.2.2.2.2.1 d.2.2.2.2.2.2.2.2.2.1 d.2.2.2.2.2.2.2.2.2.2.1 d.2.2.2.2.2.2.2.2.2.2.2.1 d.2.2.2.2.2.2.2.2.2.2.2.2.1 d.2.2.2.2.2.2.2.2.2.2.2.2.2.1 d.2.2.2.2.2.2.2.2.2.2.2.2.2.2.1 d.2.2.2.2.2.2.2.2.2.2.2.2.2.2.2.1 d.2.2.2.2.2.2.2.2.2.2.2.2.2.2.2.2.1 d.2.2.2.2.2.2.2.2.2.2.2.2.2.2.2.2.2.1 d.2.2.2.2.2.2.2.2.2.2.2.2.2.2.2.2.2.2.1 d.2.2.2.2.2.2.2.2.2.2.2.2.2.2.2.2.2.2.2.1 d.2.2.2.2.2.2.2.2.2.2.2.2.2.2.2.2.2.2.2.2.1 d.2.2.2.2.2.2.2.2.2.2.2.2.2.2.2.2.2.2.2.2.2.1 d.2.2.2.2.2.2.2.2.2.2.2.2.2.2.2.2.2.2.2.2.2.2.1 d.2.2.2.2.2.2.2.2.2.2.2.2.2.2.2.2.2.2.2.2.2.2.2.1 d.2.2.2.2.2.2.2.2.2.2.2.2.2.2.2.2.2.2.2.2.2.2.2.2.1 d.2.2.2.2.2.2.2.2.2.2.2.2.2.2.2.2.2.2.2.2.2.2.2.2.2.1 d.2.2.2.2.2.2.2.2.2.2.2.2.2.2.2.2.2.2.2.2.2.2.2.2.2.2.1 d.2.2.2.2.2.2.2.2.2.2.2.2.2.2.2.2.2.2.2.2.2.2.2.2.2.2.2.1 d.2.2.2.2.2.2.2.2.2.2.2.2.2.2.2.2.2.2.2.2.2.2.2.2.2.2.2.2.1 d.2.2.2.2.2.2.2.2.2.2.2.2.2.2.2.2.2.2.2.2.2.2.2.2.2.2.2.2.2.1 d.2.2.2.2.2.2.2.2.2.2.2.2.2.2.2.2.2.2.2.2.2.2.2.2.2.2.2.2.2.2.1 d.2.2.2.2.2.2.2.2.2.2.2.2.2.2.2.2.2.2.2.2.2.2.2.2.2.2.2.2.2.2.2.1 d.2.2.2.2.2.2.2.2.2.2.2.2.2.2.2.2.2.2.2.2.2.2.2.2.2.2.2.2.2.2.2.2.1 d.2.2.2.2.2.2.2.2.2.2.2.2.2.2.2.2.2.2.2.2.2.2.2.2.2.2.2.2.2.2.2.2.2.1)->f (nt n (bad,(acc,nt n (w,(how,(now,mc n ord ls rs ((k:Int),((y:Int),()))))))))=some (.inr (bad,(acc++[bN y n.aJ.length],nt n (w,(how,(now,mc n ord ls rs ((k:Int),((y:Int),())))))))):=by rintro _ rfl;exact ag e1 (ak (mu (a:=24) (L:=acc) (x:=bN y n.aJ.length) (by omega) (by omega)) (ao h2' rfl))
  have hB:=hB _ rfl;simp only[aR,hB];rfl
 |succ i ih=>
  intro k y acc N hc hy hN ha;obtain⟨N,rfl⟩:∃M,N=M+1:=⟨N-1,by omega⟩;obtain⟨h1,k',y',h2,h3,h4,h5,h6⟩:=hc;have e1:iZ (IntKind.wrap .u64 (y:Int),(Int.ofNat n.aJ.length,()))=some (bN y n.aJ.length,()):=by rw[jE (by omega)];exact oB y n.aJ.length (by have:=t.ins;omega) (by omega)
  have h2':iL (eX cX how (k:Int)).1 0=false:=by rw[h2];exact av (show ¬((k':Int)<0) by omega)
  have hla:(acc++[bN y n.aJ.length]).length=acc.length+1:=List.length_append;obtain⟨fw,k0,y0,f1,f2,f3,f4⟩:=ih k' y' (acc++[bN y n.aJ.length]) N h6 h3 (by omega) (by omega);have e:∀(a b:rQ),a=b->(some (.inl (nt n (bad,(acc++[bN y n.aJ.length],nt n (w,(how,(now,mc n ord ls rs (a.1,(a.2.1,()))))))))):Option (TL ri.σs⊕Out rh))=some (.inl (nt n (bad,(acc++[bN y n.aJ.length],nt n (w,(how,(now,mc n ord ls rs (b.1,(b.2.1,()))))))))):=by rintro _ _ rfl;rfl
  have hB:∀f:_->Option (_⊕Out rh),f=(fun d:TL ri.σs=>ud iZ d.1 d.2.1 d.2.2.1 d.2.2.2.1 d.2.2.2.2.1 d.2.2.2.2.2.1 d.2.2.2.2.2.2.1 d.2.2.2.2.2.2.2.1 d.2.2.2.2.2.2.2.2.1 d.2.2.2.2.2.2.2.2.2.1 d.2.2.2.2.2.2.2.2.2.2.1 d.2.2.2.2.2.2.2.2.2.2.2.1 d.2.2.2.2.2.2.2.2.2.2.2.2.1 d.2.2.2.2.2.2.2.2.2.2.2.2.2.1 d.2.2.2.2.2.2.2.2.2.2.2.2.2.2.1 d.2.2.2.2.2.2.2.2.2.2.2.2.2.2.2.1 d.2.2.2.2.2.2.2.2.2.2.2.2.2.2.2.2.1 d.2.2.2.2.2.2.2.2.2.2.2.2.2.2.2.2.2.1 d.2.2.2.2.2.2.2.2.2.2.2.2.2.2.2.2.2.2.1 d.2.2.2.2.2.2.2.2.2.2.2.2.2.2.2.2.2.2.2.1 d.2.2.2.2.2.2.2.2.2.2.2.2.2.2.2.2.2.2.2.2.1 d.2.2.2.2.2.2.2.2.2.2.2.2.2.2.2.2.2.2.2.2.2.1 d.2.2.2.2.2.2.2.2.2.2.2.2.2.2.2.2.2.2.2.2.2.2.1 d.2.2.2.2.2.2.2.2.2.2.2.2.2.2.2.2.2.2.2.2.2.2.2.1 d.2.2.2.2.2.2.2.2.2.2.2.2.2.2.2.2.2.2.2.2.2.2.2.2.1 d.2.2.2.2.2.2.2.2.2.2.2.2.2.2.2.2.2.2.2.2.2.2.2.2.2.1 d.2.2.2.2.2.2.2.2.2.2.2.2.2.2.2.2.2.2.2.2.2.2.2.2.2.2.1 d.2.2.2.2.2.2.2.2.2.2.2.2.2.2.2.2.2.2.2.2.2.2.2.2.2.2.2.1 d.2.2.2.2.2.2.2.2.2.2.2.2.2.2.2.2.2.2.2.2.2.2.2.2.2.2.2.2.1 d.2.2.2.2.2.2.2.2.2.2.2.2.2.2.2.2.2.2.2.2.2.2.2.2.2.2.2.2.2.1 d.2.2.2.2.2.2.2.2.2.2.2.2.2.2.2.2.2.2.2.2.2.2.2.2.2.2.2.2.2.2.1 d.2.2.2.2.2.2.2.2.2.2.2.2.2.2.2.2.2.2.2.2.2.2.2.2.2.2.2.2.2.2.2.1 d.2.2.2.2.2.2.2.2.2.2.2.2.2.2.2.2.2.2.2.2.2.2.2.2.2.2.2.2.2.2.2.2.1 d.2.2.2.2.2.2.2.2.2.2.2.2.2.2.2.2.2.2.2.2.2.2.2.2.2.2.2.2.2.2.2.2.2.1)->f (nt n (bad,(acc,nt n (w,(how,(now,mc n ord ls rs ((k:Int),((y:Int),()))))))))=some (.inl (nt n (bad,(acc++[bN y n.aJ.length],nt n (w,(how,(now,mc n ord ls rs ((k':Int),((y':Int),()))))))))):=by rintro _ rfl;exact ag e1 (ak (mu (a:=24) (L:=acc) (x:=bN y n.aJ.length) (by omega) (by omega)) (af h2' (e _ _ h2)))
  have hB:=hB _ rfl;refine⟨fw++[y'],k0,y0,by rw[List.length_append,f1];rfl,?_,f3,?_⟩
  .rw[<-h5];exact Q5 f2 h3 h4
  .simp only[aR,hB];rw[f4];have el:acc++[bN y n.aJ.length]++ff n (fw++[y']).reverse=acc++ff n (fw++[y']++[y]).reverse:=by unfold ff;rw[List.reverse_append (bs:=[y]),List.append_assoc];rfl
   rw[el]
end
set_option maxRecDepth 1000000
abbrev PQ:List (Nat×LO):=[(0,.arr h9 55),(1,.cells [.bq,.bq] 40),(2,.cells [.int .i64,.fz (.int .i64),.fz ae,.fz (.int .i64),.fz (.int .i64),.fz (.int .i64),.fz ab,.fz ae,.fz ah,.hd 3 .bool,.cS 4] 145),(3,.arr .bool 4),(4,.cO 220)]
abbrev yo:Lay:={ T:=[(6,.hd 0 h9),(7,.ptr 1 0),(9,.ptr 2 0),(24,.fz (.sl .bool)),(25,.int .i64),(26,.int .i64)],h:=PQ,nx:=5 }
abbrev yl:List (Ev.Ex×Lay):=[(.ret,{ T:=[(6,.bq),(7,.ptr 0 0),(8,.int .i64)],h:=[(0,.cells [.bq,.bq] 40)],nx:=1 }),((.exit 0),{ T:=[(6,.hd 0 h9),(7,.ptr 1 0),(9,.ptr 2 0)],h:=PQ,nx:=5 })]
abbrev QF:=TL yo.σs->Option (Out yl)
abbrev FH:=Ld 0 48 (bu [0] (aW Tryz.f23)) yo yl
def nJ(F1:vj)(t24:List (List Bool))(t25 t26:Int)(b0:List (Sh.T h9))(bR:Int)(bU:List Int)(bV:List (Sh.T ae))(bW bX bZ:List Int)(ca:List (Sh.T ab))(cd:List (Sh.T ae))(sA:List (Sh.T ah))(b3:List Bool)(b4:List (Sh.T (.agg [(.int .i64),(.int .i64),(.sl aC)]))):Option (TL yo.σs⊕Out yl):=
 br (iL t26 t25)
 (
  ai (aw t26 (List.length t24))<|
  ar (F1 ((gt (.sl .bool) t24 t26),(bR,(bU,(bV,(bW,(bX,(bZ,(ca,(cd,(sA,(b3,(b4,()))))))))))))) fun x0=>
  br (Bool.not (iQ x0.2.1 (0:Int)))
  (
   ai (iQ x0.2.1 x0.2.1)<|
   some (.inr (.inl (x0.2.1,()))))
  (
   ai (room 32 (List.length (ap b0 ((x0.2.2.2.2.2.2.2.2.2.2.2.2.2.1,(x0.1,()))::[]))))<|
   some (.inl (t24,(t25,((IntKind.wrap .i64 (t26+(1:Int))),((ap b0 ((x0.2.2.2.2.2.2.2.2.2.2.2.2.2.1,(x0.1,()))::[])),(x0.2.2.1,(x0.2.2.2.1,(x0.2.2.2.2.1,(x0.2.2.2.2.2.1,(x0.2.2.2.2.2.2.1,(x0.2.2.2.2.2.2.2.1,(x0.2.2.2.2.2.2.2.2.1,(x0.2.2.2.2.2.2.2.2.2.1,(x0.2.2.2.2.2.2.2.2.2.2.1,(x0.2.2.2.2.2.2.2.2.2.2.2.1,(x0.2.2.2.2.2.2.2.2.2.2.2.2.1,()))))))))))))))))))
 (
  some (.inr (.inr (b0,(bR,(bU,(bV,(bW,(bX,(bZ,(ca,(cd,(sA,(b3,(b4,())))))))))))))))
def ab5(c1:si) :FH:=bB (dV (nJ c1.F)) (pL (kB c1 k0) e0 1 l0 fun d=>by kernel_rfl)
def ab6:FH:=ab5 vk
def ab4:QF:=aR (dV (nJ mQ)) NN
abbrev QG:List Sh:=[bg,cV,(.sl (.sl .bool))]
abbrev FI:List Sh:=[(.sl h9),cV,(.int .i64)]
abbrev QO:=TL QG->Option (TL FI)
abbrev FN:=Kd 23 QG FI
def acq(F0:xK)(F1:vj)(F2:K3)(L5:QF)(a0:Sh.T bg)(a1:Sh.T cV)(a2:List (List Bool)):Option (TL FI):=
 ar (F2 (a0.1,(a0.2.1,(a0.2.2.1,(a0.2.2.2.1,(a0.2.2.2.2.1,(a0.2.2.2.2.2.1,(a0.2.2.2.2.2.2.1,(a0.2.2.2.2.2.2.2.1,a1))))))))) fun x0=>
 (match x0 with
 |.inl x1=>
  ai (Bool.not (iQ x1.1 (0:Int)))<|
  ai (iQ x1.1 x1.1)<|
  some ([],(([],([],())),(x1.1,())))
 |.inr x1=>
  br (Bool.not (iQ x1.1 (0:Int)))
  (
   ai (iQ x1.1 x1.1)<|
   some ([],(([],([],())),(x1.1,()))))
  (
   ar (L5 (a2,((Int.ofNat (List.length a2)),((0:Int),([],x1.2))))) fun x2=>
   (match x2 with
   |.inl x3=>some ([],(([],([],())),(x3.1,())))|.inr x3=>
    ar (F0 x3.2) fun x4=>
    some (x3.1,(x4.2.2.2.2.2.2.2.2.2.2.2,((0:Int),())))
   ))
 )
def acr(c0:tW)(c1:si)(c2:BN)(M5:FH):FN:=⟨u3 (acq c0.F c1.F c2.F M5.L),pD Tryz.func23 48 (kB c0 (kB c1 (kB c2 k0))) e0 1 (sS (sC M5 l0)) fun d=>by kernel_rfl⟩
def QN:FN:=acr xJ vk K4 ab6
def ab3:QO:=QN.F
abbrev xz:Lay:={ T:=[(2,.ptr 0 0),(3,.ptr 1 0),(5,.fz h9),(8,.int .i64)],h:=[(0,.cells fq 27),(1,.cells [.fz .bool,.fz (.sl aC),.fz (.sl .bool),.int .i64] 58)],nx:=2 }
abbrev xw:List (Ev.Ex×Lay):=[(.ret,{ T:=[(4,.bool)],h:=[],nx:=0 }),((.exit 0),{ T:=[(3,.ptr 0 0),(5,.fz h9)],h:=[(0,.cells [.fz .bool,.fz (.sl aC),.fz (.sl .bool),.int .i64] 58)],nx:=1 })]
abbrev PA:=TL xz.σs->Option (Out xw)
abbrev Py:=Ld 0 88 (bu [0] (aW Tryz.f25)) xz xw
def Px(t5:List (Sh.T h9))(t8 aE:Int)(aD:List Int)(aG:List (Sh.T ae))(aH aI aL:List Int)(aA:List (Sh.T ab))(aF:List (Sh.T ae))(cG:List Bool)(cN:List (List (Sh.T aC)))(fO:List (List Bool))(eW:Int):Option (TL xz.σs⊕Out xw):=
 br (iL t8 (Int.ofNat (List.length t5)))
 (
  ai (aw t8 (List.length t5))<|
  br (Bool.not (gt h9 t5 t8).2.1)
  (
   some (.inr (.inl (false,()))))
  (
   ai (aw t8 (List.length t5))<|
   br (aQ false true (Bool.not (iQ (Int.ofNat (List.length (gt h9 t5 t8).1)) (Int.ofNat (List.length aI)))))
   (
    some (.inr (.inl (false,()))))
   (
    some (.inl (t5,((IntKind.wrap .i64 (t8+(1:Int))),(aE,(aD,(aG,(aH,(aI,(aL,(aA,(aF,(cG,(cN,(fO,(eW,()))))))))))))))))))
 (
  some (.inr (.inr (t5,(cG,(cN,(fO,(eW,()))))))))
def aaN  :Py:=bB (fX Px) (pL k0 e0 1 l0 fun d=>by kernel_rfl)
def Pz:PA:=aR (fX Px) NN
abbrev PB:List Sh:=[bg,zo]
abbrev xI:List Sh:=[.bool]
abbrev PJ:=TL PB->Option (TL xI)
abbrev EK:=Kd 25 PB xI
def aaW(F0:QO)(F1:VG)(L7:PA)(a0:Sh.T bg)(a1:Sh.T zo):Option (TL xI):=
 ar (F1 (a0,((a1.1.1,(a1.1.2.1,())),()))) fun x0=>
 br (Bool.not (iQ x0.1 (0:Int)))
 (
  some (false,()))
 (
  br (aQ false true (iQ (Int.ofNat (List.length a1.2.1)) (0:Int)))
  (
   some (false,()))
  (
   br (aQ false true (iL a1.2.2.1 (0:Int)))
   (
    some (false,()))
   (
    br (aQ false true (iE (Int.ofNat (List.length a0.2.2.2.2.1)) a1.2.2.1))
    (
     some (false,()))
    (
     ar (F0 (a0,((a1.1.1,(a1.1.2.1,())),(a1.2.1,())))) fun x1=>
     br (Bool.not (iQ x1.2.2.1 (0:Int)))
     (
      some (false,()))
     (
      br (aQ false true (Bool.not (iQ (Int.ofNat (List.length x1.1)) (Int.ofNat (List.length a1.2.1)))))
      (
       some (false,()))
      (
       ar (L7 (x1.1,((0:Int),(a0.1,(a0.2.1,(a0.2.2.1,(a0.2.2.2.1,(a0.2.2.2.2.1,(a0.2.2.2.2.2.1,(a0.2.2.2.2.2.2.1,(a0.2.2.2.2.2.2.2.1,(a1.1.1,(a1.1.2.1,a1.2))))))))))))) fun x2=>
       (match x2 with
       |.inl x3=>some (x3.1,())|.inr x3=>
        ai (aw (IntKind.wrap .i64 ((Int.ofNat (List.length x3.1))-(1:Int))) (List.length x3.1))<|
        ai (aw x3.2.2.2.2.1 (List.length (gt h9 x3.1 (IntKind.wrap .i64 ((Int.ofNat (List.length x3.1))-(1:Int)))).1))<|
        some ((gt .bool (gt h9 x3.1 (IntKind.wrap .i64 ((Int.ofNat (List.length x3.1))-(1:Int)))).1 x3.2.2.2.2.1),())
       )))))))
def aaX(c0:FN)(c1:Iv)(M7:Py):EK:=⟨u2 (aaW c0.F c1.F M7.L),pD Tryz.func25 88 (kD c0 (kD c1 k0)) e0 1 (sS (sC M7 l0)) fun d=>by kernel_rfl⟩
def PI:EK:=aaX QN VH aaN
def aaM:PJ:=PI.F
abbrev OT:List Sh:=[bg,(.int .i64)]
abbrev Ee:List Sh:=[.bool]
abbrev aag:=TL OT->Option (TL Ee)
abbrev OU:=Kd 6 OT Ee
def aae(F0:PJ)(F1:Qu)(F2:Fe)(F3:Pn)(F4:U5)(a0:Sh.T bg)(a1:Int):Option (TL Ee):=
 ar (F4 (a0,())) fun x0=>
 br (Bool.not x0.1)
 (
  ar (F3 ()) fun x1=>
  some (x1.1,()))
 (
  br (aQ false true (iL (40:Int) a1))
  (
   ar (F3 ()) fun x1=>
   some (x1.1,()))
  (
   ar (F2 (a0,(a1,()))) fun x1=>
   ar (F1 (a0,(a1,()))) fun x2=>
   br (Bool.not (iQ x1.2.1 (0:Int)))
   (
    br (iQ x1.2.1 x2.2.2.1)
    (
     br (aQ true (Bool.not x2.2.1) false)
     (
      br (aQ true (iQ (Int.ofNat (List.length x2.1.2.1)) (0:Int)) false)
      (
       ar (F3 ()) fun x3=>
       some ((aQ true x3.1 false),()))
      (
       some (false,())))
     (
      some (false,())))
    (
     some (false,())))
   (
    br (aQ false true (Bool.not x1.1.1))
    (
     br (iQ x1.2.1 x2.2.2.1)
     (
      br (aQ true (Bool.not x2.2.1) false)
      (
       br (aQ true (iQ (Int.ofNat (List.length x2.1.2.1)) (0:Int)) false)
       (
        ar (F3 ()) fun x3=>
        some ((aQ true x3.1 false),()))
       (
        some (false,())))
      (
       some (false,())))
     (
      some (false,())))
    (
     br (iQ x2.2.2.1 (0:Int))
     (
      br (aQ true x2.2.1 false)
      (
       br (aQ true (iQ (Int.ofNat (List.length x2.1.2.1)) x1.1.2.1) false)
       (
        br (aQ true (iE x1.1.2.1 a1) false)
        (
         ar (F0 (a0,(((x2.1.1.1,(x2.1.1.2.1,())),(x2.1.2.1,(x2.1.2.2.1,()))),()))) fun x3=>
         br (aQ true x3.1 false)
         (
          ar (F3 ()) fun x4=>
          some ((aQ true x4.1 false),()))
         (
          some (false,())))
        (
         some (false,())))
       (
        some (false,())))
      (
       some (false,())))
     (
      some (false,()))))))
def aaf(c0:EK)(c1:Fy)(c2:yg)(c3:EE)(c4:Ig) :OU:=⟨u2 (aae c0.F c1.F c2.F c3.F c4.F),pD Tryz.func6 81 (kD c0 (kD c1 (kD c2 (kD c3 (kD c4 k0))))) e0 1 (sS l0) fun d=>by kernel_rfl⟩
def OV:OU:=aaf PI Qt Fc Pm U6
def OS:aag:=OV.F
def gH(n:ax):List (List Bool)->mg->List j6->Option (List j6×mg)
 |[],s,acc=>some (acc,s)|x::xs,s,acc=>if x.length≠n.aJ.length then none else gH n xs (stp n s x) (acc++[mB n s x])
theorem afr{n:ax}{V:Nat}(hs:cq n V):∀(xs:List (List Bool)) (s:mg) (acc:List j6) (K:Nat) (r:List j6×mg),iB n K s.1 s.2->gH n xs s acc=some r->iB n (K+4*xs.length) r.2.1 r.2.2:=by
 intro xs
 induction xs with
 |nil=>intro s acc K r ok h;rw[gH]at h;obtain rfl:=Option.some.inj h;exact ok
 |cons x xs ih=>
  intro s acc K r ok h;rw[gH]at h;by_cases hw:x.length≠n.aJ.length
  .rw[if_pos hw]at h;cases h
  .rw[if_neg hw]at h;have:=ih (stp n s x) _ (K+4) r (BQ hs ok _) h;rw[List.length_cons,show K+4*(xs.length+1)=K+4+4*xs.length by omega];exact this
theorem aeJ{n:ax}:∀(xs:List (List Bool)) (s:mg) (acc:List j6) (r:List j6×mg),gH n xs s acc=some r->(∀c∈acc,c.1.length=n.ba.length)->r.1.length=acc.length+xs.length/\∀c∈r.1,c.1.length=n.ba.length:=by
 intro xs
 induction xs with
 |nil=>intro s acc r h ha;rw[gH]at h;obtain rfl:=Option.some.inj h;exact⟨rfl,ha⟩
 |cons x xs ih=>
  intro s acc r h ha;rw[gH]at h;by_cases hw:x.length≠n.aJ.length
  .rw[if_pos hw]at h;cases h
  .rw[if_neg hw]at h;obtain⟨h1,h2⟩:=ih (stp n s x) _ r h (by
    intro c hc;rw[List.mem_append]at hc;rcases hc with hc|hc
    .exact ha c hc
    .obtain rfl:=List.mem_singleton.1 hc;exact FM _)
   refine⟨?_,h2⟩;rw[h1,List.length_append,List.length_cons,List.length_cons,List.length_nil];omega
def ka(n:ax)(ls:List Bool)(cs:List (List aO))(ins:List (List Bool)):List j6×mg×Int:=if Pl.cL n≠0 then([],([],[]),Pl.cL n)else if dX (bc n) (ls,(cs,()))=false then([],([],[]),14)else match gH n ins (ls,cs) []with|none=>([],([],[]),1)|some r=>(r.1,r.2,0)
section
variable{n:ax}{V:Nat}(hs:cq n V)(ft:Fit n)
include hs ft
theorem af2(ins:List (List Bool))(hI:ins.length<=200):∀(xs:List (List Bool)) (i:Nat) (s:mg) (acc:List j6) (N:Nat),ins.drop i=xs->i+xs.length=ins.length->xs.length<N->iB n (4096+4*i) s.1 s.2->acc.length<=i ->
  aR (fun d=>nJ mQ d.1 d.2.1 d.2.2.1 d.2.2.2.1 d.2.2.2.2.1 d.2.2.2.2.2.1 d.2.2.2.2.2.2.1 d.2.2.2.2.2.2.2.1 d.2.2.2.2.2.2.2.2.1 d.2.2.2.2.2.2.2.2.2.1 d.2.2.2.2.2.2.2.2.2.2.1 d.2.2.2.2.2.2.2.2.2.2.2.1 d.2.2.2.2.2.2.2.2.2.2.2.2.1 d.2.2.2.2.2.2.2.2.2.2.2.2.2.1 d.2.2.2.2.2.2.2.2.2.2.2.2.2.2.1) N (ins,((ins.length:Int),((i:Int),(acc,mc n (aU n V) s.1 (bt n s.2) ())))) =
   some (match gH n xs s acc with|none=>.inl ((1:Int),())|some r=>.inr (r.1,mc n (aU n V) r.2.1 (bt n r.2.2) ())):=by
 intro xs
 induction xs with
 |nil=>
  intro i s acc N hd hl hN ok ha;obtain⟨N,rfl⟩:∃M,N=M+1:=⟨N-1,by simp at hN;omega⟩;have hil:¬(i:Int)<(ins.length:Int):=by simp at hl;omega
  have hB:nJ mQ ins (ins.length:Int) (i:Int) acc n.vars n.aJ (n.au.map bL) n.bJ n.ba n.constraints (n.aa.map aq) (n.aM.map dj) ((aU n V).map (fun x=>cY x.1)) s.1 (bt n s.2)=some (.inr (.inr (acc,mc n (aU n V) s.1 (bt n s.2) ()))):=by unfold nJ;exact af (av hil) rfl
  unfold mc nt at hB |-;simp only[aR,hB,gH]
 |cons x xs ih=>
  intro i s acc N hd hl hN ok ha;rw[List.length_cons]at hl hN;obtain⟨N,rfl⟩:∃M,N=M+1:=⟨N-1,by omega⟩;have hil:i<ins.length:=by omega
  have hx:ins[i]?=some x:=by have:=congrArg (fun l:List (List Bool)=>l[0]?) hd;simpa using this
  have hd':ins.drop (i+1)=xs:=by have:=congrArg List.tail hd;simpa using this
  have g:gt (.sl .bool) ins (i:Int)=x:=bn (σ:=.sl .bool) hx;have aT:aw (i:Int) (List.length ins)=true:=aN ⟨by omega,by omega⟩;have hlt:iL (i:Int) (ins.length:Int)=true:=aj (by omega);by_cases hw:x.length≠n.aJ.length
  .have es:mQ (gt (.sl .bool) ins (i:Int),mc n (aU n V) s.1 (bt n s.2) ())=some (false,((1:Int),mc n (aU n V) s.1 (bt n s.2) ([],()))):=by rw[g];exact alm hs (aU n V) s.1 x (bt n s.2) hw
   have hB:nJ mQ ins (ins.length:Int) (i:Int) acc n.vars n.aJ (n.au.map bL) n.bJ n.ba n.constraints (n.aa.map aq) (n.aM.map dj) ((aU n V).map (fun x=>cY x.1)) s.1 (bt n s.2)=some (.inr (.inl ((1:Int),()))):=by unfold nJ;exact ao hlt (ak aT (ag es (ao rfl (ak rfl rfl))))
   unfold mc nt;simp only[aR,hB,gH,if_pos hw]
  .have hw':x.length=n.aJ.length:=by simpa using hw
   have es:mQ (gt (.sl .bool) ins (i:Int),mc n (aU n V) s.1 (bt n s.2) ())=some (oK n (jF n s.1 s.2 x),((0:Int),mc n (aU n V) (stp n s x).1 (bt n (stp n s x).2) (j2 n (jF n s.1 s.2 x),()))):=by rw[g];exact Rb hs ft (by omega) s.1 x s.2 ok hw'
   have okn:=BQ hs ok (jF n s.1 s.2 x);have hB:nJ mQ ins (ins.length:Int) (i:Int) acc n.vars n.aJ (n.au.map bL) n.bJ n.ba n.constraints (n.aa.map aq) (n.aM.map dj) ((aU n V).map (fun x=>cY x.1)) s.1 (bt n s.2)=some (.inl (ins,((ins.length:Int),(((i+1:Nat):Int),(acc++[mB n s x],mc n (aU n V) (stp n s x).1 (bt n (stp n s x).2) ()))))):=by
    unfold nJ;have e:∀(p q:Int) (A B:List j6),p=q->A=B->(some (.inl (ins,((ins.length:Int),(p,(A,mc n (aU n V) (stp n s x).1 (bt n (stp n s x).2) ()))))):Option (TL yo.σs⊕Out yl))=some (.inl (ins,((ins.length:Int),(q,(B,mc n (aU n V) (stp n s x).1 (bt n (stp n s x).2) ()))))):=by rintro _ _ _ _ rfl rfl;rfl
    exact ao hlt (ak aT (ag es (af rfl (ak (afl acc _ (by omega)) (e _ _ _ _ (bG (show(i:Int)+1=((i+1:Nat):Int) by omega) (by omega)) rfl)))))
   have hI2:=ih (i+1) (stp n s x) (acc++[mB n s x]) N hd' (by omega) (by omega) (by rw[show 4096+4*(i+1)=4096+4*i+4 by omega];exact okn) (by rw[List.length_append];simp;omega);have hp:gH n (x::xs) s acc=gH n xs (stp n s x) (acc++[mB n s x]):=by rw[gH,if_neg hw]
   rw[hp,<-hI2];unfold mc nt at hB |-;simp only[aR,hB]
end
section
variable{n:ax}(ft:Fit n)(ls:List Bool)(cs:List (List aO))(ins:List (List Bool))
include ft
theorem afo(hok:nC cs)(hI:ins.length<=200)(hb:ls.length<=1000000) :
  ab3 (bc n,((ls,(cs,())),(ins,())))=some ((ka n ls cs ins).1,(((ka n ls cs ins).2.1.1,((ka n ls cs ins).2.1.2,())),((ka n ls cs ins).2.2,()))):=by
 by_cases hc:Pl.cL n=0
 .cases hf:dX (bc n) (ls,(cs,()))with
  |false=>
   have hr:ka n ls cs ins=([],([],[]),14):=by unfold ka;rw[if_neg (fun q=>q hc),if_pos hf]
   rw[hr];exact ag (ael ft ls cs hc hf) (ak rfl (ak rfl rfl))
  |true=>
   obtain⟨V,hs,h0,hV,ha⟩:=Yq hc;have en:=RW ft ls cs hc hf hb;rw[hV]at en;have ok:=YQ hf hok;have e5:=af2 hs ft ins hI ins 0 (ls,cs) [] NN rfl (by omega) (bA (by omega)) ok (Nat.le_refl _);have e5':ab4 (ins,((Int.ofNat (List.length ins)),((0:Int),([],mc n (aU n V) ls (bt n cs) ()))))=some (match gH n ins (ls,cs) []with|none=>.inl ((1:Int),())|some r=>.inr (r.1,mc n (aU n V) r.2.1 (bt n r.2.2) ())):=e5;cases hr:gH n ins (ls,cs) []with
   |none=>
    have hR:ka n ls cs ins=([],([],[]),1):=by unfold ka;rw[if_neg (fun q=>q hc),if_neg (by rw[hf];simp),hr]
    rw[hr]at e5';rw[hR];exact ag en (af rfl (ag e5' rfl))
   |some r=>
    have hR:ka n ls cs ins=(r.1,r.2,0):=by unfold ka;rw[if_neg (fun q=>q hc),if_neg (by rw[hf];simp),hr]
    rw[hr]at e5';rw[hR];have okr:=afr hs ins (ls,cs) [] 4096 r ok hr;have es:=Ra hs (aU n V) (K:=4096+4*ins.length) (by omega) okr;exact ag en (af rfl (ag e5' (ag es rfl)))
 .have hr:ka n ls cs ins=([],([],[]),Pl.cL n):=by unfold ka;rw[if_pos hc]
  rw[hr];exact ag (afc ft ls cs hc) (ak (fD (av hc)) (ak (aj rfl) rfl))
end
def iG(L:List (List Bool))(t:Nat):List (List Bool):=(List.range L.length).map fun p=>if p<t\/L.length<=p+t then L.getD (L.length-1-p) []else L.getD p []
theorem nK(L:List (List Bool))(t:Nat):(iG L t).length=L.length:=by unfold iG;rw[List.length_map,List.length_range]
theorem rF{L:List (List Bool)}{t p:Nat}(hp:p<L.length):(iG L t)[p]?=some (if p<t\/L.length<=p+t then L.getD (L.length-1-p) []else L.getD p []):=by unfold iG;rw[List.getElem?_map,List.getElem?_range hp];rfl
theorem acm{L:List (List Bool)}{t:Nat}(h:t<L.length-1-t):((iG L t).set t (L.getD (L.length-1-t) [])).set (L.length-1-t) (L.getD t [])=iG L (t+1):=by
 refine List.ext_getElem? fun p=>?_;by_cases hp:p<L.length
 .rw[rF hp,List.getElem?_set,List.length_set,nK,List.getElem?_set,nK,rF hp];by_cases e1:L.length-1-t=p
  .rw[if_pos e1,if_pos (by omega),if_pos (.inr (by omega))];congr 2;omega
  .rw[if_neg e1];by_cases e2:t=p
   .rw[if_pos e2,if_pos (by omega),if_pos (.inl (by omega)),e2]
   .rw[if_neg e2];by_cases e3:p<t\/L.length<=p+t
    .rw[if_pos e3,if_pos (by omega)]
    .rw[if_neg e3,if_neg (by omega)]
 .rw[List.getElem?_eq_none (by rw[List.length_set,List.length_set,nK];omega),List.getElem?_eq_none (by rw[nK];omega)]
theorem afj(L:List (List Bool)):iG L 0=L:=by
 refine List.ext_getElem? fun p=>?_;by_cases hp:p<L.length
 .rw[rF hp,if_neg (by omega),List.getD_eq_getElem?_getD,List.getElem?_eq_getElem hp];rfl
 .rw[List.getElem?_eq_none (by rw[nK];omega),List.getElem?_eq_none (by omega)]
theorem adj(L:List (List Bool)):iG L (L.length / 2)=L.reverse:=by
 refine List.ext_getElem? fun p=>?_;by_cases hp:p<L.length
 .rw[rF hp,List.getElem?_reverse hp];have hq:L.length-1-p<L.length:=by omega
  rw[List.getElem?_eq_getElem hq];by_cases e:p<L.length / 2\/L.length<=p+L.length / 2
  .rw[if_pos e,List.getD_eq_getElem?_getD,List.getElem?_eq_getElem hq];rfl
  .have hpq:L.length-1-p=p:=by omega
   rw[if_neg e,<-List.getElem?_eq_getElem hq,hpq,List.getD_eq_getElem?_getD,List.getElem?_eq_getElem hp];rfl
 .rw[List.getElem?_eq_none (by rw[nK];omega),List.getElem?_eq_none (by rw[List.length_reverse];omega)]
theorem afk(L:List (List Bool))(hL:L.length<=100000):aaa (L,())=some (L.reverse,()):=by
 have e1:Eb ((0:Int),((L.length:Int)-1,(L,())))=some (L.reverse,()):=by
  unfold Eb;delta u3;refine cP (fun t:Nat=>((t:Int),((L.length:Int)-1-(t:Int),(iG L t,())))) (L.length / 2) (by rw[afj,show(L.length:Int)-1-((0:Nat):Int)=(L.length:Int)-1 by omega];rfl) ?_ ?_ (bA (by omega))
  .intro t ht;have hj:(L.length:Int)-1-(t:Int)=((L.length-1-t:Nat):Int):=by omega
   have hlt:t<L.length-1-t:=by omega
   have ga:gt (.sl .bool) (iG L t) ((L.length-1-t:Nat):Int)=L.getD (L.length-1-t) []:=by have e:=rF (L:=L) (t:=t) (p:=L.length-1-t) (by omega);rw[if_neg (by omega)]at e;exact bn (σ:=.sl .bool) e
   have gb:gt (.sl .bool) (iG L t) (t:Int)=L.getD t []:=by have e:=rF (L:=L) (t:=t) (p:=t) (by omega);rw[if_neg (by omega)]at e;exact bn (σ:=.sl .bool) e
   have i1:aw ((L.length-1-t:Nat):Int) (List.length (iG L t))=true:=aN ⟨by omega,by rw[nK];omega⟩;have i2:aw (t:Int) (List.length (iG L t))=true:=aN ⟨by omega,by rw[nK];omega⟩;have i3:aw ((L.length-1-t:Nat):Int) (List.length (List.set (iG L t) (Int.toNat (t:Int)) (gt (.sl .bool) (iG L t) ((L.length-1-t:Nat):Int))))=true:=aN ⟨by omega,Int.ofNat_lt.2 (Nat.lt_of_lt_of_le (by omega) (Nat.le_of_eq (List.length_set.trans (nK L t)).symm))⟩;have es:List.set (List.set (iG L t) (Int.toNat (t:Int)) (gt (.sl .bool) (iG L t) ((L.length-1-t:Nat):Int))) (Int.toNat ((L.length-1-t:Nat):Int)) (gt (.sl .bool) (iG L t) (t:Int))=iG L (t+1):=by rw[ga,gb,Int.toNat_natCast,Int.toNat_natCast];exact acm hlt
   have w1:IntKind.wrap .i64 ((t:Int)+1)=((t+1:Nat):Int):=bG (x:=(t:Int)+1) (n:=t+1) (by omega) (by omega);have w2:IntKind.wrap .i64 (((L.length-1-t:Nat):Int)-1)=(L.length:Int)-1-((t+1:Nat):Int):=by rw[bK (by omega)];omega
   have e:∀(a b c d:Int) (A B:List (List Bool)),a=b->c=d->A=B->(some (.inl (a,(c,(A,())))):Option (TL xh.σs⊕Out xg))=some (.inl (b,(d,(B,())))):=by rintro _ _ _ _ _ _ rfl rfl rfl;rfl
   rw[hj];exact ao (aj (show(t:Int)<((L.length-1-t:Nat):Int) by omega)) (ak i1 (ak i2 (ak i2 (ak i3 (ak (aj rfl) (e _ _ _ _ _ _ w1 w2 es))))))
  .rw[adj];exact af (av (show ¬((L.length / 2:Nat):Int)<(L.length:Int)-1-((L.length / 2:Nat):Int) by omega)) rfl
 have hw:IntKind.wrap .i64 (Int.ofNat (List.length L)-1)=(L.length:Int)-1:=bK (by show -9223372036854775808<=(L.length:Int)-1/\(L.length:Int)-1<=_;omega);have e1':∀a:Int,a=(L.length:Int)-1->Eb ((0:Int),(a,(L,())))=some (L.reverse,()):=by rintro _ rfl;exact e1
 exact ag (e1' _ hw) rfl
def OC:zo.T:=(([],([],())),([],((0:Int),())))
section
variable{n:ax}{V:Nat}(t:fN n V)(ft:Fit n)
include t ft
theorem ab2{m d:Nat}(hm:m=2^n.aJ.length)(hd:d<=2000){i:Nat}{x:sV×List Nat}(hr:l9 n (bH n) m d (dE n)=.inl (i,.inl x)) :
  ∃(fw:List Nat) (k0 k y:Nat),fw.length=i/\i<d/\qA (bH n) m fw k0 k/\(∃j∈fY n (2^wid n),cU n j=k0)/\y<m/\k<2^wid n/\pc (bH n) k y /\
   yj (bc n,((d:Int),()))=some ((jX n k0,(ff n (fw++[y]),((bH n).bd k y,()))),(true,((0:Int),()))):=by
 obtain⟨hi,k,hk,hkW,hy,hc,hh⟩:=adh (n:=n) (c:=bH n) (fun k y=>oI t k y) (BV t) (adI t m) hr;have hp:=oD t;have hm64:m<=64:=by rw[hm];exact Nat.pow_le_pow_right (n:=2) (by omega) (show n.aJ.length<=6 from t.ins)
 have eb:=ug t ft;have er:=FX t ft (fun k _=>yE t k) hm (d:=d) (by omega) (BV t);have hV:n.vars.toNat=V:=by rw[t.hs.vars];rfl
 rw[hV]at eb;rw[hr]at er;obtain⟨fw,k0,y0,f1,f2,f3,f4⟩:=aer t hm64 (bP n) ((bH n).bd k x.1.2.1) x.1.2.2.how (bM x.2) (aU n V) x.1.2.2.ls x.1.2.2.rs i k x.1.2.1 [] NN hc hy (bA (by omega)) (by show 0+i<=5000;omega);refine⟨fw,k0,k,x.1.2.1,f1,hi,f2,f3,hy,hkW,hh,?_⟩;have hk0:k0<=1024:=by obtain⟨j,_,rfl⟩:=f3;have:cU n j<2^wid n:=Nat.lt_of_lt_of_le (lZ _) (Nat.pow_le_pow_right (by omega) (uk t _ (rG t j).1));omega
 have hd2:iL (2000:Int) (d:Int)=false:=av (by omega);have e2:tV ((d:Int),nt n (bP n,((dE n).how,(bM (dE n).next,mc n (aU n V) (dE n).ls (dE n).rs ()))))=some (((x.2.getD x.1.1 0:Nat):Int),((x.1.2.1:Int),((bH n).bd (x.2.getD x.1.1 0) x.1.2.1,(((i+1:Nat):Int),((0:Int),nt n (bP n,(x.1.2.2.how,jV n (aU n V) (bM x.2,(x.1.2.2.ls,(x.1.2.2.rs,())))))))))):=ag er rfl;rw[hk]at e2;have f4:abg (nt n ((bH n).bd k x.1.2.1,([],nt n (bP n,(x.1.2.2.how,(bM x.2,mc n (aU n V) x.1.2.2.ls x.1.2.2.rs ((k:Int),((x.1.2.1:Int),()))))))))=some ((bH n).bd k x.1.2.1,(ff n (fw++[x.1.2.1]).reverse,nt n (bP n,(x.1.2.2.how,(bM x.2,mc n (aU n V) x.1.2.2.ls x.1.2.2.rs ((k0:Int),((y0:Int),()))))))):=f4;have e5:=afk (ff n (fw++[x.1.2.1]).reverse) (by unfold ff;rw[List.length_map,List.length_reverse,List.length_append,f1];show i+1<=_;omega);have er5:(ff n (fw++[x.1.2.1]).reverse).reverse=ff n (fw++[x.1.2.1]):=by unfold ff;rw[List.map_reverse,List.reverse_reverse]
 rw[er5]at e5;have e6:iZ (IntKind.wrap .u64 (k0:Int),(bP n,()))=some (bN k0 (wid n),()):=by rw[Gm hk0,t.wd];exact oB k0 (wid n) (by have:=t.ow;omega) (by omega)
 have e7:=(FL t ft hk0).1;exact ag eb (af (df (aj rfl)) (af (av (show ¬(d:Int)<0 by omega)) (af (show aQ false true (iL 2000 (d:Int))=false by rw[hd2];rfl) (ag e2 (af (av (show ¬((i+1:Nat):Int)=0 by omega)) (ag f4 (ag e5 (ag e6 (ag e7 (ak (aj rfl) rfl))))))))))
theorem acj{m d:Nat}(hm:m=2^n.aJ.length)(hd:d<=2000){y:Int×Qs}(hr:(∃i,l9 n (bH n) m d (dE n)=.inl (i,.inr y))\/l9 n (bH n) m d (dE n)=.inr y) :
  yj (bc n,((d:Int),()))=some (OC,(false,((0:Int),()))):=by
 have eb:=ug t ft;have er:=FX t ft (fun k _=>yE t k) hm (d:=d) (by omega) (BV t);have hV:n.vars.toNat=V:=by rw[t.hs.vars];rfl
 rw[hV]at eb;have hd2:iL (2000:Int) (d:Int)=false:=av (by omega);have e2:tV ((d:Int),nt n (bP n,((dE n).how,(bM (dE n).next,mc n (aU n V) (dE n).ls (dE n).rs ()))))=some ((0:Int),((0:Int),((0:Int),((0:Int),(y.1,nt n (bP n,(y.2.how,jV n (aU n V) (bM y.2.next,(y.2.ls,(y.2.rs,())))))))))):=by
  rcases hr with⟨i,hr⟩|hr
  .rw[hr]at er;exact ag er rfl
  .rw[hr]at er;exact ag er rfl
 exact ag eb (af (df (aj rfl)) (af (av (show ¬(d:Int)<0 by omega)) (af (show aQ false true (iL 2000 (d:Int))=false by rw[hd2];rfl) (ag e2 (ao (aj rfl) rfl)))))
theorem aeA{m:Nat}(k y:Nat):stp n (bo n k) (bN y n.aJ.length)=bo n ((bH n).nx k y):=(Rq t (BQ t.hs (yF t k) (jU n k y))).symm
theorem Ru{m:Nat}:∀(fw:List Nat) (k0 k y:Nat) (acc:List j6),qA (bH n) m fw k0 k ->
  ∃cs e,gH n (ff n (fw++[y])) (bo n k0) acc=some (acc++cs++[mB n (bo n k) (bN y n.aJ.length)],e)/\cs.length=fw.length/\∀c∈cs,c.2.1=true
 |[],k0,k,y,acc,h=>by obtain rfl:k0=k:=h;refine⟨[],stp n (bo n k0) (bN y n.aJ.length),?_,rfl,fun c hc=>nomatch hc⟩;show gH n [bN y n.aJ.length] (bo n k0) acc=_;rw[gH,if_neg (fun q=>q (j7 _ _)),gH,List.append_nil]
 |z::fw,k0,k,y,acc,h=>by
  obtain⟨h1,h2,h3⟩:=h;obtain⟨cs,e,i1,i2,i3⟩:=Ru fw ((bH n).nx k0 z) k y (acc++[mB n (bo n k0) (bN z n.aJ.length)]) h3;refine⟨mB n (bo n k0) (bN z n.aJ.length)::cs,e,?_,by rw[List.length_cons,List.length_cons,i2],fun c hc=>?_⟩
  .show gH n (bN z n.aJ.length::ff n (fw++[y])) (bo n k0) acc=_;rw[gH,if_neg (fun q=>q (j7 _ _)),aeA t ft (m:=m),i1];simp
  .rcases List.mem_cons.1 hc with rfl|hc
   .exact h2
   .exact i3 c hc
end
section
variable{n:ax}(ft:Fit n)(ls:List Bool)(cs:List (List aO))(ins:List (List Bool))(bad:Int)
theorem afD(L:List j6)(hL:L.length<=100000)(hb:∀c∈L,c.1.length=n.ba.length)(hf:∀c∈L,c.2.1=true) :
  Pz (L,((0:Int),nt n (ls,(cs,(ins,(bad,()))))))=some (.inr (L,(ls,(cs,(ins,(bad,())))))):=by
 unfold Pz;delta fX;refine cP (fun i:Nat=>(L,((i:Int),nt n (ls,(cs,(ins,(bad,()))))))) L.length rfl ?_ ?_ (bA (by omega))
 .intro i hi;have hx:=List.getElem?_eq_getElem hi;have g:gt h9 L (i:Int)=L[i]:=bn (σ:=h9) hx;have aT:aw (i:Int) (List.length L)=true:=aN ⟨by omega,by omega⟩;have hbl:=hb _ (List.getElem_mem hi);have e:∀p q:Int,p=q->(some (.inl (L,(p,nt n (ls,(cs,(ins,(bad,()))))))):Option (TL xz.σs⊕Out xw))=some (.inl (L,(q,nt n (ls,(cs,(ins,(bad,()))))))):=by rintro _ _ rfl;rfl
  exact ao (aj (show(i:Int)<((L.length:Nat):Int) by omega)) (ak aT (af (df (show(gt h9 L (i:Int)).2.1=true from by rw[g];exact hf _ (List.getElem_mem hi))) (ak aT (af (show aQ false true (Bool.not (iQ (Int.ofNat (List.length (gt h9 L (i:Int)).1)) (Int.ofNat (List.length n.ba))))=false from df (aj (by rw[g];exact congrArg Int.ofNat hbl))) (e _ _ (bG (show(i:Int)+1=((i+1:Nat):Int) by omega) (by omega)))))))
 .exact af (av (show ¬(L.length:Int)<(L.length:Int) by omega)) rfl
end
section
variable{n:ax}{V:Nat}(t:fN n V)(ft:Fit n)
include t ft
theorem acz{m:Nat}{fw:List Nat}{k0 k y:Nat}(hl:fw.length<=100)(h:qA (bH n) m fw k0 k)(h0:∃j∈fY n (2^wid n),cU n j=k0)(hh:pc (bH n) k y) :
  aaM (bc n,((jX n k0,(ff n (fw++[y]),((bH n).bd k y,()))),()))=some (true,()):=by
 obtain⟨j,hj,rfl⟩:=h0;have hsj:bo n (cU n j)=bo n j:=Rq t (yF t j);have hleg:om (bc n) (bo n (cU n j)).1 (bo n (cU n j)).2=0:=by rw[hsj];unfold fY at hj;exact of_decide_eq_true (List.mem_filter.1 hj).2
 have hok:=R5 t.hs (yF t (cU n j));have el:=Ts (bc n) (bo n (cU n j)).1 (bo n (cU n j)).2 (ot ft) (YB ft).1 (YB ft).2 hok;have hil:(ff n (fw++[y])).length=fw.length+1:=by unfold ff;rw[List.length_map,List.length_append];rfl
 have er:=afo ft (bo n (cU n j)).1 (bo n (cU n j)).2 (ff n (fw++[y])) hok (by omega) (by rw[(rG t _).1];have:=t.hs.lens.2.1;omega);obtain⟨cs,e,i1,i2,i3⟩:=Ru t ft fw (cU n j) k y [] h;rw[List.nil_append]at i1;have hf:=yE t (cU n j);have hR:ka n (bo n (cU n j)).1 (bo n (cU n j)).2 (ff n (fw++[y]))=(cs++[mB n (bo n k) (bN y n.aJ.length)],e,0):=by unfold ka;rw[if_neg (fun q=>q t.hc),if_neg (by rw[hf];simp),show((bo n (cU n j)).1,(bo n (cU n j)).2)=bo n (cU n j)from rfl,i1]
 rw[hR]at er;obtain⟨L,hL⟩:∃L,L=cs++[mB n (bo n k) (bN y n.aJ.length)]:=⟨_,rfl⟩;rw[<-hL]at er;have hLl:L.length=fw.length+1:=by rw[hL,List.length_append,i2];rfl
 have hbl:∀c∈L,c.1.length=n.ba.length:=by obtain⟨_,k2⟩:=aeJ (ff n (fw++[y])) (bo n (cU n j)) [] _ i1 (fun c hc=>nomatch hc);rw[hL];exact k2
 have hfl:∀c∈L,c.2.1=true:=by
  rw[hL];intro c hc;rcases List.mem_append.1 hc with a|a
  .exact i3 c a
  .rw[List.mem_singleton.1 a];exact hh.1
 have e7:=afD (n:=n) (bo n (cU n j)).1 (bo n (cU n j)).2 (ff n (fw++[y])) ((bH n).bd k y) L (by omega) hbl hfl;obtain⟨b,hb1,hb2,hb3⟩:=ae0 hh.2;have hb1:(bH n).bd k y=(b:Int):=hb1;have hbb:(j2 n (jU n k y)).length=n.ba.length:=FM _;have hlast:L[fw.length]?=some (mB n (bo n k) (bN y n.aJ.length)):=by rw[hL,List.getElem?_append_right (by omega),i2,Nat.sub_self];rfl
 have hW:IntKind.wrap .i64 (Int.ofNat (List.length L)-1)=(fw.length:Int):=by rw[bK (by show -9223372036854775808<=(L.length:Int)-1/\(L.length:Int)-1<=_;omega)];show(L.length:Int)-1=_;omega
 have g1:gt h9 L (IntKind.wrap .i64 (Int.ofNat (List.length L)-1))=mB n (bo n k) (bN y n.aJ.length):=by rw[hW];exact bn (σ:=h9) hlast
 have c1:aw (IntKind.wrap .i64 (Int.ofNat (List.length L)-1)) (List.length L)=true:=by rw[hW];exact aN ⟨by omega,by omega⟩
 have c2:aw ((bH n).bd k y) (List.length (gt h9 L (IntKind.wrap .i64 (Int.ofNat (List.length L)-1))).1)=true:=by rw[g1,hb1];exact aN ⟨by omega,by show(b:Int)<((j2 n (jU n k y)).length:Int);omega⟩
 have c3:gt .bool (gt h9 L (IntKind.wrap .i64 (Int.ofNat (List.length L)-1))).1 ((bH n).bd k y)=true:=by rw[g1,hb1];have hp:=(YE _ _ _ _ hb3).2.2.1;have hp:(j2 n (jU n k y)).getD b false=true:=hp;show gt .bool (j2 n (jU n k y)) (b:Int)=true;rw[adJ hb2];exact hp
 have q1:aQ false true (iQ (Int.ofNat (List.length (ff n (fw++[y])))) 0)=false:=by have:iQ (Int.ofNat (List.length (ff n (fw++[y])))) 0=false:=av (by rw[hil];show ¬((fw.length+1:Nat):Int)=0;omega);rw[this];rfl
 have q2:aQ false true (iL ((bH n).bd k y) 0)=false:=by have:iL ((bH n).bd k y) 0=false:=av (by have:=hh.2;omega);rw[this];rfl
 have q3:aQ false true (iE (Int.ofNat (List.length n.ba)) ((bH n).bd k y))=false:=by have:iE (Int.ofNat (List.length n.ba)) ((bH n).bd k y)=false:=av (by rw[hb1];show ¬((n.ba.length:Nat):Int)<=(b:Int);omega);rw[this];rfl
 have q4:aQ false true (Bool.not (iQ (Int.ofNat (List.length L)) (Int.ofNat (List.length (ff n (fw++[y]))))))=false:=by have:iQ (Int.ofNat (List.length L)) (Int.ofNat (List.length (ff n (fw++[y]))))=true:=aj (by rw[hil,hLl]);rw[this];rfl
 exact ag el (af (df (aj hleg)) (af q1 (af q2 (af q3 (ag er (af (df (aj rfl)) (af q4 (ag e7 (ak c1 (ak c2 (congrArg (fun z:Bool=>(some (z,()):Option (TL xI))) c3)))))))))))
end
theorem aes{n:ax}(ft:Fit n)(h:jZ n≠0)(d:Int):yd (bc n,(d,()))=some ((false,((0:Int),(false,((0:Int),())))),(jZ n,()))/\yj (bc n,(d,()))=some (OC,(false,(jZ n,()))):=by have e1:Qd (nt n ())=some (.inl (jZ n,())):=ag (acw ft h) (ao (fD (av h)) rfl);exact⟨ag e1 (ao (fD (av h)) rfl),ag e1 (ao (fD (av h)) rfl)⟩
theorem adf{n:ax}{V:Nat}(t:fN n V)(ft:Fit n){d:Int}(h:d<0):yd (bc n,(d,()))=some ((false,((0:Int),(false,((0:Int),())))),((1:Int),()))/\yj (bc n,(d,()))=some (OC,(false,((1:Int),()))):=⟨ag (ug t ft) (af (df (aj rfl)) (ao (aj h) rfl)),ag (ug t ft) (af (df (aj rfl)) (ao (aj h) rfl))⟩
theorem abv(d:bg.T)(k:Int)(hd:mF bg d)(hk0:mF (.int .i64) k):OS (d,(k,()))=some (true,()):=by
 obtain⟨b,e,h⟩:=ag6 d;have al:=abR;cases b with
 |false=>exact ag e (ao rfl (ag al rfl))|true=>
  have ft:=aeZ hd (h rfl);obtain⟨n,rfl⟩:∃n,d=bc n:=⟨dS d,(DB d).symm⟩;rw[lE]at ft;by_cases h40:40<k
  .refine ag e (af rfl (ao ?_ (ag al rfl)));have q:iL 40 k=true:=aj h40;show aQ false true (iL 40 k)=true;rw[q];rfl
  have q40:aQ false true (iL 40 k)=false:=by have q:iL 40 k=false:=av h40;rw[q];rfl
  by_cases hsm:jZ n=0
  .obtain⟨V,t⟩:=aeG hsm;by_cases hk:k<0
   .obtain⟨e1,e2⟩:=adf t ft hk;exact ag e (af rfl (af q40 (ag e1 (ag e2 (ao (fD (av (by decide))) (ao (aj rfl) (ao rfl (ao rfl (ag al rfl)))))))))
   .obtain⟨j,rfl⟩:∃j:Nat,k=(j:Int):=⟨k.toNat,by omega⟩;have es:=aco t ft (fun k _=>yE t k) (m:=2^n.aJ.length) (d:=j) rfl (by omega);have none_:∀(y:Int×Qs),((∃i,l9 n (bH n) (2^n.aJ.length) j (dE n)=.inl (i,.inr y))\/l9 n (bH n) (2^n.aJ.length) j (dE n)=.inr y) ->
      yd (bc n,((j:Int),()))=some ((false,((0:Int),(decide ((y.2.next.length:Int)=0),(y.1,())))),((0:Int),()))->OS (bc n,((j:Int),()))=some (true,()):=by
     intro y hy e1;have e2:=acj t ft rfl (d:=j) (by omega) hy;exact ag e (af rfl (af q40 (ag e1 (ag e2 (af (df (aj rfl)) (ao rfl (ao (aj rfl) (ao rfl (ao rfl (ag al rfl))))))))))
    cases hr:l9 n (bH n) (2^n.aJ.length) j (dE n)with
    |inl r=>
     obtain⟨i,x|y⟩:=r
     .rw[hr]at es;obtain⟨fw,k0,kk,y,f1,f2,f3,f4,f5,f6,f7,e2⟩:=ab2 t ft rfl (d:=j) (by omega) hr;have eb:=acz t ft (by omega) f3 f4 f7;have hil:(ff n (fw++[y])).length=i+1:=by unfold ff;rw[List.length_map,List.length_append,f1];rfl
      have c1:aQ true (iQ (Int.ofNat (List.length (ff n (fw++[y])))) ((i+1:Nat):Int)) false=true:=SF (aj (by rw[hil];rfl));have c2:aQ true (iE ((i+1:Nat):Int) (j:Int)) false=true:=SF (aj (by omega));exact ag e (af rfl (af q40 (ag es (ag e2 (af (df (aj rfl)) (af rfl (ao (aj rfl) (ao rfl (ao c1 (ao c2 (ag eb (ao rfl (ag al rfl)))))))))))))
     .rw[hr]at es;exact none_ y (.inl ⟨i,hr⟩) es
    |inr y=>rw[hr]at es;exact none_ y (.inr hr) es
  .obtain⟨e1,e2⟩:=aes ft hsm k;exact ag e (af rfl (af q40 (ag e1 (ag e2 (ao (fD (av hsm)) (ao (aj rfl) (ao rfl (ao rfl (ag al rfl)))))))))
