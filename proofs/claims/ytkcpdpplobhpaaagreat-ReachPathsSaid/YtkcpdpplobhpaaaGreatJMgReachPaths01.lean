import Derived.Test.YtkcpdpplobhpaaaGreatJMgReachPaths00
set_option linter.unusedSectionVars false
set_option linter.unusedVariables false
set_option linter.unusedSimpArgs false
set_option linter.unnecessarySimpa false
section
namespace Go.Proofs.YtkcpdpplobhpaaaGreat.V
open Go Go.RowKit Go.Proofs.YtkcpdpplobhpaaaGreat.Pl
def wrV(val:Int->Bool)(ws:List mw)(a j:Nat)(b:Bool):Bool:=ws.foldl (fun x w=>if qV val w.on=true/\cp (w.addr.map (qV val))=a then qV val (li w.data j)else x) b
def lz:dx:=⟨0,0,0⟩
def la(L:List dx)(p:Nat):dx:=L.getD p lz
def afT(L:List bC):Nat:=L.foldl (fun a m=>a+(fW m+10*fW m*(m.reads.length+m.writes.length))) 0
structure GB(n:ax)(V k:Nat)(s:Mk)(L:List dx)(cv:Nat->Nat):Prop where
 lo:V<=s.v
 hi:s.v<=V+afT (n.aa.take k)
 new:∃N:List eK,s.a=n.aM++N/\(L.map (·.var)++N.map (·.var)).Perm (n.au.map (·.var)++((n.aa.take k).flatMap nv++fr V s.v)) /\
  ∀x∈N,(rH s.v x.a/\rH s.v x.b)/\(x.var∈(n.aa.take k).flatMap nv\/(x.a / 2<x.var/\x.b / 2<x.var))
 len:L.length=n.au.length+cD n k
 old:∀p,p<n.au.length->la L p=la n.au p
 nx:∀p,p<L.length->rH s.v (la L p).next
 cell:∀(i:Nat) (M:bC),i<k->n.aa[i]?=some M->V<=cv i/\cv i+fW M<=s.v/\∀q,q<fW M->(la L (n.au.length+cD n i+q)).var=((cv i+1+q:Nat):Int)/\(la L (n.au.length+cD n i+q)).init=(if M.any then 2 else 0)
 rd:∀val,Sat val s.a->∀(i:Nat) (M:bC),i<k->n.aa[i]?=some M->∀r∈M.reads,∀j:Nat,j<M.word.toNat->val (r.var+(j:Int))=val ((cv i+1+(cp (r.addr.map (qV val))*M.word.toNat+j):Nat):Int)
 wr:∀val,Sat val s.a->∀(i:Nat) (M:bC),i<k->n.aa[i]?=some M->∀a,a<2^M.addr.toNat->∀j,j<M.word.toNat->qV val (la L (n.au.length+cD n i+(a*M.word.toNat+j))).next=wrV val M.writes a j (val ((cv i+1+(a*M.word.toNat+j):Nat):Int))
 clo:∀G,Clo G s.a->(∀(i:Nat) (M:bC),i<k->n.aa[i]?=some M->∀q,q<fW M->G ((cv i+1+q:Nat):Int))->∀(i:Nat) (M:bC),i<k->n.aa[i]?=some M->∀r∈M.reads,(∀x∈r.addr,GL G x)->∀j:Nat,j<M.word.toNat->G (r.var+(j:Int))
set_option maxRecDepth 10000
theorem QL(n:ax):∀{i k:Nat},i<=k->cD n i<=cD n k:=by
 intro i k h
 induction h with
 |refl=>exact Nat.le_refl _|step h ih=>
  rename_i m;show cD n i<=cD n (m+1);rcases Nat.lt_or_ge m n.aa.length with q|q
  .rw[rz n (List.getElem?_eq_getElem q)];omega
  .have:cD n (m+1)=cD n m:=by unfold cD;rw[List.take_of_length_le q,List.take_of_length_le (by omega)]
   omega
theorem Ze{A B:List Bool}{p:Nat}(h:p<A.length):(A++B).getD p false=A.getD p false:=by rw[List.getD_eq_getElem?_getD,List.getD_eq_getElem?_getD,List.getElem?_append_left h]
theorem Zf{A B:List Bool}{p:Nat}:(A++B).getD (A.length+p) false=B.getD p false:=by rw[List.getD_eq_getElem?_getD,List.getD_eq_getElem?_getD,List.getElem?_append_right (by omega),Nat.add_sub_cancel_left]
theorem adA(m:bC)(c:List aO)(a:Nat){j:Nat}(h:j<m.word.toNat):(jM m c a).getD j false=decide ((rd c (a:Int)).toNat / 2^j % 2=1):=by unfold jM bN;rw[List.getD_eq_getElem?_getD,List.getElem?_map,List.getElem?_range h];rfl
theorem Rl(m:bC)(c:List aO):∀(N a j:Nat),a<N->j<m.word.toNat->(fQ m c N).getD (a*m.word.toNat+j) false=decide ((rd c (a:Int)).toNat / 2^j % 2=1)
 |0,a,j,h,_=>by omega|N+1,a,j,h,hj=>by
  rw[yr];have hl:=ui m c N;by_cases q:a<N
  .have:a*m.word.toNat+j<(fQ m c N).length:=by have:=Nat.mul_le_mul_right m.word.toNat (show a+1<=N from q);rw[Nat.succ_mul a]at this;omega
   rw[Ze this];exact Rl m c N a j q hj
  .obtain rfl:a=N:=by omega
   rw[<-hl,Zf];exact adA m c a hj
section
variable{n:ax}(ls:List Bool)(cs:List (List aO))(hcs:cs.length=n.aa.length)
include hcs
theorem yz:∀k,k<=n.aa.length->(fH n ls cs k).length=ls.length+cD n k
 |0,_=>by
  have:fH n ls cs 0=ls:=by unfold fH;simp
  rw[this];rfl
 |k+1,h=>by have hm:=List.getElem?_eq_getElem (show k<n.aa.length by omega);have hc:=List.getElem?_eq_getElem (show k<cs.length by omega);rw[uj n ls cs hm hc,List.length_append,yz k (by omega),ui,rz n hm];unfold fW;omega
end
section
variable{n:ax}(ls:List Bool)(cs:List (List aO))(hcs:cs.length=n.aa.length)
include hcs
theorem Sb:∀k,k<=n.aa.length->∀(i:Nat) (M:bC) (c:List aO),i<k->n.aa[i]?=some M->cs[i]?=some c->∀a j,a<2^M.addr.toNat->j<M.word.toNat ->
  (fH n ls cs k).getD (ls.length+cD n i+(a*M.word.toNat+j)) false=decide ((rd c (a:Int)).toNat / 2^j % 2=1)
 |0,_,i,M,c,hi,_,_,_,_,_,_=>by omega|k+1,hk,i,M,c,hi,hM,hc,a,j,ha,hj=>by
  have hk1:k<n.aa.length:=hk;have hk2:k<cs.length:=by rw[hcs];exact hk
  have hm:=List.getElem?_eq_getElem hk1;have hc':=List.getElem?_eq_getElem hk2;rw[uj n ls cs hm hc'];have hl:=yz ls cs hcs k (by omega);have hlt:a*M.word.toNat+j<fW M:=by have:=Nat.mul_le_mul_right M.word.toNat (show a+1<=2^M.addr.toNat from ha);rw[Nat.succ_mul a]at this;unfold fW;omega
  by_cases q:i<k
  .have h1:=rz n hM;have h2:=QL n (show i+1<=k from q);rw[Ze (by omega)];exact Sb k (by omega) i M c q hM hc a j ha hj
  .obtain rfl:i=k:=by omega
   have hM:=Option.some.inj (hm.symm.trans hM);have hc:=Option.some.inj (hc'.symm.trans hc);subst hM;subst hc;rw[<-hl,Zf];exact Rl _ _ _ a j ha hj
end
theorem oC(k:Nat):(2:Int)^k=((2^k:Nat):Int):=by push_cast;rfl
abbrev mO:=cW cX
structure iI where
 nx:Nat->Nat->Nat
 fi:Nat->Nat->Bool
 bd:Nat->Nat->Int
 ls:Nat->Nat->List Bool
 cs:Nat->Nat->List (List aO)
structure Qs where
 how:mO
 next:List Nat
 ls:List Bool
 rs:List cZ
def bM(l:List Nat):List Int:=l.map (fun k:Nat=>(k:Int))
def na(n:ax)(c:iI)(k y:Nat)(q:Qs):Qs⊕Qs:=match c.fi k y with|false=>.inr ⟨q.how,q.next,c.ls k y,bt n (c.cs k y)⟩|true=>match decide (0<=c.bd k y)with|true=>.inl ⟨q.how,q.next,c.ls k y,bt n (c.cs k y)⟩|false=>match dY q.how (c.nx k y:Int)with|true=>.inr ⟨q.how,q.next,c.ls k y,bt n (c.cs k y)⟩|false=>.inr ⟨dg (c.nx k y:Int) ((k:Int),((y:Int),())) q.how,q.next++[c.nx k y],c.ls k y,bt n (c.cs k y)⟩
def kb{Q R:Type}(stp:Nat->Q->R⊕Q):Nat->Nat->Q->(Nat×R)⊕Q
 |_,0,q=>.inr q|i,j+1,q=>match stp i q with|.inl r=>.inl (i,r)|.inr q=>kb stp (i+1) j q
def vM{D O Q R:Type}(f:Q->D)(g:R->O):R⊕Q->Option (D⊕O)
 |.inl r=>some (.inr (g r))|.inr q=>some (.inl (f q))
def nW{O Q R:Type}(g:R->O)(z:Q->O):R⊕Q->O
 |.inl r=>g r|.inr q=>z q
theorem yH{D O Q R:Type}{B:D->Option (D⊕O)}(stp:Nat->Q->R⊕Q)(f:Nat->Q->D)(g:Nat->R->O)(z:Q->O)(I:Nat->Q->Prop)(n:Nat)
  (hi:∀i q,i<n->I i q->(∃r,stp i q=.inl r)\/∃q2,stp i q=.inr q2/\I (i+1) q2)
  (he:∀q,I n q->B (f n q)=some (.inr (z q)))
  (hs:∀i q,i<n->I i q->B (f i q)=vM (f (i+1)) (g i) (stp i q)) :
  ∀j i q,i+j=n->I i q->∀N,j<N->aR B N (f i q)=some (nW (fun r=>g r.1 r.2) z (kb stp i j q))
 |0,i,q,hj,h,N,hN=>by
  obtain⟨N,rfl⟩:∃M,N=M+1:=⟨N-1,by omega⟩;obtain rfl:i=n:=by omega
  simp only[aR,he q h,kb,nW]
 |j+1,i,q,hj,h,N,hN=>by
  obtain⟨N,rfl⟩:∃M,N=M+1:=⟨N-1,by omega⟩;have e2:=hs i q (by omega) h;rcases hi i q (by omega) h with⟨r,e1⟩|⟨q2,e1,h2⟩
  .rw[e1]at e2;simp only[aR,e2,kb,e1,vM,nW]
  .rw[e1]at e2;simp only[aR,e2,kb,e1,vM];exact yH stp f g z I n hi he hs j (i+1) q2 (by omega) h2 N (by omega)
theorem rB{Q R:Type}{stp:Nat->Q->R⊕Q}(I:Nat->Q->Prop)(J:Nat->R->Prop)(n:Nat)
  (hs:∀i q,i<n->I i q->(∃r,stp i q=.inl r/\J i r)\/∃q2,stp i q=.inr q2/\I (i+1) q2) :
  ∀j i q,i+j=n->I i q->(∃r,kb stp i j q=.inl r/\r.1<n/\J r.1 r.2)\/∃q2,kb stp i j q=.inr q2/\I n q2
 |0,i,q,hi,h=>by
  obtain rfl:i=n:=by omega
  exact .inr ⟨q,rfl,h⟩
 |j+1,i,q,hi,h=>by
  rcases hs i q (by omega) h with⟨r,e1,e2⟩|⟨q2,e1,h2⟩
  .exact .inl ⟨(i,r),by simp only[kb,e1],by show i<n;omega,e2⟩
  .simp only[kb,e1];exact rB I J n hs j (i+1) q2 (by omega) h2
def tJ(n:ax)(c:iI)(m k:Nat)(q:Qs):(Nat×Qs)⊕Qs:=kb (na n c k) 0 m q
def B8(n:ax)(c:iI)(m:Nat)(l:List Nat)(i:Nat)(q:Qs):(Nat×Qs)⊕Qs:=tJ n c m (l.getD i 0) q
def ou(n:ax)(c:iI)(m:Nat)(l:List Nat)(q:Qs):(Nat×Nat×Qs)⊕Qs:=kb (B8 n c m l) 0 l.length q
abbrev sV:=Nat×Nat×Qs
def jR(n:ax)(c:iI)(m _:Nat)(q:Int×Qs):(sV×List Nat⊕Int×Qs)⊕(Int×Qs):=match ou n c m q.2.next ⟨q.2.how,[],q.2.ls,q.2.rs⟩with|.inl r=>.inl (.inl (r,q.2.next))|.inr q2=>match decide ((q2.next.length:Int)=0)with|true=>.inl (.inr ((q.2.how.length:Int),q2))|false=>.inr ((q.2.how.length:Int),q2)
def l9(n:ax)(c:iI)(m d:Nat)(q:Qs):=kb (jR n c m) 0 d ((0:Int),q)
structure dO(W:Nat)(q:Qs):Prop where
 jH:q.how.Pairwise (fun a b=>a.1<b.1)
 key:∀p∈q.how,0<=p.1/\p.1<(W:Int)
 len:q.next.length<=q.how.length+1024
 iN:∀k∈q.next,k<W
theorem FW{α:Type}:∀(M:List (Int×α)) (a W:Int),a<=W->M.Pairwise (fun a b=>a.1<b.1)->(∀p∈M,a<=p.1/\p.1<W)->(M.length:Int)<=W-a
 |[],a,W,h,_,_=>by simp;omega|p::M,a,W,h,hs,hk=>by have h1:=hk p (List.mem_cons_self ..);have hs:=List.pairwise_cons.1 hs;have:=FW M (p.1+1) W (by omega) hs.2 (fun q hq=>⟨by have:=hs.1 q hq;omega,(hk q (List.mem_cons_of_mem _ hq)).2⟩);rw[List.length_cons];push_cast;omega
theorem dO.many{W:Nat}{q:Qs}(h:dO W q):q.how.length<=W:=by have:=FW q.how 0 (W:Int) (by omega) h.jH h.key;omega
theorem QK{σ:Sh}{k:Int}:∀{M:cW σ},dY M k=false->∀p∈M,p.1≠k
 |[],_,p,hp=>nomatch hp
 |q::M,h,p,hp=>by
  unfold dY at h;by_cases e:q.1=k
  .rw[decide_eq_true e]at h;cases h
  .rw[decide_eq_false e]at h;rcases List.mem_cons.1 hp with rfl|hp
   .exact e
   .exact QK h p hp
theorem ach{σ:Sh}{k:Int}{v:σ.T}{M:cW σ}(h:dY M k=false):(dg k v M).length=M.length+1:=by rw[(QY (QK h)).length_eq,List.length_append];rfl
theorem Rr{n:ax}{c:iI}{W k y:Nat}{q:Qs}(hn:c.nx k y<W)(h:dO W q):(∃q2,na n c k y q=.inl q2/\dO W q2)\/∃q2,na n c k y q=.inr q2/\dO W q2:=by
 unfold na;cases c.fi k y with
 |false=>exact .inr ⟨_,rfl,⟨h.jH,h.key,h.len,h.iN⟩⟩|true=>
  cases decide (0<=c.bd k y)with
  |true=>exact .inl ⟨_,rfl,⟨h.jH,h.key,h.len,h.iN⟩⟩|false=>
   cases hm:dY q.how (c.nx k y:Int)with
   |true=>exact .inr ⟨_,rfl,⟨h.jH,h.key,h.len,h.iN⟩⟩|false=>
    refine .inr ⟨_,rfl,⟨w7 h.jH,fun p hp=>?_,?_,fun j hj=>?_⟩⟩
    .rcases FP hp with e|e
     .rw[e];omega
     .exact h.key p e
    .have e:=ach (σ:=cX) (v:=((k:Int),((y:Int),()))) hm;have hl:=h.len;have e2:(q.next++[c.nx k y]).length=q.next.length+1:=List.length_append;exact Nat.le_trans (Nat.le_of_eq e2) (Nat.le_trans (by omega:q.next.length+1<=(q.how.length+1)+1024) (Nat.le_of_eq (congrArg (·+1024) e.symm)))
    .rcases List.mem_append.1 hj with e|e
     .exact h.iN j e
     .rw[List.mem_singleton.1 e];exact hn
theorem FZ{n:ax}{c:iI}{W m k:Nat}{q:Qs}(hn:∀y,y<m->c.nx k y<W)(h:dO W q):(∃r,tJ n c m k q=.inl r/\r.1<m/\dO W r.2)\/∃q2,tJ n c m k q=.inr q2/\dO W q2:=rB (fun _ q=>dO W q) (fun _ q=>dO W q) m (fun i q hi h=>Rr (hn i hi) h) m 0 q (by omega) h
theorem Ri{W:Nat}{l:List Nat}(hl:∀k∈l,k<W){i:Nat}(hi:i<l.length):l.getD i 0<W:=by rw[List.getD_eq_getElem?_getD,List.getElem?_eq_getElem hi];exact hl _ (List.getElem_mem hi)
theorem yG{n:ax}{c:iI}{W m:Nat}(hn:∀k y,k<W->y<m->c.nx k y<W){l:List Nat}{q:Qs}(hl:∀k∈l,k<W)(h:dO W q):(∃r,ou n c m l q=.inl r/\r.1<l.length/\r.2.1<m/\dO W r.2.2)\/∃q2,ou n c m l q=.inr q2/\dO W q2:=rB (fun _ q=>dO W q) (fun _ (r:Nat×Qs)=>r.1<m/\dO W r.2) l.length (fun i q hi h=>FZ (fun y hy=>hn _ y (Ri hl hi) hy) h) l.length 0 q (by omega) h
def jU(n:ax)(k y:Nat):List Bool:=jF n (bo n k).1 (bo n k).2 (bN y n.aJ.length)
def bH(n:ax):iI where
 nx k y:=cp (gp n (gK n (jU n k y)) (iu n (bo n k).2 (jU n k y))).2
 fi k y:=oK n (jU n k y)
 bd k y:=idx (j2 n (jU n k y))
 ls k y:=gK n (jU n k y)
 cs k y:=iu n (bo n k).2 (jU n k y)
section
variable{n:ax}{V:Nat}(hs:cq n V)
include hs
theorem R5{K:Nat}{ls:List Bool}{cs:List (List aO)}(ok:iB n K ls cs):nC cs:=by
 intro c hc i hi;obtain⟨j,hj⟩:=List.getElem?_of_mem (show(c:List aO)∈cs from hc);have hjl:=dy hj;have hcl:cs.length=n.aa.length:=ok.mA;have hjm:j<n.aa.length:=Nat.lt_of_lt_of_le hjl (Nat.le_of_eq hcl);have hm:=List.getElem?_eq_getElem hjm;have ko:=ok.ok j _ _ hm hj;obtain⟨m1,m2,m3,m4,_⟩:=hs.aa _ (List.getElem_mem hjm);have hp:(c:List aO)[i]?=some ((c:List aO)[i]'hi):=List.getElem?_eq_getElem hi;obtain⟨e1,e2⟩:=sx hp;have h1:=ko.at_ _ (List.mem_of_getElem? hp);have h2:=ko.wd _ (List.mem_of_getElem? hp);have b:∀(x:Int) (k:Nat),x<2^k->k<=64->x<=18446744073709551615:=by intro x k hx hk;rw[oC]at hx;have:=Nat.pow_le_pow_right (n:=2) (by omega) hk;have e:(2:Nat)^64=18446744073709551616:=rfl;omega
 rw[e1,e2];exact⟨⟨h1.1,b _ _ h1.2 (by omega)⟩,⟨by omega,b _ _ h2.2 (by omega)⟩⟩
end
section
variable{n:ax}{V:Nat}(t:fN n V)
include t
theorem uk{ls:List Bool}(cs:List (List aO))(hls:ls.length=n.au.length):(gp n ls cs).2.length<=wid n:=by
 unfold gp;by_cases h0:iS (bc n) (ls,(cs,()))=0
 .rw[if_neg (fun q=>q h0)];by_cases h1:64<dF n
  .rw[if_pos h1];exact Nat.zero_le _
  .rw[if_neg h1];have hf:=(Su h0).2;unfold dX at hf;simp only[Bool.and_eq_true,decide_eq_true_eq]at hf;have hcs:cs.length=n.aa.length:=hf.1.2.trans (List.length_map ..);have:=yz ls cs hcs n.aa.length (Nat.le_refl _);have h2:=t.off;have h3:cD n n.aa.length=j9 n.aa:=by unfold cD;rw[List.take_length]
   show(fH n ls cs n.aa.length).length<=_;omega
 .rw[if_pos h0];exact Nat.zero_le _
theorem Ss(k y:Nat):((bH n).ls k y).length=n.au.length:=by show(gK n _).length=_;unfold gK;rw[List.length_map]
theorem oI(k y:Nat):(bH n).nx k y<2^wid n:=by have h:=uk t (iu n (bo n k).2 (jU n k y)) (Ss t k y);have h2:=lZ (gp n (gK n (jU n k y)) (iu n (bo n k).2 (jU n k y))).2;have h3:=Nat.pow_le_pow_right (n:=2) (by omega) h;exact Nat.lt_of_lt_of_le h2 h3
end
theorem aee{n:ax}{V:Nat}(t:fN n V):IntKind.wrap .i64 ((1:Int)*(HPow.hPow (2:Int) (Min.min (Int.toNat (Int.ofNat n.aJ.length)) 64)))=((2^n.aJ.length:Nat):Int):=by have hi:=t.ins;have h64:(2:Nat)^n.aJ.length<=64:=Nat.pow_le_pow_right (n:=2) (by omega) (show n.aJ.length<=6 from hi);have e:Int.toNat (Int.ofNat n.aJ.length)=n.aJ.length:=Int.toNat_natCast _;rw[e,Nat.min_eq_left (by omega),Int.one_mul,oC];exact(show ∀N:Nat,N<=64->IntKind.wrap .i64 (N:Int)=(N:Int)from fun N h=>bK (by omega)) _ h64
theorem aej{l:List Nat}{i:Nat}(hi:i<l.length):gt (.int .i64) (bM l) (i:Int)=((l.getD i 0:Nat):Int):=by
 have e:(bM l)[i]?=some ((l.getD i 0:Nat):Int):=by unfold bM;rw[List.getElem?_map,List.getD_eq_getElem?_getD,List.getElem?_eq_getElem hi];rfl
 exact bn (σ:=.int .i64) e
section
variable{n:ax}{V:Nat}(t:fN n V)(ft:Fit n)(hf:∀k,k<2^wid n->dX (bc n) ((bo n k).1,((bo n k).2,()))=true)
include t hf
theorem afL{k:Nat}(hk:k<2^wid n)(y:Nat):iB n 4096 (bo n k).1 (bo n k).2/\iB n 4100 ((bH n).ls k y) ((bH n).cs k y):=by have h:=YQ (hf k hk) (Gv t k);exact⟨h,BQ t.hs h _⟩
include ft
def OI(n:ax)(V:Nat)(now:List Int)(k y:Nat)(r:Qs):Out qY:=.inl ((bH n).bd k y,(true,nt n (bP n,(r.how,(now,mc n (aU n V) r.ls r.rs ((k:Int),((y:Int),())))))))
def OH(n:ax)(V:Nat)(now:List Int)(t21 t22 b80 b81:Int)(q:Qs):Out qY:=.inr (t21,(t22,nt n (bP n,(q.how,(now,mc n (aU n V) q.ls q.rs (b80,(b81,(bM q.next,()))))))))
theorem alF{k m:Nat}(hk:k<2^wid n)(hm:m=2^n.aJ.length)(now:List Int)(t21 t22 b80 b81:Int){q:Qs}(h:dO (2^wid n) q) :
  xD ((k:Int),(t21,(t22,((m:Int),((0:Int),nt n (bP n,(q.how,(now,mc n (aU n V) q.ls q.rs (b80,(b81,(bM q.next,()))))))))))) =
   some (nW (fun r:Nat×Qs=>OI n V now k r.1 r.2) (OH n V now t21 t22 b80 b81) (tJ n (bH n) m k q)):=by
 have hp:=oD t;have hw:=t.ow;have hi:=t.ins;have hm64:m<=64:=by rw[hm];exact Nat.pow_le_pow_right (n:=2) (by omega) (show n.aJ.length<=6 from hi)
 unfold tJ;unfold xD;refine yH (na n (bH n) k) (fun(y:Nat) (q:Qs)=>((k:Int),(t21,(t22,((m:Int),((y:Int),nt n (bP n,(q.how,(now,mc n (aU n V) q.ls q.rs (b80,(b81,(bM q.next,()))))))))))))
  (OI n V now k) (OH n V now t21 t22 b80 b81)
  (fun _ q=>dO (2^wid n) q) m ?_ ?_ ?_ m 0 q (by omega) h NN (bA (by omega))
 .intro y q hy h;rcases Rr (n:=n) (oI t k y) h with⟨r,e,_⟩|⟨q2,e,h2⟩
  .exact .inl ⟨r,e⟩
  .exact .inr ⟨q2,e,h2⟩
 .intro q h;exact af (av (show ¬(m:Int)<(m:Int) by omega)) rfl
 .intro y q hy h;obtain⟨ok1,ok2⟩:=afL t hf hk y;have sl:=rG t k;have hml:=h.many;have hln:=h.len;have e1:iZ (IntKind.wrap .u64 (k:Int),(bP n,()))=some (bN k (wid n),()):=by rw[Gm (by omega),t.wd];exact oB k (wid n) (by omega) (by omega)
  have e2:=(FL t ft (k:=k) (by omega)).1;have e3:=aet ft (aU n V) q.ls (bo n k).1 q.rs (bo n k).2 sl.2.1 (hf k hk) (by have:=t.hs.lens.2.1;omega);have e4:iZ (IntKind.wrap .u64 (y:Int),(Int.ofNat n.aJ.length,()))=some (bN y n.aJ.length,()):=by rw[jE (by omega)];exact oB y n.aJ.length (by omega) (by omega)
  have e5:=Rb t.hs ft (by omega) (bo n k).1 (bN y n.aJ.length) (bo n k).2 ok1 (j7 _ _);have e6:=Ra t.hs (aU n V) (by omega) ok2;have e7:=(QH ft ((bH n).ls k y) ((bH n).cs k y) (R5 t.hs ok2) (by have:=ok2.tL;have:=t.hs.lens.2.1;omega) (fun c hc=>Nat.le_trans (acD ok2 c hc) (by omega))).1;have hl8:=uk t ((bH n).cs k y) (Ss t k y);have e8:=Ft (gp n ((bH n).ls k y) ((bH n).cs k y)).2 (by omega);have e9:=ak7 (j2 n (jU n k y)) (by rw[FM];have:=t.hs.lens.2.2.2.1;omega);have hnx:=oI t k y;have ew:IntKind.wrap .i64 ((cp (gp n ((bH n).ls k y) ((bH n).cs k y)).2:Nat):Int)=(((bH n).nx k y:Nat):Int):=bK (by show -9223372036854775808<=(((bH n).nx k y:Nat):Int)/\(((bH n).nx k y:Nat):Int)<=_;omega);have hy1:IntKind.wrap .i64 ((y:Int)+1)=((y+1:Nat):Int):=bG (x:=(y:Int)+1) (n:=y+1) (by omega) (by omega);refine ao (aj (show(y:Int)<(m:Int) by omega)) (ag e1 (ag e2 (ak (aj rfl) (ag e3 (ag e4 (ag e5 (ak (aj rfl) (ag e6 (ak (Rf _) (ag e7 (ak (aj rfl) (ag e8 (ak (Rf _) (ag e9 ?_))))))))))))));have e:∀(p q:Int) (H H':mO) (L L':List Int) (A:List Bool) (R:List cZ),p=q->H=H'->L=L'->(some (.inl ((k:Int),(t21,(t22,((m:Int),(p,nt n (bP n,(H,(now,mc n (aU n V) A R (b80,(b81,(L,())))))))))))):Option (TL xv.σs⊕Out qY))=some (.inl ((k:Int),(t21,(t22,((m:Int),(q,nt n (bP n,(H',(now,mc n (aU n V) A R (b80,(b81,(L',())))))))))))):=by rintro _ _ _ _ _ _ _ _ rfl rfl rfl;rfl
  unfold na;cases hfi:(bH n).fi k y with
  |false=>exact ao (fD hfi) (e _ _ _ _ _ _ _ _ hy1 rfl rfl)|true=>
   refine af (df hfi) ?_;by_cases hb:0<=(bH n).bd k y
   .rw[decide_eq_true hb];exact ao (aj hb) rfl
   .rw[decide_eq_false hb];refine af (av hb) ?_;cases hh:dY q.how (((bH n).nx k y:Nat):Int)with
    |true=>exact af (df (by rw[ew];exact hh)) (e _ _ _ _ _ _ _ _ hy1 rfl rfl)|false=>
     have hnl:(bM q.next).length<=2048:=by unfold bM;rw[List.length_map];omega
     refine ao (fD (by rw[ew];exact hh)) (ak (mu (a:=8) (L:=bM q.next) (x:=IntKind.wrap .i64 ((cp (gp n ((bH n).ls k y) ((bH n).cs k y)).2:Nat):Int)) (by omega) (by omega)) (e _ _ _ _ _ _ _ _ hy1 ?_ ?_))
     .exact congrArg (fun z:Int=>dg (σ:=cX) z ((k:Int),((y:Int),())) q.how) ew
     .rw[ew];unfold bM;rw[List.map_append];rfl
def OE(n:ax)(V:Nat)(now:List Nat)(i:Nat)(r:Nat×Qs):Out qX:=.inl ((bH n).bd (now.getD i 0) r.1,(true,nt n (bP n,(r.2.how,(bM now,mc n (aU n V) r.2.ls r.2.rs (((now.getD i 0:Nat):Int),((r.1:Int),())))))))
def OD(n:ax)(V:Nat)(now:List Nat)(q:Qs):Out qX:=.inr (nt n (bP n,(q.how,(bM now,mc n (aU n V) q.ls q.rs ((0:Int),((0:Int),(bM q.next,())))))))
def jV{α:Type}(n:ax)(ord:List (bz×bp))(r:α):=nt n (ord.map (fun x=>cY x.1),r)
theorem alE{m:Nat}(hm:m=2^n.aJ.length){now:List Nat}(hl:∀k∈now,k<2^wid n)(hln:now.length<=2048){q:Qs}(h:dO (2^wid n) q) :
  EB ((now.length:Int),((0:Int),nt n (bP n,(q.how,(bM now,mc n (aU n V) q.ls q.rs ((0:Int),((0:Int),(bM q.next,())))))))) =
   some (nW (fun r:Nat×Nat×Qs=>OE n V now r.1 r.2) (OD n V now) (ou n (bH n) m now q)):=by
 have hnl:(bM now).length=now.length:=by unfold bM;rw[List.length_map]
 unfold ou;unfold EB;refine yH (B8 n (bH n) m now) (fun(i:Nat) (q:Qs)=>((now.length:Int),((i:Int),nt n (bP n,(q.how,(bM now,mc n (aU n V) q.ls q.rs ((0:Int),((0:Int),(bM q.next,())))))))))
  (OE n V now) (OD n V now)
  (fun _ q=>dO (2^wid n) q) now.length ?_ ?_ ?_ now.length 0 q (by omega) h NN (bA (by omega))
 .intro i q hi h;rcases FZ (n:=n) (c:=bH n) (m:=m) (k:=now.getD i 0) (fun y _=>oI t _ y) h with⟨r,e,_⟩|⟨q2,e,h2⟩
  .exact .inl ⟨r,e⟩
  .exact .inr ⟨q2,e,h2⟩
 .intro q h;exact af (av (show ¬(now.length:Int)<(now.length:Int) by omega)) rfl
 .intro i q hi h;have e7:=alF t ft hf (Ri hl hi) hm (bM now) (now.length:Int) (i:Int) 0 0 h;have g:=aej hi;have hmi:=aee t;rw[<-hm]at hmi;have e7':∀(a b:Int),a=((now.getD i 0:Nat):Int)->b=(m:Int)->xD (a,((now.length:Int),((i:Int),(b,((0:Int),nt n (bP n,(q.how,(bM now,mc n (aU n V) q.ls q.rs ((0:Int),((0:Int),(bM q.next,())))))))))))=some (nW (fun r:Nat×Qs=>OI n V (bM now) (now.getD i 0) r.1 r.2) (OH n V (bM now) (now.length:Int) (i:Int) 0 0) (tJ n (bH n) m (now.getD i 0) q)):=by rintro _ _ rfl rfl;exact e7
  refine ao (aj (show(i:Int)<(now.length:Int) by omega)) (ak (show aw (i:Int) (List.length (bM now))=true from aN ⟨by omega,by omega⟩) (ag (e7' _ _ g hmi) ?_));have hi1:IntKind.wrap .i64 ((i:Int)+1)=((i+1:Nat):Int):=bG (x:=(i:Int)+1) (n:=i+1) (by omega) (by omega);have e:∀(p q:Int) (H:mO) (L:List Int) (A:List Bool) (R:List cZ),p=q->(some (.inl ((now.length:Int),(p,nt n (bP n,(H,(bM now,mc n (aU n V) A R ((0:Int),((0:Int),(L,()))))))))):Option (TL xu.σs⊕Out qX))=some (.inl ((now.length:Int),(q,nt n (bP n,(H,(bM now,mc n (aU n V) A R ((0:Int),((0:Int),(L,()))))))))):=by rintro _ _ _ _ _ _ rfl;rfl
  unfold B8;rcases FZ (n:=n) (c:=bH n) (m:=m) (k:=now.getD i 0) (fun y _=>oI t _ y) h with⟨r,e1,_⟩|⟨q2,e1,h2⟩
  .rw[e1];rfl
  .rw[e1];exact e _ _ _ _ _ _ hi1
theorem acH{m:Nat}(hm:m=2^n.aJ.length){q:Qs}(h:dO (2^wid n) q) :
  Pg (nt n (bP n,(q.how,(bM q.next,mc n (aU n V) q.ls q.rs ())))) =
   some (nW (fun r:Nat×Nat×Qs=>(((q.next.getD r.1 0:Nat):Int),((r.2.1:Int),((bH n).bd (q.next.getD r.1 0) r.2.1,(true,nt n (bP n,(r.2.2.how,jV n (aU n V) (bM q.next,(r.2.2.ls,(r.2.2.rs,()))))))))))
    (fun q:Qs=>((0:Int),((0:Int),((0:Int),(false,nt n (bP n,(q.how,jV n (aU n V) (bM q.next,(q.ls,(q.rs,())))))))))) (ou n (bH n) m q.next ⟨q.how,[],q.ls,q.rs⟩)):=by
 have hp:=oD t;have h0:dO (2^wid n) ⟨q.how,[],q.ls,q.rs⟩:=⟨h.jH,h.key,Nat.zero_le _,fun k hk=>nomatch hk⟩;have e4:=alE t ft hf hm h.iN (by have:=h.len;have:=h.many;omega) h0;have hnl:Int.ofNat (List.length (bM q.next))=(q.next.length:Int):=by unfold bM;rw[List.length_map];rfl
 have e4':∀a:Int,a=(q.next.length:Int)->EB (a,((0:Int),nt n (bP n,(q.how,(bM q.next,mc n (aU n V) q.ls q.rs ((0:Int),((0:Int),([],()))))))))=some (nW (fun r:Nat×Nat×Qs=>OE n V q.next r.1 r.2) (OD n V q.next) (ou n (bH n) m q.next ⟨q.how,[],q.ls,q.rs⟩)):=by rintro _ rfl;exact e4
 refine ag (e4' _ hnl) ?_;rcases yG (n:=n) (c:=bH n) (m:=m) (fun k y _ _=>oI t k y) h.iN h0 with⟨r,e1,_⟩|⟨q2,e1,h2⟩
 .rw[e1];rfl
 .rw[e1];rfl
theorem aeB{m:Nat}{q:Int×Qs}(h:dO (2^wid n) q.2)(i:Nat):(∃r,jR n (bH n) m i q=.inl r)\/∃q2,jR n (bH n) m i q=.inr q2/\dO (2^wid n) q2.2:=by
 have h0:dO (2^wid n) ⟨q.2.how,[],q.2.ls,q.2.rs⟩:=⟨h.jH,h.key,Nat.zero_le _,fun k hk=>nomatch hk⟩;unfold jR;rcases yG (n:=n) (c:=bH n) (m:=m) (fun k y _ _=>oI t k y) h.iN h0 with⟨r,e1,_⟩|⟨q2,e1,h2⟩
 .rw[e1];exact .inl ⟨_,rfl⟩
 .rw[e1]
  try dsimp only
  cases decide ((q2.next.length:Int)=0)with|true=>exact .inl ⟨_,rfl⟩|false=>exact .inr ⟨_,rfl,h2⟩
abbrev y6(n:ax)(V i:Nat)(r:sV×List Nat⊕Int×Qs):Out q9:=match r with|.inl x=>.inl ((bH n).bd (x.2.getD x.1.1 0) x.1.2.1,(((i+1:Nat):Int),((0:Int),nt n (bP n,(x.1.2.2.how,jV n (aU n V) (bM x.2,(x.1.2.2.ls,(x.1.2.2.rs,(((x.2.getD x.1.1 0:Nat):Int),((x.1.2.1:Int),()))))))))))|.inr y=>.inr (y.1,nt n (bP n,(y.2.how,jV n (aU n V) (bM y.2.next,(y.2.ls,(y.2.rs,((0:Int),((0:Int),()))))))))
theorem FX{m d:Nat}(hm:m=2^n.aJ.length)(hd:d<=100000){q:Qs}(h:dO (2^wid n) q) :
  PF ((0:Int),((d:Int),((0:Int),nt n (bP n,(q.how,jV n (aU n V) (bM q.next,(q.ls,(q.rs,((0:Int),((0:Int),())))))))))) =
   some (nW (fun r=>y6 n V r.1 r.2) (fun q=>y6 n V 0 (.inr q)) (l9 n (bH n) m d q)):=by
 have hp:=oD t;unfold l9;unfold PF;refine yH (jR n (bH n) m) (fun(i:Nat) (q:Int×Qs)=>(q.1,((d:Int),((i:Int),nt n (bP n,(q.2.how,jV n (aU n V) (bM q.2.next,(q.2.ls,(q.2.rs,((0:Int),((0:Int),())))))))))))
  (fun(i:Nat) r=>y6 n V i r) (fun q=>y6 n V 0 (.inr q))
  (fun _ q=>dO (2^wid n) q.2) d ?_ ?_ ?_ d 0 ((0:Int),q) (by omega) h NN (bA (by omega))
 .intro i q hi h;exact aeB t ft hf h i
 .intro q h;exact af (av (show ¬(d:Int)<(d:Int) by omega)) rfl
 .intro i q hi h;obtain⟨st,q⟩:=q;have e4:=acH t ft hf hm h;refine ao (aj (show(i:Int)<(d:Int) by omega)) (ag e4 ?_);have h0:dO (2^wid n) ⟨q.how,[],q.ls,q.rs⟩:=⟨h.jH,h.key,Nat.zero_le _,fun k hk=>nomatch hk⟩;have hi1:IntKind.wrap .i64 ((i:Int)+1)=((i+1:Nat):Int):=bG (x:=(i:Int)+1) (n:=i+1) (by omega) (by omega);unfold jR;rcases yG (n:=n) (c:=bH n) (m:=m) (fun k y _ _=>oI t k y) h.iN h0 with⟨r,e1,_⟩|⟨q2,e1,h2⟩
  .rw[e1];have e:∀(p q':Int),p=q'->(some (.inr (.inl ((bH n).bd (q.next.getD r.1 0) r.2.1,(p,((0:Int),nt n (bP n,(r.2.2.how,jV n (aU n V) (bM q.next,(r.2.2.ls,(r.2.2.rs,(((q.next.getD r.1 0:Nat):Int),((r.2.1:Int),())))))))))))):Option (TL tT.σs⊕Out q9))=some (.inr (.inl ((bH n).bd (q.next.getD r.1 0) r.2.1,(q',((0:Int),nt n (bP n,(r.2.2.how,jV n (aU n V) (bM q.next,(r.2.2.ls,(r.2.2.rs,(((q.next.getD r.1 0:Nat):Int),((r.2.1:Int),())))))))))))):=by rintro _ _ rfl;rfl
   exact ao rfl (e _ _ hi1)
  .rw[e1];refine af rfl ?_;have hlen:Int.ofNat (List.length (bM q2.next))=(q2.next.length:Int):=by unfold bM;rw[List.length_map];rfl
   by_cases hz:(q2.next.length:Int)=0
   .refine ao (show iQ (Int.ofNat (List.length (bM q2.next))) 0=true from by rw[hlen];exact aj hz) ?_;show _=vM _ _ (match decide ((q2.next.length:Int)=0)with|true=>_|false=>_);rw[decide_eq_true hz];rfl
   .refine af (show iQ (Int.ofNat (List.length (bM q2.next))) 0=false from by rw[hlen];exact av hz) ?_;show _=vM _ _ (match decide ((q2.next.length:Int)=0)with|true=>_|false=>_);rw[decide_eq_false hz];have e:∀(p q':Int),p=q'->(some (.inl ((q.how.length:Int),((d:Int),(p,nt n (bP n,(q2.how,jV n (aU n V) (bM q2.next,(q2.ls,(q2.rs,((0:Int),((0:Int),()))))))))))):Option (TL tT.σs⊕Out q9))=some (.inl ((q.how.length:Int),((d:Int),(q',nt n (bP n,(q2.how,jV n (aU n V) (bM q2.next,(q2.ls,(q2.rs,((0:Int),((0:Int),()))))))))))):=by rintro _ _ rfl;rfl
    exact e _ _ hi1
end
section
variable{n:ax}{V:Nat}(t:fN n V)
include t
theorem acx:jl (bc n)=(kg (n.au.map bL) n.au.length,(List.replicate n.aa.length [],()))/\dX (bc n) (jl (bc n))=true:=by
 have e:jl (bc n)=(kg (n.au.map bL) n.au.length,(List.replicate n.aa.length [],())):=by unfold jl;rw[lE,decide_eq_true t.hc];show(kg (n.au.map bL) (n.au.map bL).length,(List.replicate (n.aa.map aq).length [],()))=_;rw[List.length_map,List.length_map]
 refine⟨e,?_⟩;rw[e];unfold dX;show(decide ((kg (n.au.map bL) n.au.length).length=(n.au.map bL).length)&&decide ((List.replicate n.aa.length ([]:List aC.T)).length=(n.aa.map aq).length)&&(List.range (n.aa.map aq).length).all (jv (n.aa.map aq) (List.replicate n.aa.length [])))=true;rw[N9,List.length_map,List.length_map,List.length_replicate,decide_eq_true rfl,decide_eq_true rfl];show(List.range n.aa.length).all _=true;rw[List.all_eq_true];intro i hi;have hi:=List.mem_range.1 hi;have hx:=List.getElem?_eq_getElem hi;obtain⟨m1,m2,m3,m4,_⟩:=t.hs.aa _ (List.getElem_mem hi);have g1:gt ab (n.aa.map aq) (i:Int)=aq n.aa[i]:=bn (σ:=ab) (by rw[List.getElem?_map,hx];rfl);have e0:∀(α:Type) (x:α) (N i:Nat),i<N->(List.replicate N x)[i]?=some x:=by intro α x N i h;rw[List.getElem?_replicate,if_pos h]
 have g2:gt (.sl aC) (List.replicate n.aa.length ([]:List aC.T)) (i:Int)=[]:=bn (σ:=.sl aC) (e0 _ _ _ _ hi);unfold jv;rw[g1];refine(congrArg (ik (aq n.aa[i]).1 (aq n.aa[i]).2.1) g2).trans ?_;unfold ik;show(decide (1<=n.aa[i].addr)&&decide (n.aa[i].addr<=62)&&decide (1<=n.aa[i].word)&&decide (n.aa[i].word<=64)&&decide (0<=4096)&&(List.range 0).all _)=true;rw[decide_eq_true m1,decide_eq_true m2,decide_eq_true m3,decide_eq_true m4];rfl
end
def cU(n:ax)(k:Nat):Nat:=cp (gp n (bo n k).1 (bo n k).2).2
def qt(n:ax)(L:List Nat):mO:=L.foldl (fun h k=>dg ((cU n k:Nat):Int) ((-1:Int),((0:Int),())) h) []
def dE(n:ax):Qs:=⟨qt n (fY n (2^wid n)),(fY n (2^wid n)).map (cU n),(jl (bc n)).1,bt n (jl (bc n)).2.1⟩
section
variable{n:ax}{V:Nat}(t:fN n V)(ft:Fit n)
include t ft
theorem afE(ls:List Bool)(rs:List cZ):Fh ((0:Int),(jj n (2^wid n),(((jj n (2^wid n)).length:Int),((0:Int),nt n (bP n,([],([],mc n (aU n V) ls rs ()))))))) =
  some ((0:Int),nt n (bP n,(qt n (fY n (2^wid n)),(bM ((fY n (2^wid n)).map (cU n)),mc n (aU n V) ls rs ())))):=by
 have hp:=oD t;have hw:=t.ow;have hL:=FK n (2^wid n);have hsl:(jj n (2^wid n)).length=(fY n (2^wid n)).length:=by unfold jj;rw[List.length_map]
 obtain⟨L,eL⟩:∃L,L=fY n (2^wid n):=⟨_,rfl⟩;have eS:jj n (2^wid n)=L.map (jX n):=by unfold jj;rw[eL]
 rw[hsl,eS,<-eL];rw[<-eL]at hL;unfold Fh;refine cP (fun i:Nat=>((0:Int),(L.map (jX n),((L.length:Int),((i:Int),nt n (bP n,(qt n (L.take i),(bM ((L.take i).map (cU n)),mc n (aU n V) ls rs ())))))))) L.length rfl ?_ ?_ (bA (by omega))
 .intro i hi;have hx:=List.getElem?_eq_getElem hi;have g:gt cV (L.map (jX n)) (i:Int)=jX n L[i]:=bn (σ:=cV) (by rw[List.getElem?_map,hx];rfl);have sl:=rG t L[i];have e1:=(QH ft (bo n L[i]).1 (bo n L[i]).2 (Gv t L[i]) (by have:=t.hs.lens.2.1;omega) (fun c hc=>Nat.le_trans (sl.2.2 c hc) (by omega))).1;have hl8:=uk t (bo n L[i]).2 sl.1;have e2:=Ft (gp n (bo n L[i]).1 (bo n L[i]).2).2 (by omega);have e1':∀s:cV.T,s=jX n L[i]->yc (nt n (s.1,(s.2.1,())))=some ((gp n (bo n L[i]).1 (bo n L[i]).2).1,((gp n (bo n L[i]).1 (bo n L[i]).2).2,())):=by rintro _ rfl;exact e1
  have hlt:cU n L[i]<2^wid n:=Nat.lt_of_lt_of_le (lZ _) (Nat.pow_le_pow_right (by omega) hl8);have ew:IntKind.wrap .i64 ((cp (gp n (bo n L[i]).1 (bo n L[i]).2).2:Nat):Int)=((cU n L[i]:Nat):Int):=bK (by show -9223372036854775808<=((cU n L[i]:Nat):Int)/\((cU n L[i]:Nat):Int)<=_;omega);have hi1:IntKind.wrap .i64 ((i:Int)+1)=((i+1:Nat):Int):=bG (x:=(i:Int)+1) (n:=i+1) (by omega) (by omega);have ht:L.take (i+1)=L.take i++[L[i]]:=Pl.dm hx;have eh:dg (IntKind.wrap .i64 ((cp (gp n (bo n L[i]).1 (bo n L[i]).2).2:Nat):Int)) (σ:=cX) ((-1:Int),((0:Int),())) (qt n (L.take i))=qt n (L.take (i+1)):=by rw[ew,ht];unfold qt;rw[List.foldl_append];rfl
  have en:bM ((L.take i).map (cU n))++(IntKind.wrap .i64 ((cp (gp n (bo n L[i]).1 (bo n L[i]).2).2:Nat):Int)::[])=bM ((L.take (i+1)).map (cU n)):=by rw[ew,ht];unfold bM;rw[List.map_append,List.map_append];rfl
  have e:∀(p q:Int) (H H':mO) (A B:List Int),p=q->H=H'->A=B->(some (.inl ((0:Int),(L.map (jX n),((L.length:Int),(p,nt n (bP n,(H,(A,mc n (aU n V) ls rs ())))))))):Option (TL xZ.σs⊕Out xX))=some (.inl ((0:Int),(L.map (jX n),((L.length:Int),(q,nt n (bP n,(H',(B,mc n (aU n V) ls rs ())))))))):=by rintro _ _ _ _ _ _ rfl rfl rfl;rfl
  exact ao (aj (show(i:Int)<(L.length:Int) by omega)) (ak (show aw (i:Int) (List.length (L.map (jX n)))=true from aN ⟨by omega,by rw[List.length_map];omega⟩) (ag (e1' _ g) (ak (aj rfl) (ag e2 (ak (mu (a:=8) (L:=bM ((L.take i).map (cU n))) (x:=IntKind.wrap .i64 ((cp (gp n (bo n L[i]).1 (bo n L[i]).2).2:Nat):Int)) (by unfold bM;rw[List.length_map,List.length_map,List.length_take];omega) (by omega)) (e _ _ _ _ _ _ hi1 eh en))))))
 .rw[List.take_length];exact af (av (show ¬(L.length:Int)<(L.length:Int) by omega)) rfl
theorem ug:Qd (nt n ())=some (.inr ((0:Int),nt n (bP n,((dE n).how,(bM (dE n).next,mc n (aU n n.vars.toNat) (dE n).ls (dE n).rs ()))))):=by
 have hV:n.vars.toNat=V:=by rw[t.hs.vars];rfl
 have e3:=acv t ft;have e2:=uh ft;obtain⟨z1,z2⟩:=acx t;have ot:Fit (dS (bc n)):=by rw[lE];exact ft
 have hL:List.length (bc n).2.2.1<=100000:=by show(n.au.map bL).length<=_;rw[List.length_map];have:=ft.aB.1;omega
 have hT:List.length (bc n).2.2.2.2.2.2.1<=100000:=by show(n.aa.map aq).length<=_;rw[List.length_map];have:=ft.aa.1;omega
 have e1:=agX (bc n) ot hL hT;have hz1:(jl (bc n)).1.length<=1000000:=by rw[z1];show(kg _ _).length<=_;rw[N9];have:=t.hs.lens.2.1;omega
 have e5:=RW ft (jl (bc n)).1 (jl (bc n)).2.1 t.hc z2 hz1;have e7:=afE t ft (jl (bc n)).1 (bt n (jl (bc n)).2.1);have hw:=Gz ft;have e7':∀a b:Int,a=((jj n (2^wid n)).length:Int)->b=bP n->Fh ((0:Int),(jj n (2^wid n),(a,((0:Int),nt n (b,([],([],mc n (aU n n.vars.toNat) (jl (bc n)).1 (bt n (jl (bc n)).2.1) ())))))))=some ((0:Int),nt n (bP n,(qt n (fY n (2^wid n)),(bM ((fY n (2^wid n)).map (cU n)),mc n (aU n V) (jl (bc n)).1 (bt n (jl (bc n)).2.1) ())))):=by rintro _ _ rfl rfl;rw[hV];exact e7
 refine ag e3 (af (df (aj rfl)) (ag e2 (ag e1 (ag e5 (ak (aj rfl) (ag (e7' _ _ rfl hw) ?_))))));rw[hV];rfl
end
theorem Rj{n:ax}{W:Nat}:∀(L:List Nat) (H:mO),H.Pairwise (fun a b=>a.1<b.1)->(∀p∈H,0<=p.1/\p.1<(W:Int))->(∀k∈L,cU n k<W) ->
  (L.foldl (fun h k=>dg (σ:=cX) ((cU n k:Nat):Int) ((-1:Int),((0:Int),())) h) H).Pairwise (fun a b=>a.1<b.1)/\∀p∈L.foldl (fun h k=>dg (σ:=cX) ((cU n k:Nat):Int) ((-1:Int),((0:Int),())) h) H,0<=p.1/\p.1<(W:Int)
 |[],H,h1,h2,_=>⟨h1,h2⟩|k::L,H,h1,h2,h3=>Rj L _ (w7 h1) (fun p hp=>by
   rcases FP hp with e|e
   .have:=h3 k (List.mem_cons_self ..);rw[e];omega
   .exact h2 p e) (fun j hj=>h3 j (List.mem_cons_of_mem _ hj))
theorem BV{n:ax}{V:Nat}(t:fN n V):dO (2^wid n) (dE n):=by
 have hp:=oD t;have hL:=FK n (2^wid n);have hn:∀k,cU n k<2^wid n:=fun k=>Nat.lt_of_lt_of_le (lZ _) (Nat.pow_le_pow_right (by omega) (uk t _ (rG t k).1));obtain⟨h1,h2⟩:=Rj (n:=n) (W:=2^wid n) (fY n (2^wid n)) [] List.Pairwise.nil (fun p hp=>nomatch hp) (fun k _=>hn k);refine⟨h1,h2,?_,fun j hj=>?_⟩
 .show((fY n (2^wid n)).map (cU n)).length<=_;rw[List.length_map];omega
 .have hj:j∈(fY n (2^wid n)).map (cU n):=hj;obtain⟨k,_,rfl⟩:=List.mem_map.1 hj;exact hn k
def af4(r:(Nat×(sV×List Nat⊕Int×Qs))⊕(Int×Qs)):TL tZ:=match r with|.inl (i,.inl _)=>((true,(((i+1:Nat):Int),(false,((0:Int),())))),((0:Int),()))|.inl (_,.inr y)=>((false,((0:Int),(decide ((y.2.next.length:Int)=0),(y.1,())))),((0:Int),()))|.inr y=>((false,((0:Int),(decide ((y.2.next.length:Int)=0),(y.1,())))),((0:Int),()))
section
variable{n:ax}{V:Nat}(t:fN n V)(ft:Fit n)(hf:∀k,k<2^wid n->dX (bc n) ((bo n k).1,((bo n k).2,()))=true)
include t ft hf
theorem aco{m d:Nat}(hm:m=2^n.aJ.length)(hd:d<=2000):yd (bc n,((d:Int),()))=some (af4 (l9 n (bH n) m d (dE n))):=by
 have eb:=ug t ft;have er:=FX t ft hf hm (d:=d) (by omega) (BV t);have hV:n.vars.toNat=V:=by rw[t.hs.vars];rfl
 rw[hV]at eb;have hn:∀(x:Qs),Int.ofNat (List.length (bM x.next))=(x.next.length:Int):=fun x=>by unfold bM;rw[List.length_map];rfl
 have e:∀(b c:Bool) (s:Int),b=c->(some ((false,((0:Int),(b,(s,())))),((0:Int),())):Option (TL tZ))=some ((false,((0:Int),(c,(s,())))),((0:Int),())):=by rintro _ _ _ rfl;rfl
 have hd2:iL (2000:Int) (d:Int)=false:=av (by omega);refine ag eb (af (df (aj rfl)) (af (av (show ¬(d:Int)<0 by omega)) (af (show aQ false true (iL 2000 (d:Int))=false by rw[hd2];rfl) ?_)));generalize l9 n (bH n) m d (dE n)=r at er;rcases r with⟨i,x|y⟩|y
 .have e2:tV ((d:Int),nt n (bP n,((dE n).how,(bM (dE n).next,mc n (aU n V) (dE n).ls (dE n).rs ()))))=some (((x.2.getD x.1.1 0:Nat):Int),((x.1.2.1:Int),((bH n).bd (x.2.getD x.1.1 0) x.1.2.1,(((i+1:Nat):Int),((0:Int),nt n (bP n,(x.1.2.2.how,jV n (aU n V) (bM x.2,(x.1.2.2.ls,(x.1.2.2.rs,())))))))))):=ag er rfl;exact ag e2 (ao (aj (show(0:Int)<((i+1:Nat):Int) by omega)) rfl)
 .have e2:tV ((d:Int),nt n (bP n,((dE n).how,(bM (dE n).next,mc n (aU n V) (dE n).ls (dE n).rs ()))))=some ((0:Int),((0:Int),((0:Int),((0:Int),(y.1,nt n (bP n,(y.2.how,jV n (aU n V) (bM y.2.next,(y.2.ls,(y.2.rs,())))))))))):=ag er rfl;exact ag e2 (af (av (show ¬((0:Int)<0) by decide)) (e _ _ _ (show iQ (Int.ofNat (List.length (bM y.2.next))) 0=_ from by rw[hn])))
 .have e2:tV ((d:Int),nt n (bP n,((dE n).how,(bM (dE n).next,mc n (aU n V) (dE n).ls (dE n).rs ()))))=some ((0:Int),((0:Int),((0:Int),((0:Int),(y.1,nt n (bP n,(y.2.how,jV n (aU n V) (bM y.2.next,(y.2.ls,(y.2.rs,())))))))))):=ag er rfl;exact ag e2 (af (av (show ¬((0:Int)<0) by decide)) (e _ _ _ (show iQ (Int.ofNat (List.length (bM y.2.next))) 0=_ from by rw[hn])))
end
theorem rC{w:Nat}{l:List Bool}{K:Nat}{p:aO}(h:p∈fV w l K):∃x,x<K/\cellAt w l x≠0/\p=((x:Int),((cellAt w l x:Int),())):=by
 unfold fV at h;obtain⟨a,ha,hm⟩:=List.mem_flatMap.1 h;have ha:=List.mem_range.1 ha;split at hm
 .cases hm
 .rename_i q;exact⟨a,ha,q,List.mem_singleton.1 hm⟩
theorem yB(w:Nat)(l:List Bool):∀K,mf (fV w l K)
 |0=>List.Pairwise.nil|K+1=>by
  unfold mf;rw[yv,List.pairwise_append];refine⟨yB w l K,?_,fun a ha b hb=>?_⟩
  .split
   .exact List.Pairwise.nil
   .exact List.pairwise_singleton ..
  .obtain⟨x,hx,_,rfl⟩:=rC ha;split at hb
   .cases hb
   .rw[List.mem_singleton.1 hb];show(x:Int)<(K:Int);omega
theorem aca(w:Nat)(l:List Bool)(x:Nat):cellAt w l x<2^w:=by unfold cellAt;exact Nat.lt_of_lt_of_le (lZ _) (Nat.pow_le_pow_right (by omega) (by rw[List.length_take];omega))
theorem adk{m:bC}{K:Nat}{c:List aO}(m1:1<=m.addr)(m2:m.addr<=62)(m3:1<=m.word)(m4:m.word<=64)(h:mR m K c)(hl:c.length<=4096):ik m.addr m.word c=true:=by
 unfold ik;rw[decide_eq_true m1,decide_eq_true m2,decide_eq_true m3,decide_eq_true m4,decide_eq_true (show List.length (α:=aC.T) c<=4096 from hl)];show(List.range c.length).all (iR m.addr m.word c)=true;rw[List.all_eq_true];intro i hi;have hi:=List.mem_range.1 hi;have hp:=List.getElem?_eq_getElem hi;obtain⟨e1,e2⟩:=sx hp;have h1:=h.at_ _ (List.getElem_mem hi);have h2:=h.wd _ (List.getElem_mem hi);have b1:decide (gY c (i:Int)=0)=false:=decide_eq_false (by rw[e2];omega);have b2:ir (dH c (i:Int)) m.addr=true:=by rw[e1];exact BR h1.1 h1.2
 have b3:ir (gY c (i:Int)) m.word=true:=by rw[e2];exact BR (by omega) h2.2
 have b4:(decide (i=0)||decide (dH c ((i:Int)-1)<dH c (i:Int)))=true:=by
  by_cases q:i=0
  .rw[decide_eq_true q];rfl
  .have hj:i-1<c.length:=by omega
   have e3:=(sx (List.getElem?_eq_getElem hj)).1;have ei:((i:Int)-1)=((i-1:Nat):Int):=by omega
   have hs:=List.pairwise_iff_getElem.1 h.jH (i-1) i hj hi (by omega);rw[ei,e3,e1,decide_eq_true hs,Bool.or_true]
 unfold iR;rw[b1,b2,b3,b4];rfl
section
variable{n:ax}{V:Nat}(t:fN n V)
include t
theorem yF(k:Nat):iB n 64 (bo n k).1 (bo n k).2:=by
 obtain⟨h1,h2,h3⟩:=rG t k;refine⟨h1,h2,fun i m c hm hc=>?_⟩;have hcm:c∈(bo n k).2:=List.mem_of_getElem? hc;have hl:=h3 c hcm;unfold bo at hc;rw[uu t k]at hc;have hc:(eJ n ((bN k (wid n)).drop n.au.length) n.aa.length)[i]?=some c:=hc;have hi:i<n.aa.length:=(List.getElem?_eq_some_iff.1 hm).1;unfold eJ at hc;rw[List.getElem?_map,List.getElem?_range hi]at hc;have hg:n.aa.getD i mz=m:=by rw[List.getD_eq_getElem?_getD,hm];rfl
 have hc:=(Option.some.inj hc).symm;dsimp only at hc;rw[hg]at hc;subst hc;refine⟨yB _ _ _,hl,fun p hp=>?_,fun p hp=>?_⟩
 .obtain⟨x,hx,_,rfl⟩:=rC hp;show(0:Int)<=(x:Int)/\(x:Int)<2^m.addr.toNat;rw[oC];omega
 .obtain⟨x,hx,h0,rfl⟩:=rC hp;have:=aca m.word.toNat (((bN k (wid n)).drop n.au.length).drop (cD n i)) x;show(0:Int)<((cellAt _ _ x:Nat):Int)/\((cellAt _ _ x:Nat):Int)<2^m.word.toNat;rw[oC];omega
theorem Rg{K:Nat}{ls:List Bool}{cs:List (List aO)}(ok:iB n K ls cs):dX (bc n) (ls,(cs,()))=true:=by
 unfold dX;show(decide (ls.length=(n.au.map bL).length)&&decide (List.length cs=(n.aa.map aq).length)&&(List.range (n.aa.map aq).length).all (jv (n.aa.map aq) cs))=true;rw[List.length_map,List.length_map,decide_eq_true ok.tL,decide_eq_true ok.mA];show(List.range n.aa.length).all _=true;rw[List.all_eq_true];intro i hi;have hi:=List.mem_range.1 hi;have hx:=List.getElem?_eq_getElem hi;have hcl:cs.length=n.aa.length:=ok.mA;have hic:i<cs.length:=by omega
 have hy:=List.getElem?_eq_getElem hic;obtain⟨m1,m2,m3,m4,_⟩:=t.hs.aa _ (List.getElem_mem hi);have ko:=ok.ok i _ _ hx hy;have sm:=t.sm _ (List.getElem_mem hi);have g1:gt ab (n.aa.map aq) (i:Int)=aq n.aa[i]:=bn (σ:=ab) (by rw[List.getElem?_map,hx];rfl);have g2:gt (.sl aC) cs (i:Int)=cs[i]:=bn (σ:=.sl aC) hy;have hlen:cs[i].length<=4096:=by have h2:=sm.nat;have hw:=sm.w1;have hle:2^n.aa[i].addr.toNat<=2^n.aa[i].addr.toNat*n.aa[i].word.toNat:=Nat.le_mul_of_pos_right _ (by omega);have:=FW cs[i] 0 ((2^n.aa[i].addr.toNat:Nat):Int) (by omega) ko.jH (fun p hp=>by have:=ko.at_ p hp;rw[oC]at this;exact this);omega
 unfold jv;rw[g1];exact(congrArg (ik (aq n.aa[i]).1 (aq n.aa[i]).2.1) g2).trans (adk m1 m2 m3 m4 ko hlen)
theorem yE(k:Nat):dX (bc n) ((bo n k).1,((bo n k).2,()))=true:=Rg t (yF t k)
end
theorem adJ{L:List Bool}{i:Nat}(hi:i<L.length):gt .bool L (i:Int)=L.getD i false:=by
 have e:L[i]?=some (L.getD i false):=by rw[List.getD_eq_getElem?_getD,List.getElem?_eq_getElem hi];rfl
 exact bn (σ:=.bool) e
theorem yu{σ:Sh}{k x:Int}{v:σ.T}:∀(M:cW σ),dY (dg k v M) x=(decide (k=x)||dY M x)
 |[]=>by show(match decide (k=x)with|true=>true|false=>false)=(decide (k=x)||false);cases decide (k=x)<;>rfl
 |p::M=>by
  unfold dg;cases h1:decide (k<p.1)with
  |true=>show(match decide (k=x)with|true=>true|false=>dY (p::M) x)=_;cases decide (k=x)<;>rfl
  |false=>
   cases h2:decide (p.1=k)with
   |true=>have e:=of_decide_eq_true h2;show(match decide (k=x)with|true=>true|false=>dY M x)=(decide (k=x)||(match decide (p.1=x)with|true=>true|false=>dY M x));rw[e];cases decide (k=x)<;>rfl
   |false=>show(match decide (p.1=x)with|true=>true|false=>dY (dg k v M) x)=(decide (k=x)||(match decide (p.1=x)with|true=>true|false=>dY M x));rw[yu M];cases decide (p.1=x)<;>cases decide (k=x)<;>rfl
def pc(c:iI)(k y:Nat):Prop:=c.fi k y=true/\0<=c.bd k y
theorem Gs{c:List aO}(hs:mf c){p:aO}(hp:p∈c):rd c p.1=p.2.1:=by rw[<-um];exact(QX (σ:=.int .u64) hs (show(p.1,(p.2.1,()))∈c from hp)).1
theorem yI{c:List aO}{a:Int}(h:∀p∈c,p.1≠a):rd c a=0:=by rw[<-um];exact(Uk (σ:=.int .u64) h).1
theorem QP{c:List aO}(h:mf c):c.Nodup:=by rw[List.nodup_iff_pairwise_ne];exact List.Pairwise.imp (fun{a b} hab=>by rintro rfl;omega) h
theorem canon{c d:List aO}(hc:mf c)(hd:mf d)(nc:∀p∈c,p.2.1≠0)(nd:∀p∈d,p.2.1≠0)(h:∀a,rd c a=rd d a):c=d:=by
 have sub:∀{c d:List aO},mf c->mf d->(∀p∈c,p.2.1≠0)->(∀a,rd c a=rd d a)->∀p∈c,p∈d:=by
  intro c d hc hd nc h p hp;have e1:=Gs hc hp;by_cases q:∃r∈d,r.1=p.1
  .obtain⟨r,hr,e⟩:=q;have e2:=Gs hd hr;rw[e,<-h,e1]at e2;have:r=p:=Prod.ext e (Prod.ext e2.symm rfl);rw[<-this];exact hr
  .have e2:=yI (c:=d) (a:=p.1) (fun r hr e=>q ⟨r,hr,e⟩);rw[h,e2]at e1;exact absurd e1.symm (nc p hp)
 have hp:c.Perm d:=(List.perm_ext_iff_of_nodup (QP hc) (QP hd)).2 fun p=>⟨sub hc hd nc h p,sub hd hc nd (fun a=>(h a).symm) p⟩;exact hp.eq_of_pairwise (le:=fun p q:aO=>p.1<q.1) (fun a b _ _ h1 h2=>by omega) hc hd
theorem abS(l:List Bool):bN (cp l) l.length=l:=by
 refine List.ext_getElem? fun i=>?_;unfold bN;rw[List.getElem?_map];by_cases hi:i<l.length
 .rw[List.getElem?_range hi,List.getElem?_eq_getElem hi];have h:=FO l i hi;rw[List.getD_eq_getElem?_getD,List.getElem?_eq_getElem hi]at h;exact congrArg some h.symm
 .rw[List.getElem?_eq_none (by simpa using hi),List.getElem?_eq_none (by omega)];rfl
section
variable{n:ax}{V:Nat}(t:fN n V)
include t
theorem afp{K:Nat}{ls:List Bool}{cs:List (List aO)}(ok:iB n K ls cs):gp n ls cs=(0,fH n ls cs n.aa.length):=by unfold gp;have h1:=t.wd;have h2:=t.ow;unfold bP at h1;rw[if_neg (fun q=>q (adT t.hc (Rg t ok))),if_neg (by omega)]
theorem Rq{K:Nat}{ls:List Bool}{cs:List (List aO)}(ok:iB n K ls cs):bo n (cp (gp n ls cs).2)=(ls,cs):=by
 rw[afp t ok];have hcl:cs.length=n.aa.length:=ok.mA;have hll:=ok.tL;obtain⟨L,hL⟩:∃L,L=fH n ls cs n.aa.length:=⟨_,rfl⟩;have hlen:L.length=wid n:=by
  have h1:=yz ls cs hcl n.aa.length (Nat.le_refl _);have h2:=t.off;have h3:cD n n.aa.length=j9 n.aa:=by unfold cD;rw[List.take_length]
  rw[hL];omega
 show bo n (cp (fH n ls cs n.aa.length))=_;unfold bo;rw[uu t,<-hL,<-hlen,abS];show(L.take n.au.length,eJ n (L.drop n.au.length) n.aa.length)=_;have hbit:=Sb (n:=n) ls cs hcl n.aa.length (Nat.le_refl _);rw[<-hL]at hbit;have e1:L.take n.au.length=ls:=by rw[hL,<-hll];unfold fH;exact List.take_left
 refine Prod.ext e1 (List.ext_getElem? fun i=>?_);show(eJ n (L.drop n.au.length) n.aa.length)[i]?=cs[i]?;by_cases hi:i<n.aa.length
 .have hx:=List.getElem?_eq_getElem hi;have hy:=List.getElem?_eq_getElem (show i<cs.length by omega);obtain⟨m,hm⟩:∃m,m=n.aa[i]:=⟨_,rfl⟩;obtain⟨c,hc⟩:∃c,c=cs[i]'(by omega):=⟨_,rfl⟩;rw[<-hm]at hx;rw[<-hc]at hy;have ko:=ok.ok i m c hx hy;have sm:=t.sm m (List.mem_of_getElem? hx);have hg:n.aa.getD i mz=m:=by rw[List.getD_eq_getElem?_getD,hx];rfl
  unfold eJ;rw[List.getElem?_map,List.getElem?_range hi,hy];show some (fV (n.aa.getD i mz).word.toNat ((L.drop n.au.length).drop (cD n i)) (2^(n.aa.getD i mz).addr.toNat))=some c;rw[hg];refine congrArg some (canon (yB _ _ _) ko.jH (fun p hp=>?_) (fun p hp=>by have:=ko.wd p hp;omega) fun a=>?_)
  .obtain⟨x,_,h0,rfl⟩:=rC hp;show((cellAt _ _ x:Nat):Int)≠0;omega
  .by_cases ha:0<=a/\a<((2^m.addr.toNat:Nat):Int)
   .obtain⟨x,rfl⟩:∃x:Nat,a=(x:Int):=⟨a.toNat,by omega⟩;have hx2:x<2^m.addr.toNat:=by omega
    have hr0:0<=rd c (x:Int)/\rd c (x:Int)<2^m.word.toNat:=by
     rcases R7 c (x:Int)with e|⟨p,hp,e⟩
     .rw[e,oC];have:=Nat.two_pow_pos m.word.toNat;omega
     .have:=ko.wd p hp;rw[e];exact⟨by omega,this.2⟩
    have hoff:cD n i+2^m.addr.toNat*m.word.toNat<=j9 n.aa:=by
     have h1:=rz n hx;have h2:=QL n (show i+1<=n.aa.length by omega);have h3:cD n n.aa.length=j9 n.aa:=by unfold cD;rw[List.take_length]
     unfold fW at h1;omega
    have h2:=t.off;have hmul:=Nat.mul_le_mul_right m.word.toNat (show x+1<=2^m.addr.toNat from hx2);rw[Nat.succ_mul x]at hmul;have hcell:cellAt m.word.toNat ((L.drop n.au.length).drop (cD n i)) x=(rd c (x:Int)).toNat:=by
     unfold cellAt;have hl2:((((L.drop n.au.length).drop (cD n i)).drop (x*m.word.toNat)).take m.word.toNat).length=m.word.toNat:=by rw[List.length_take,List.length_drop,List.length_drop,List.length_drop];omega
     refine adB ?_ fun j hj=>?_
     .rw[hl2];have:=hr0.2;rw[oC]at this;omega
     .rw[hl2]at hj;have hb:=hbit i m c hi hx hy x j hx2 hj;rw[<-hb,hll];rw[List.getD_eq_getElem?_getD,List.getD_eq_getElem?_getD,List.getElem?_take,if_pos hj,List.getElem?_drop,List.getElem?_drop,List.getElem?_drop];congr 2;omega
    by_cases hz:cellAt m.word.toNat ((L.drop n.au.length).drop (cD n i)) x=0
    .rw[yI (fun p hp=>by
      obtain⟨y,_,h0,rfl⟩:=rC hp;show(y:Int)≠(x:Int);intro e;have:y=x:=by omega
      subst this;exact h0 hz)]
     rw[hcell]at hz;omega
    .have hm2:((x:Int),(((cellAt m.word.toNat ((L.drop n.au.length).drop (cD n i)) x:Nat):Int),()))∈fV m.word.toNat ((L.drop n.au.length).drop (cD n i)) (2^m.addr.toNat):=by unfold fV;refine List.mem_flatMap.2 ⟨x,List.mem_range.2 hx2,?_⟩;rw[if_neg hz];exact List.mem_singleton.2 rfl
     rw[Gs (yB _ _ _) hm2];show((cellAt _ _ x:Nat):Int)=_;rw[hcell];omega
   .rw[yI (fun p hp=>by
      obtain⟨y,hy2,h0,rfl⟩:=rC hp;show(y:Int)≠a;intro e;exact ha (by omega)),yI (fun p hp=>by
      have:=ko.at_ p hp;rw[oC]at this;intro e;exact ha (by omega))]
 .unfold eJ;rw[List.getElem?_map,List.getElem?_eq_none (by simpa using hi),List.getElem?_eq_none (by omega)];rfl
