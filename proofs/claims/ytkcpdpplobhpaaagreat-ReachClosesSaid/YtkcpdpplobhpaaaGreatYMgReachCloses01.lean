import Derived.Test.YtkcpdpplobhpaaaGreatYMgReachCloses00
set_option linter.unusedSectionVars false
set_option linter.unusedVariables false
set_option linter.unusedSimpArgs false
set_option linter.unnecessarySimpa false
section
namespace Go.Proofs.YtkcpdpplobhpaaaGreat.V
open Go Go.RowKit Go.Proofs.YtkcpdpplobhpaaaGreat.Pl
def wrV(val:Int->Bool)(ws:List mw)(a j:Nat)(b:Bool):Bool:=ws.foldl (fun x w=>if qS val w.on=true/\bG (w.addr.map (qS val))=a then qS val (li w.data j)else x) b
def lz:dx:=⟨0,0,0⟩
def la(L:List dx)(p:Nat):dx:=L.getD p lz
def afJ(L:List bB):Nat:=L.foldl (fun a m=>a+(fU m+10*fU m*(m.reads.length+m.writes.length))) 0
structure Gn(n:av)(V k:Nat)(s:Mk)(L:List dx)(cv:Nat->Nat):Prop where
 lo:V<=s.v
 hi:s.v<=V+afJ (n.aa.take k)
 new:∃N:List eH,s.a=n.aL++N/\(L.map (·.var)++N.map (·.var)).Perm (n.aw.map (·.var)++((n.aa.take k).flatMap ns++fr V s.v)) /\
  ∀x∈N,(rA s.v x.a/\rA s.v x.b)/\(x.var∈(n.aa.take k).flatMap ns\/(x.a / 2<x.var/\x.b / 2<x.var))
 len:L.length=n.aw.length+cz n k
 old:∀p,p<n.aw.length->la L p=la n.aw p
 nx:∀p,p<L.length->rA s.v (la L p).next
 cell:∀(i:Nat) (M:bB),i<k->n.aa[i]?=some M->V<=cv i/\cv i+fU M<=s.v/\∀q,q<fU M->(la L (n.aw.length+cz n i+q)).var=((cv i+1+q:Nat):Int)/\(la L (n.aw.length+cz n i+q)).init=(if M.any then 2 else 0)
 rd:∀val,Sat val s.a->∀(i:Nat) (M:bB),i<k->n.aa[i]?=some M->∀r∈M.reads,∀j:Nat,j<M.word.toNat->val (r.var+(j:Int))=val ((cv i+1+(bG (r.addr.map (qS val))*M.word.toNat+j):Nat):Int)
 wr:∀val,Sat val s.a->∀(i:Nat) (M:bB),i<k->n.aa[i]?=some M->∀a,a<2^M.addr.toNat->∀j,j<M.word.toNat->qS val (la L (n.aw.length+cz n i+(a*M.word.toNat+j))).next=wrV val M.writes a j (val ((cv i+1+(a*M.word.toNat+j):Nat):Int))
 clo:∀G,Clo G s.a->(∀(i:Nat) (M:bB),i<k->n.aa[i]?=some M->∀q,q<fU M->G ((cv i+1+q:Nat):Int))->∀(i:Nat) (M:bB),i<k->n.aa[i]?=some M->∀r∈M.reads,(∀x∈r.addr,GL G x)->∀j:Nat,j<M.word.toNat->G (r.var+(j:Int))
set_option maxRecDepth 10000
theorem Qw(n:av):∀{i k:Nat},i<=k->cz n i<=cz n k:=by
 intro i k h
 induction h with
 |refl=>exact Nat.le_refl _|step h ih=>
  rename_i m;show cz n i<=cz n (m+1);rcases Nat.lt_or_ge m n.aa.length with q|q
  .rw[rn n (List.getElem?_eq_getElem q)];omega
  .have:cz n (m+1)=cz n m:=by unfold cz;rw[List.take_of_length_le q,List.take_of_length_le (by omega)]
   omega
theorem Y0{A B:List Bool}{p:Nat}(h:p<A.length):(A++B).getD p false=A.getD p false:=by rw[List.getD_eq_getElem?_getD,List.getD_eq_getElem?_getD,List.getElem?_append_left h]
theorem Y1{A B:List Bool}{p:Nat}:(A++B).getD (A.length+p) false=B.getD p false:=by rw[List.getD_eq_getElem?_getD,List.getD_eq_getElem?_getD,List.getElem?_append_right (by omega),Nat.add_sub_cancel_left]
theorem adp(m:bB)(c:List aO)(a:Nat){j:Nat}(h:j<m.word.toNat):(jJ m c a).getD j false=decide ((rd c (a:Int)).toNat / 2^j % 2=1):=by unfold jJ cX;rw[List.getD_eq_getElem?_getD,List.getElem?_map,List.getElem?_range h];rfl
theorem Q8(m:bB)(c:List aO):∀(N a j:Nat),a<N->j<m.word.toNat->(fN m c N).getD (a*m.word.toNat+j) false=decide ((rd c (a:Int)).toNat / 2^j % 2=1)
 |0,a,j,h,_=>by omega|N+1,a,j,h,hj=>by
  rw[yg];have hl:=tY m c N;by_cases q:a<N
  .have:a*m.word.toNat+j<(fN m c N).length:=by have:=Nat.mul_le_mul_right m.word.toNat (show a+1<=N from q);rw[Nat.succ_mul a]at this;omega
   rw[Y0 this];exact Q8 m c N a j q hj
  .obtain rfl:a=N:=by omega
   rw[<-hl,Y1];exact adp m c a hj
section
variable{n:av}(ls:List Bool)(cs:List (List aO))(hcs:cs.length=n.aa.length)
include hcs
theorem yk:∀k,k<=n.aa.length->(fE n ls cs k).length=ls.length+cz n k
 |0,_=>by
  have:fE n ls cs 0=ls:=by unfold fE;simp
  rw[this];rfl
 |k+1,h=>by have hm:=List.getElem?_eq_getElem (show k<n.aa.length by omega);have hc:=List.getElem?_eq_getElem (show k<cs.length by omega);rw[ua n ls cs hm hc,List.length_append,yk k (by omega),tY,rn n hm];unfold fU;omega
end
section
variable{n:av}(ls:List Bool)(cs:List (List aO))(hcs:cs.length=n.aa.length)
include hcs
theorem RO:∀k,k<=n.aa.length->∀(i:Nat) (M:bB) (c:List aO),i<k->n.aa[i]?=some M->cs[i]?=some c->∀a j,a<2^M.addr.toNat->j<M.word.toNat ->
  (fE n ls cs k).getD (ls.length+cz n i+(a*M.word.toNat+j)) false=decide ((rd c (a:Int)).toNat / 2^j % 2=1)
 |0,_,i,M,c,hi,_,_,_,_,_,_=>by omega|k+1,hk,i,M,c,hi,hM,hc,a,j,ha,hj=>by
  have hk1:k<n.aa.length:=hk;have hk2:k<cs.length:=by rw[hcs];exact hk
  have hm:=List.getElem?_eq_getElem hk1;have hc':=List.getElem?_eq_getElem hk2;rw[ua n ls cs hm hc'];have hl:=yk ls cs hcs k (by omega);have hlt:a*M.word.toNat+j<fU M:=by have:=Nat.mul_le_mul_right M.word.toNat (show a+1<=2^M.addr.toNat from ha);rw[Nat.succ_mul a]at this;unfold fU;omega
  by_cases q:i<k
  .have h1:=rn n hM;have h2:=Qw n (show i+1<=k from q);rw[Y0 (by omega)];exact RO k (by omega) i M c q hM hc a j ha hj
  .obtain rfl:i=k:=by omega
   have hM:=Option.some.inj (hm.symm.trans hM);have hc:=Option.some.inj (hc'.symm.trans hc);subst hM;subst hc;rw[<-hl,Y1];exact Q8 _ _ _ a j ha hj
end
theorem oA(k:Nat):(2:Int)^k=((2^k:Nat):Int):=by push_cast;rfl
abbrev kR:=cV fe
structure eK where
 nx:Nat->Nat->Nat
 fi:Nat->Nat->Bool
 bd:Nat->Nat->Int
 ls:Nat->Nat->List Bool
 cs:Nat->Nat->List (List aO)
structure Qs where
 how:kR
 next:List Nat
 ls:List Bool
 rs:List cW
def bR(l:List Nat):List Int:=l.map (fun k:Nat=>(k:Int))
def mY(n:av)(c:eK)(k y:Nat)(q:Qs):Qs⊕Qs:=match c.fi k y with|false=>.inr ⟨q.how,q.next,c.ls k y,bq n (c.cs k y)⟩|true=>match decide (0<=c.bd k y)with|true=>.inl ⟨q.how,q.next,c.ls k y,bq n (c.cs k y)⟩|false=>match cS q.how (c.nx k y:Int)with|true=>.inr ⟨q.how,q.next,c.ls k y,bq n (c.cs k y)⟩|false=>.inr ⟨dp (c.nx k y:Int) ((k:Int),((y:Int),())) q.how,q.next++[c.nx k y],c.ls k y,bq n (c.cs k y)⟩
def jz{Q R:Type}(stp:Nat->Q->R⊕Q):Nat->Nat->Q->(Nat×R)⊕Q
 |_,0,q=>.inr q|i,j+1,q=>match stp i q with|.inl r=>.inl (i,r)|.inr q=>jz stp (i+1) j q
def vD{D O Q R:Type}(f:Q->D)(g:R->O):R⊕Q->Option (D⊕O)
 |.inl r=>some (.inr (g r))|.inr q=>some (.inl (f q))
def nU{O Q R:Type}(g:R->O)(z:Q->O):R⊕Q->O
 |.inl r=>g r|.inr q=>z q
theorem yu{D O Q R:Type}{B:D->Option (D⊕O)}(stp:Nat->Q->R⊕Q)(f:Nat->Q->D)(g:Nat->R->O)(z:Q->O)(I:Nat->Q->Prop)(n:Nat)
  (hi:∀i q,i<n->I i q->(∃r,stp i q=.inl r)\/∃q2,stp i q=.inr q2/\I (i+1) q2)
  (he:∀q,I n q->B (f n q)=some (.inr (z q)))
  (hs:∀i q,i<n->I i q->B (f i q)=vD (f (i+1)) (g i) (stp i q)) :
  ∀j i q,i+j=n->I i q->∀N,j<N->aQ B N (f i q)=some (nU (fun r=>g r.1 r.2) z (jz stp i j q))
 |0,i,q,hj,h,N,hN=>by
  obtain⟨N,rfl⟩:∃M,N=M+1:=⟨N-1,by omega⟩;obtain rfl:i=n:=by omega
  simp only[aQ,he q h,jz,nU]
 |j+1,i,q,hj,h,N,hN=>by
  obtain⟨N,rfl⟩:∃M,N=M+1:=⟨N-1,by omega⟩;have e2:=hs i q (by omega) h;rcases hi i q (by omega) h with⟨r,e1⟩|⟨q2,e1,h2⟩
  .rw[e1]at e2;simp only[aQ,e2,jz,e1,vD,nU]
  .rw[e1]at e2;simp only[aQ,e2,jz,e1,vD];exact yu stp f g z I n hi he hs j (i+1) q2 (by omega) h2 N (by omega)
theorem tZ{Q R:Type}{stp:Nat->Q->R⊕Q}(I:Nat->Q->Prop)(J:Nat->R->Prop)(n:Nat)
  (hs:∀i q,i<n->I i q->(∃r,stp i q=.inl r/\J i r)\/∃q2,stp i q=.inr q2/\I (i+1) q2) :
  ∀j i q,i+j=n->I i q->(∃r,jz stp i j q=.inl r/\r.1<n/\J r.1 r.2)\/∃q2,jz stp i j q=.inr q2/\I n q2
 |0,i,q,hi,h=>by
  obtain rfl:i=n:=by omega
  exact .inr ⟨q,rfl,h⟩
 |j+1,i,q,hi,h=>by
  rcases hs i q (by omega) h with⟨r,e1,e2⟩|⟨q2,e1,h2⟩
  .exact .inl ⟨(i,r),by simp only[jz,e1],by show i<n;omega,e2⟩
  .simp only[jz,e1];exact tZ I J n hs j (i+1) q2 (by omega) h2
def pw(n:av)(c:eK)(m k:Nat)(q:Qs):(Nat×Qs)⊕Qs:=jz (mY n c k) 0 m q
def BR(n:av)(c:eK)(m:Nat)(l:List Nat)(i:Nat)(q:Qs):(Nat×Qs)⊕Qs:=pw n c m (l.getD i 0) q
def ot(n:av)(c:eK)(m:Nat)(l:List Nat)(q:Qs):(Nat×Nat×Qs)⊕Qs:=jz (BR n c m l) 0 l.length q
abbrev B5:=Nat×Nat×Qs
def kq(n:av)(c:eK)(m _:Nat)(q:Int×Qs):(B5×List Nat⊕Int×Qs)⊕(Int×Qs):=match ot n c m q.2.next ⟨q.2.how,[],q.2.ls,q.2.rs⟩with|.inl r=>.inl (.inl (r,q.2.next))|.inr q2=>match decide ((q2.next.length:Int)=0)with|true=>.inl (.inr ((q.2.how.length:Int),q2))|false=>.inr ((q.2.how.length:Int),q2)
def sD(n:av)(c:eK)(m d:Nat)(q:Qs):=jz (kq n c m) 0 d ((0:Int),q)
structure dM(W:Nat)(q:Qs):Prop where
 jD:q.how.Pairwise (fun a b=>a.1<b.1)
 key:∀p∈q.how,0<=p.1/\p.1<(W:Int)
 len:q.next.length<=q.how.length+1024
 iM:∀k∈q.next,k<W
theorem FI{α:Type}:∀(M:List (Int×α)) (a W:Int),a<=W->M.Pairwise (fun a b=>a.1<b.1)->(∀p∈M,a<=p.1/\p.1<W)->(M.length:Int)<=W-a
 |[],a,W,h,_,_=>by simp;omega|p::M,a,W,h,hs,hk=>by have h1:=hk p (List.mem_cons_self ..);have hs:=List.pairwise_cons.1 hs;have:=FI M (p.1+1) W (by omega) hs.2 (fun q hq=>⟨by have:=hs.1 q hq;omega,(hk q (List.mem_cons_of_mem _ hq)).2⟩);rw[List.length_cons];push_cast;omega
theorem dM.many{W:Nat}{q:Qs}(h:dM W q):q.how.length<=W:=by have:=FI q.how 0 (W:Int) (by omega) h.jD h.key;omega
theorem Qv{σ:Sh}{k:Int}:∀{M:cV σ},cS M k=false->∀p∈M,p.1≠k
 |[],_,p,hp=>nomatch hp
 |q::M,h,p,hp=>by
  unfold cS at h;by_cases e:q.1=k
  .rw[decide_eq_true e]at h;cases h
  .rw[decide_eq_false e]at h;rcases List.mem_cons.1 hp with rfl|hp
   .exact e
   .exact Qv h p hp
theorem aca{σ:Sh}{k:Int}{v:σ.T}{M:cV σ}(h:cS M k=false):(dp k v M).length=M.length+1:=by rw[(QK (Qv h)).length_eq,List.length_append];rfl
theorem Rf{n:av}{c:eK}{W k y:Nat}{q:Qs}(hn:c.nx k y<W)(h:dM W q):(∃q2,mY n c k y q=.inl q2/\dM W q2)\/∃q2,mY n c k y q=.inr q2/\dM W q2:=by
 unfold mY;cases c.fi k y with
 |false=>exact .inr ⟨_,rfl,⟨h.jD,h.key,h.len,h.iM⟩⟩|true=>
  cases decide (0<=c.bd k y)with
  |true=>exact .inl ⟨_,rfl,⟨h.jD,h.key,h.len,h.iM⟩⟩|false=>
   cases hm:cS q.how (c.nx k y:Int)with
   |true=>exact .inr ⟨_,rfl,⟨h.jD,h.key,h.len,h.iM⟩⟩|false=>
    refine .inr ⟨_,rfl,⟨wO h.jD,fun p hp=>?_,?_,fun j hj=>?_⟩⟩
    .rcases FD hp with e|e
     .rw[e];omega
     .exact h.key p e
    .have e:=aca (σ:=fe) (v:=((k:Int),((y:Int),()))) hm;have hl:=h.len;have e2:(q.next++[c.nx k y]).length=q.next.length+1:=List.length_append;exact Nat.le_trans (Nat.le_of_eq e2) (Nat.le_trans (by omega:q.next.length+1<=(q.how.length+1)+1024) (Nat.le_of_eq (congrArg (·+1024) e.symm)))
    .rcases List.mem_append.1 hj with e|e
     .exact h.iM j e
     .rw[List.mem_singleton.1 e];exact hn
theorem FK{n:av}{c:eK}{W m k:Nat}{q:Qs}(hn:∀y,y<m->c.nx k y<W)(h:dM W q):(∃r,pw n c m k q=.inl r/\r.1<m/\dM W r.2)\/∃q2,pw n c m k q=.inr q2/\dM W q2:=tZ (fun _ q=>dM W q) (fun _ q=>dM W q) m (fun i q hi h=>Rf (hn i hi) h) m 0 q (by omega) h
theorem Q4{W:Nat}{l:List Nat}(hl:∀k∈l,k<W){i:Nat}(hi:i<l.length):l.getD i 0<W:=by rw[List.getD_eq_getElem?_getD,List.getElem?_eq_getElem hi];exact hl _ (List.getElem_mem hi)
theorem yr{n:av}{c:eK}{W m:Nat}(hn:∀k y,k<W->y<m->c.nx k y<W){l:List Nat}{q:Qs}(hl:∀k∈l,k<W)(h:dM W q):(∃r,ot n c m l q=.inl r/\r.1<l.length/\r.2.1<m/\dM W r.2.2)\/∃q2,ot n c m l q=.inr q2/\dM W q2:=tZ (fun _ q=>dM W q) (fun _ (r:Nat×Qs)=>r.1<m/\dM W r.2) l.length (fun i q hi h=>FK (fun y hy=>hn _ y (Q4 hl hi) hy) h) l.length 0 q (by omega) h
def jC(n:av)(k y:Nat):List Bool:=fB n (bM n k).1 (bM n k).2 (cX y n.aM.length)
def cf(n:av):eK where
 nx k y:=bG (fx n (gk n (jC n k y)) (gV n (bM n k).2 (jC n k y))).2
 fi k y:=kO n (jC n k y)
 bd k y:=idx (jF n (jC n k y))
 ls k y:=gk n (jC n k y)
 cs k y:=gV n (bM n k).2 (jC n k y)
section
variable{n:av}{V:Nat}(hs:cj n V)
include hs
theorem ae7{K:Nat}{ls:List Bool}{cs:List (List aO)}(ok:fW n K ls cs):lJ cs:=by
 intro c hc i hi;obtain⟨j,hj⟩:=List.getElem?_of_mem (show(c:List aO)∈cs from hc);have hjl:=dr hj;have hcl:cs.length=n.aa.length:=ok.mA;have hjm:j<n.aa.length:=Nat.lt_of_lt_of_le hjl (Nat.le_of_eq hcl);have hm:=List.getElem?_eq_getElem hjm;have ko:=ok.ok j _ _ hm hj;obtain⟨m1,m2,m3,m4,_⟩:=hs.aa _ (List.getElem_mem hjm);have hp:(c:List aO)[i]?=some ((c:List aO)[i]'hi):=List.getElem?_eq_getElem hi;obtain⟨e1,e2⟩:=sf hp;have h1:=ko.at_ _ (List.mem_of_getElem? hp);have h2:=ko.wd _ (List.mem_of_getElem? hp);have b:∀(x:Int) (k:Nat),x<2^k->k<=64->x<=18446744073709551615:=by intro x k hx hk;rw[oA]at hx;have:=Nat.pow_le_pow_right (n:=2) (by omega) hk;have e:(2:Nat)^64=18446744073709551616:=rfl;omega
 rw[e1,e2];exact⟨⟨h1.1,b _ _ h1.2 (by omega)⟩,⟨by omega,b _ _ h2.2 (by omega)⟩⟩
end
section
variable{n:av}{V:Nat}(t:fX n V)
include t
theorem ub{ls:List Bool}(cs:List (List aO))(hls:ls.length=n.aw.length):(fx n ls cs).2.length<=wid n:=by
 unfold fx;by_cases h0:gU (ba n) (ls,(cs,()))=0
 .rw[if_neg (fun q=>q h0)];by_cases h1:64<dE n
  .rw[if_pos h1];exact Nat.zero_le _
  .rw[if_neg h1];have hf:=(FW h0).2;unfold dV at hf;simp only[Bool.and_eq_true,decide_eq_true_eq]at hf;have hcs:cs.length=n.aa.length:=hf.1.2.trans (List.length_map ..);have:=yk ls cs hcs n.aa.length (Nat.le_refl _);have h2:=t.off;have h3:cz n n.aa.length=j3 n.aa:=by unfold cz;rw[List.take_length]
   show(fE n ls cs n.aa.length).length<=_;omega
 .rw[if_pos h0];exact Nat.zero_le _
theorem Sb(k y:Nat):((cf n).ls k y).length=n.aw.length:=by show(gk n _).length=_;unfold gk;rw[List.length_map]
theorem oG(k y:Nat):(cf n).nx k y<2^wid n:=by have h:=ub t (gV n (bM n k).2 (jC n k y)) (Sb t k y);have h2:=kZ (fx n (gk n (jC n k y)) (gV n (bM n k).2 (jC n k y))).2;have h3:=Nat.pow_le_pow_right (n:=2) (by omega) h;exact Nat.lt_of_lt_of_le h2 h3
end
theorem ad2{n:av}{V:Nat}(t:fX n V):IntKind.wrap .i64 ((1:Int)*(HPow.hPow (2:Int) (Min.min (Int.toNat (Int.ofNat n.aM.length)) 64)))=((2^n.aM.length:Nat):Int):=by have hi:=t.ins;have h64:(2:Nat)^n.aM.length<=64:=Nat.pow_le_pow_right (n:=2) (by omega) (show n.aM.length<=6 from hi);have e:Int.toNat (Int.ofNat n.aM.length)=n.aM.length:=Int.toNat_natCast _;rw[e,Nat.min_eq_left (by omega),Int.one_mul,oA];exact(show ∀N:Nat,N<=64->IntKind.wrap .i64 (N:Int)=(N:Int)from fun N h=>bJ (by omega)) _ h64
theorem ad7{l:List Nat}{i:Nat}(hi:i<l.length):gt (.int .i64) (bR l) (i:Int)=((l.getD i 0:Nat):Int):=by
 have e:(bR l)[i]?=some ((l.getD i 0:Nat):Int):=by unfold bR;rw[List.getElem?_map,List.getD_eq_getElem?_getD,List.getElem?_eq_getElem hi];rfl
 exact bn (σ:=.int .i64) e
section
variable{n:av}{V:Nat}(t:fX n V)(ft:Fit n)(hf:∀k,k<2^wid n->dV (ba n) ((bM n k).1,((bM n k).2,()))=true)
include t hf
theorem afB{k:Nat}(hk:k<2^wid n)(y:Nat):fW n 4096 (bM n k).1 (bM n k).2/\fW n 4100 ((cf n).ls k y) ((cf n).cs k y):=by have h:=KV (hf k hk) (Gg t k);exact⟨h,BC t.hs h _⟩
include ft
def Oz(n:av)(V:Nat)(now:List Int)(k y:Nat)(r:Qs):Out qX:=.inl ((cf n).bd k y,(true,nt n (cq n,(r.how,(now,mc n (aU n V) r.ls r.rs ((k:Int),((y:Int),())))))))
def Oy(n:av)(V:Nat)(now:List Int)(t21 t22 b80 b81:Int)(q:Qs):Out qX:=.inr (t21,(t22,nt n (cq n,(q.how,(now,mc n (aU n V) q.ls q.rs (b80,(b81,(bR q.next,()))))))))
theorem alC{k m:Nat}(hk:k<2^wid n)(hm:m=2^n.aM.length)(now:List Int)(t21 t22 b80 b81:Int){q:Qs}(h:dM (2^wid n) q) :
  xv ((k:Int),(t21,(t22,((m:Int),((0:Int),nt n (cq n,(q.how,(now,mc n (aU n V) q.ls q.rs (b80,(b81,(bR q.next,()))))))))))) =
   some (nU (fun r:Nat×Qs=>Oz n V now k r.1 r.2) (Oy n V now t21 t22 b80 b81) (pw n (cf n) m k q)):=by
 have hp:=pJ t;have hw:=t.pE;have hi:=t.ins;have hm64:m<=64:=by rw[hm];exact Nat.pow_le_pow_right (n:=2) (by omega) (show n.aM.length<=6 from hi)
 unfold pw;unfold xv;refine yu (mY n (cf n) k) (fun(y:Nat) (q:Qs)=>((k:Int),(t21,(t22,((m:Int),((y:Int),nt n (cq n,(q.how,(now,mc n (aU n V) q.ls q.rs (b80,(b81,(bR q.next,()))))))))))))
  (Oz n V now k) (Oy n V now t21 t22 b80 b81)
  (fun _ q=>dM (2^wid n) q) m ?_ ?_ ?_ m 0 q (by omega) h NN (bt (by omega))
 .intro y q hy h;rcases Rf (n:=n) (oG t k y) h with⟨r,e,_⟩|⟨q2,e,h2⟩
  .exact .inl ⟨r,e⟩
  .exact .inr ⟨q2,e,h2⟩
 .intro q h;exact af (au (show ¬(m:Int)<(m:Int) by omega)) rfl
 .intro y q hy h;obtain⟨ok1,ok2⟩:=afB t hf hk y;have sl:=yx t k;have hml:=h.many;have hln:=h.len;have e1:l9 (IntKind.wrap .u64 (k:Int),(cq n,()))=some (cX k (wid n),()):=by rw[Sj (by omega),t.wd];exact tW k (wid n) (by omega) (by omega)
  have e2:=(Qq t ft (k:=k) (by omega)).1;have e3:=aef ft (aU n V) q.ls (bM n k).1 q.rs (bM n k).2 sl.2.1 (hf k hk) (by have:=t.hs.lens.2.1;omega);have e4:l9 (IntKind.wrap .u64 (y:Int),(Int.ofNat n.aM.length,()))=some (cX y n.aM.length,()):=by rw[j4 (by omega)];exact tW y n.aM.length (by omega) (by omega)
  have e5:=QU t.hs ft (by omega) (bM n k).1 (cX y n.aM.length) (bM n k).2 ok1 (kX _ _);have e6:=QT t.hs (aU n V) (by omega) ok2;have e7:=(Qp ft ((cf n).ls k y) ((cf n).cs k y) (ae7 t.hs ok2) (by have:=ok2.qT;have:=t.hs.lens.2.1;omega) (fun c hc=>Nat.le_trans (acv ok2 c hc) (by omega))).1;have hl8:=ub t ((cf n).cs k y) (Sb t k y);have e8:=Fg (fx n ((cf n).ls k y) ((cf n).cs k y)).2 (by omega);have e9:=ak4 (jF n (jC n k y)) (by rw[Fy];have:=t.hs.lens.2.2.2.1;omega);have hnx:=oG t k y;have ew:IntKind.wrap .i64 ((bG (fx n ((cf n).ls k y) ((cf n).cs k y)).2:Nat):Int)=(((cf n).nx k y:Nat):Int):=bJ (by show -9223372036854775808<=(((cf n).nx k y:Nat):Int)/\(((cf n).nx k y:Nat):Int)<=_;omega);have hy1:IntKind.wrap .i64 ((y:Int)+1)=((y+1:Nat):Int):=bF (x:=(y:Int)+1) (n:=y+1) (by omega) (by omega);refine ao (aj (show(y:Int)<(m:Int) by omega)) (ag e1 (ag e2 (ak (aj rfl) (ag e3 (ag e4 (ag e5 (ak (aj rfl) (ag e6 (ak (QY _) (ag e7 (ak (aj rfl) (ag e8 (ak (QY _) (ag e9 ?_))))))))))))));have e:∀(p q:Int) (H H':kR) (L L':List Int) (A:List Bool) (R:List cW),p=q->H=H'->L=L'->(some (.inl ((k:Int),(t21,(t22,((m:Int),(p,nt n (cq n,(H,(now,mc n (aU n V) A R (b80,(b81,(L,())))))))))))):Option (TL xp.σs⊕Out qX))=some (.inl ((k:Int),(t21,(t22,((m:Int),(q,nt n (cq n,(H',(now,mc n (aU n V) A R (b80,(b81,(L',())))))))))))):=by rintro _ _ _ _ _ _ _ _ rfl rfl rfl;rfl
  unfold mY;cases hfi:(cf n).fi k y with
  |false=>exact ao (fg hfi) (e _ _ _ _ _ _ _ _ hy1 rfl rfl)|true=>
   refine af (dn hfi) ?_;by_cases hb:0<=(cf n).bd k y
   .rw[decide_eq_true hb];exact ao (aj hb) rfl
   .rw[decide_eq_false hb];refine af (au hb) ?_;cases hh:cS q.how (((cf n).nx k y:Nat):Int)with
    |true=>exact af (dn (by rw[ew];exact hh)) (e _ _ _ _ _ _ _ _ hy1 rfl rfl)|false=>
     have hnl:(bR q.next).length<=2048:=by unfold bR;rw[List.length_map];omega
     refine ao (fg (by rw[ew];exact hh)) (ak (oh (a:=8) (L:=bR q.next) (x:=IntKind.wrap .i64 ((bG (fx n ((cf n).ls k y) ((cf n).cs k y)).2:Nat):Int)) (by omega) (by omega)) (e _ _ _ _ _ _ _ _ hy1 ?_ ?_))
     .exact congrArg (fun z:Int=>dp (σ:=fe) z ((k:Int),((y:Int),())) q.how) ew
     .rw[ew];unfold bR;rw[List.map_append];rfl
def Ox(n:av)(V:Nat)(now:List Nat)(i:Nat)(r:Nat×Qs):Out qW:=.inl ((cf n).bd (now.getD i 0) r.1,(true,nt n (cq n,(r.2.how,(bR now,mc n (aU n V) r.2.ls r.2.rs (((now.getD i 0:Nat):Int),((r.1:Int),())))))))
def Ow(n:av)(V:Nat)(now:List Nat)(q:Qs):Out qW:=.inr (nt n (cq n,(q.how,(bR now,mc n (aU n V) q.ls q.rs ((0:Int),((0:Int),(bR q.next,())))))))
def kK{α:Type}(n:av)(ord:List (bA×bo))(r:α):=nt n (ord.map (fun x=>cU x.1),r)
theorem alB{m:Nat}(hm:m=2^n.aM.length){now:List Nat}(hl:∀k∈now,k<2^wid n)(hln:now.length<=2048){q:Qs}(h:dM (2^wid n) q) :
  Es ((now.length:Int),((0:Int),nt n (cq n,(q.how,(bR now,mc n (aU n V) q.ls q.rs ((0:Int),((0:Int),(bR q.next,())))))))) =
   some (nU (fun r:Nat×Nat×Qs=>Ox n V now r.1 r.2) (Ow n V now) (ot n (cf n) m now q)):=by
 have hnl:(bR now).length=now.length:=by unfold bR;rw[List.length_map]
 unfold ot;unfold Es;refine yu (BR n (cf n) m now) (fun(i:Nat) (q:Qs)=>((now.length:Int),((i:Int),nt n (cq n,(q.how,(bR now,mc n (aU n V) q.ls q.rs ((0:Int),((0:Int),(bR q.next,())))))))))
  (Ox n V now) (Ow n V now)
  (fun _ q=>dM (2^wid n) q) now.length ?_ ?_ ?_ now.length 0 q (by omega) h NN (bt (by omega))
 .intro i q hi h;rcases FK (n:=n) (c:=cf n) (m:=m) (k:=now.getD i 0) (fun y _=>oG t _ y) h with⟨r,e,_⟩|⟨q2,e,h2⟩
  .exact .inl ⟨r,e⟩
  .exact .inr ⟨q2,e,h2⟩
 .intro q h;exact af (au (show ¬(now.length:Int)<(now.length:Int) by omega)) rfl
 .intro i q hi h;have e7:=alC t ft hf (Q4 hl hi) hm (bR now) (now.length:Int) (i:Int) 0 0 h;have g:=ad7 hi;have hmi:=ad2 t;rw[<-hm]at hmi;have e7':∀(a b:Int),a=((now.getD i 0:Nat):Int)->b=(m:Int)->xv (a,((now.length:Int),((i:Int),(b,((0:Int),nt n (cq n,(q.how,(bR now,mc n (aU n V) q.ls q.rs ((0:Int),((0:Int),(bR q.next,())))))))))))=some (nU (fun r:Nat×Qs=>Oz n V (bR now) (now.getD i 0) r.1 r.2) (Oy n V (bR now) (now.length:Int) (i:Int) 0 0) (pw n (cf n) m (now.getD i 0) q)):=by rintro _ _ rfl rfl;exact e7
  refine ao (aj (show(i:Int)<(now.length:Int) by omega)) (ak (show aA (i:Int) (List.length (bR now))=true from aN ⟨by omega,by omega⟩) (ag (e7' _ _ g hmi) ?_));have hi1:IntKind.wrap .i64 ((i:Int)+1)=((i+1:Nat):Int):=bF (x:=(i:Int)+1) (n:=i+1) (by omega) (by omega);have e:∀(p q:Int) (H:kR) (L:List Int) (A:List Bool) (R:List cW),p=q->(some (.inl ((now.length:Int),(p,nt n (cq n,(H,(bR now,mc n (aU n V) A R ((0:Int),((0:Int),(L,()))))))))):Option (TL xo.σs⊕Out qW))=some (.inl ((now.length:Int),(q,nt n (cq n,(H,(bR now,mc n (aU n V) A R ((0:Int),((0:Int),(L,()))))))))):=by rintro _ _ _ _ _ _ rfl;rfl
  unfold BR;rcases FK (n:=n) (c:=cf n) (m:=m) (k:=now.getD i 0) (fun y _=>oG t _ y) h with⟨r,e1,_⟩|⟨q2,e1,h2⟩
  .rw[e1];rfl
  .rw[e1];exact e _ _ _ _ _ _ hi1
theorem acz{m:Nat}(hm:m=2^n.aM.length){q:Qs}(h:dM (2^wid n) q) :
  O4 (nt n (cq n,(q.how,(bR q.next,mc n (aU n V) q.ls q.rs ())))) =
   some (nU (fun r:Nat×Nat×Qs=>(((q.next.getD r.1 0:Nat):Int),((r.2.1:Int),((cf n).bd (q.next.getD r.1 0) r.2.1,(true,nt n (cq n,(r.2.2.how,kK n (aU n V) (bR q.next,(r.2.2.ls,(r.2.2.rs,()))))))))))
    (fun q:Qs=>((0:Int),((0:Int),((0:Int),(false,nt n (cq n,(q.how,kK n (aU n V) (bR q.next,(q.ls,(q.rs,())))))))))) (ot n (cf n) m q.next ⟨q.how,[],q.ls,q.rs⟩)):=by
 have hp:=pJ t;have h0:dM (2^wid n) ⟨q.how,[],q.ls,q.rs⟩:=⟨h.jD,h.key,Nat.zero_le _,fun k hk=>nomatch hk⟩;have e4:=alB t ft hf hm h.iM (by have:=h.len;have:=h.many;omega) h0;have hnl:Int.ofNat (List.length (bR q.next))=(q.next.length:Int):=by unfold bR;rw[List.length_map];rfl
 have e4':∀a:Int,a=(q.next.length:Int)->Es (a,((0:Int),nt n (cq n,(q.how,(bR q.next,mc n (aU n V) q.ls q.rs ((0:Int),((0:Int),([],()))))))))=some (nU (fun r:Nat×Nat×Qs=>Ox n V q.next r.1 r.2) (Ow n V q.next) (ot n (cf n) m q.next ⟨q.how,[],q.ls,q.rs⟩)):=by rintro _ rfl;exact e4
 refine ag (e4' _ hnl) ?_;rcases yr (n:=n) (c:=cf n) (m:=m) (fun k y _ _=>oG t k y) h.iM h0 with⟨r,e1,_⟩|⟨q2,e1,h2⟩
 .rw[e1];rfl
 .rw[e1];rfl
theorem aeo{m:Nat}{q:Int×Qs}(h:dM (2^wid n) q.2)(i:Nat):(∃r,kq n (cf n) m i q=.inl r)\/∃q2,kq n (cf n) m i q=.inr q2/\dM (2^wid n) q2.2:=by
 have h0:dM (2^wid n) ⟨q.2.how,[],q.2.ls,q.2.rs⟩:=⟨h.jD,h.key,Nat.zero_le _,fun k hk=>nomatch hk⟩;unfold kq;rcases yr (n:=n) (c:=cf n) (m:=m) (fun k y _ _=>oG t k y) h.iM h0 with⟨r,e1,_⟩|⟨q2,e1,h2⟩
 .rw[e1];exact .inl ⟨_,rfl⟩
 .rw[e1]
  try dsimp only
  cases decide ((q2.next.length:Int)=0)with|true=>exact .inl ⟨_,rfl⟩|false=>exact .inr ⟨_,rfl,h2⟩
abbrev yS(n:av)(V i:Nat)(r:B5×List Nat⊕Int×Qs):Out qZ:=match r with|.inl x=>.inl ((cf n).bd (x.2.getD x.1.1 0) x.1.2.1,(((i+1:Nat):Int),((0:Int),nt n (cq n,(x.1.2.2.how,kK n (aU n V) (bR x.2,(x.1.2.2.ls,(x.1.2.2.rs,(((x.2.getD x.1.1 0:Nat):Int),((x.1.2.1:Int),()))))))))))|.inr y=>.inr (y.1,nt n (cq n,(y.2.how,kK n (aU n V) (bR y.2.next,(y.2.ls,(y.2.rs,((0:Int),((0:Int),()))))))))
theorem aeN{m d:Nat}(hm:m=2^n.aM.length)(hd:d<=100000){q:Qs}(h:dM (2^wid n) q) :
  Pn ((0:Int),((d:Int),((0:Int),nt n (cq n,(q.how,kK n (aU n V) (bR q.next,(q.ls,(q.rs,((0:Int),((0:Int),())))))))))) =
   some (nU (fun r=>yS n V r.1 r.2) (fun q=>yS n V 0 (.inr q)) (sD n (cf n) m d q)):=by
 have hp:=pJ t;unfold sD;unfold Pn;refine yu (kq n (cf n) m) (fun(i:Nat) (q:Int×Qs)=>(q.1,((d:Int),((i:Int),nt n (cq n,(q.2.how,kK n (aU n V) (bR q.2.next,(q.2.ls,(q.2.rs,((0:Int),((0:Int),())))))))))))
  (fun(i:Nat) r=>yS n V i r) (fun q=>yS n V 0 (.inr q))
  (fun _ q=>dM (2^wid n) q.2) d ?_ ?_ ?_ d 0 ((0:Int),q) (by omega) h NN (bt (by omega))
 .intro i q hi h;exact aeo t ft hf h i
 .intro q h;exact af (au (show ¬(d:Int)<(d:Int) by omega)) rfl
 .intro i q hi h;obtain⟨st,q⟩:=q;have e4:=acz t ft hf hm h;refine ao (aj (show(i:Int)<(d:Int) by omega)) (ag e4 ?_);have h0:dM (2^wid n) ⟨q.how,[],q.ls,q.rs⟩:=⟨h.jD,h.key,Nat.zero_le _,fun k hk=>nomatch hk⟩;have hi1:IntKind.wrap .i64 ((i:Int)+1)=((i+1:Nat):Int):=bF (x:=(i:Int)+1) (n:=i+1) (by omega) (by omega);unfold kq;rcases yr (n:=n) (c:=cf n) (m:=m) (fun k y _ _=>oG t k y) h.iM h0 with⟨r,e1,_⟩|⟨q2,e1,h2⟩
  .rw[e1];have e:∀(p q':Int),p=q'->(some (.inr (.inl ((cf n).bd (q.next.getD r.1 0) r.2.1,(p,((0:Int),nt n (cq n,(r.2.2.how,kK n (aU n V) (bR q.next,(r.2.2.ls,(r.2.2.rs,(((q.next.getD r.1 0:Nat):Int),((r.2.1:Int),())))))))))))):Option (TL tG.σs⊕Out qZ))=some (.inr (.inl ((cf n).bd (q.next.getD r.1 0) r.2.1,(q',((0:Int),nt n (cq n,(r.2.2.how,kK n (aU n V) (bR q.next,(r.2.2.ls,(r.2.2.rs,(((q.next.getD r.1 0:Nat):Int),((r.2.1:Int),())))))))))))):=by rintro _ _ rfl;rfl
   exact ao rfl (e _ _ hi1)
  .rw[e1];refine af rfl ?_;have hlen:Int.ofNat (List.length (bR q2.next))=(q2.next.length:Int):=by unfold bR;rw[List.length_map];rfl
   by_cases hz:(q2.next.length:Int)=0
   .refine ao (show iQ (Int.ofNat (List.length (bR q2.next))) 0=true from by rw[hlen];exact aj hz) ?_;show _=vD _ _ (match decide ((q2.next.length:Int)=0)with|true=>_|false=>_);rw[decide_eq_true hz];rfl
   .refine af (show iQ (Int.ofNat (List.length (bR q2.next))) 0=false from by rw[hlen];exact au hz) ?_;show _=vD _ _ (match decide ((q2.next.length:Int)=0)with|true=>_|false=>_);rw[decide_eq_false hz];have e:∀(p q':Int),p=q'->(some (.inl ((q.how.length:Int),((d:Int),(p,nt n (cq n,(q2.how,kK n (aU n V) (bR q2.next,(q2.ls,(q2.rs,((0:Int),((0:Int),()))))))))))):Option (TL tG.σs⊕Out qZ))=some (.inl ((q.how.length:Int),((d:Int),(q',nt n (cq n,(q2.how,kK n (aU n V) (bR q2.next,(q2.ls,(q2.rs,((0:Int),((0:Int),()))))))))))):=by rintro _ _ rfl;rfl
    exact e _ _ hi1
end
section
variable{n:av}{V:Nat}(t:fX n V)
include t
theorem acp:je (ba n)=(j7 (n.aw.map bK) n.aw.length,(List.replicate n.aa.length [],()))/\dV (ba n) (je (ba n))=true:=by
 have e:je (ba n)=(j7 (n.aw.map bK) n.aw.length,(List.replicate n.aa.length [],())):=by unfold je;rw[lG,decide_eq_true t.hc];show(j7 (n.aw.map bK) (n.aw.map bK).length,(List.replicate (n.aa.map aq).length [],()))=_;rw[List.length_map,List.length_map]
 refine⟨e,?_⟩;rw[e];unfold dV;show(decide ((j7 (n.aw.map bK) n.aw.length).length=(n.aw.map bK).length)&&decide ((List.replicate n.aa.length ([]:List aB.T)).length=(n.aa.map aq).length)&&(List.range (n.aa.map aq).length).all (jo (n.aa.map aq) (List.replicate n.aa.length [])))=true;rw[N1,List.length_map,List.length_map,List.length_replicate,decide_eq_true rfl,decide_eq_true rfl];show(List.range n.aa.length).all _=true;rw[List.all_eq_true];intro i hi;have hi:=List.mem_range.1 hi;have hx:=List.getElem?_eq_getElem hi;obtain⟨m1,m2,m3,m4,_⟩:=t.hs.aa _ (List.getElem_mem hi);have g1:gt ab (n.aa.map aq) (i:Int)=aq n.aa[i]:=bn (σ:=ab) (by rw[List.getElem?_map,hx];rfl);have e0:∀(α:Type) (x:α) (N i:Nat),i<N->(List.replicate N x)[i]?=some x:=by intro α x N i h;rw[List.getElem?_replicate,if_pos h]
 have g2:gt (.sl aB) (List.replicate n.aa.length ([]:List aB.T)) (i:Int)=[]:=bn (σ:=.sl aB) (e0 _ _ _ _ hi);unfold jo;rw[g1];refine(congrArg (ir (aq n.aa[i]).1 (aq n.aa[i]).2.1) g2).trans ?_;unfold ir;show(decide (1<=n.aa[i].addr)&&decide (n.aa[i].addr<=62)&&decide (1<=n.aa[i].word)&&decide (n.aa[i].word<=64)&&decide (0<=4096)&&(List.range 0).all _)=true;rw[decide_eq_true m1,decide_eq_true m2,decide_eq_true m3,decide_eq_true m4];rfl
end
def fA(n:av)(k:Nat):Nat:=bG (fx n (bM n k).1 (bM n k).2).2
def qo(n:av)(L:List Nat):kR:=L.foldl (fun h k=>dp ((fA n k:Nat):Int) ((-1:Int),((0:Int),())) h) []
def fS(n:av):Qs:=⟨qo n (gB n (2^wid n)),(gB n (2^wid n)).map (fA n),(je (ba n)).1,bq n (je (ba n)).2.1⟩
section
variable{n:av}{V:Nat}(t:fX n V)(ft:Fit n)
include t ft
theorem afu(ls:List Bool)(rs:List cW):E7 ((0:Int),(jc n (2^wid n),(((jc n (2^wid n)).length:Int),((0:Int),nt n (cq n,([],([],mc n (aU n V) ls rs ()))))))) =
  some ((0:Int),nt n (cq n,(qo n (gB n (2^wid n)),(bR ((gB n (2^wid n)).map (fA n)),mc n (aU n V) ls rs ())))):=by
 have hp:=pJ t;have hw:=t.pE;have hL:=Fx n (2^wid n);have hsl:(jc n (2^wid n)).length=(gB n (2^wid n)).length:=by unfold jc;rw[List.length_map]
 obtain⟨L,eL⟩:∃L,L=gB n (2^wid n):=⟨_,rfl⟩;have eS:jc n (2^wid n)=L.map (kL n):=by unfold jc;rw[eL]
 rw[hsl,eS,<-eL];rw[<-eL]at hL;unfold E7;refine cP (fun i:Nat=>((0:Int),(L.map (kL n),((L.length:Int),((i:Int),nt n (cq n,(qo n (L.take i),(bR ((L.take i).map (fA n)),mc n (aU n V) ls rs ())))))))) L.length rfl ?_ ?_ (bt (by omega))
 .intro i hi;have hx:=List.getElem?_eq_getElem hi;have g:gt cF (L.map (kL n)) (i:Int)=kL n L[i]:=bn (σ:=cF) (by rw[List.getElem?_map,hx];rfl);have sl:=yx t L[i];have e1:=(Qp ft (bM n L[i]).1 (bM n L[i]).2 (Gg t L[i]) (by have:=t.hs.lens.2.1;omega) (fun c hc=>Nat.le_trans (sl.2.2 c hc) (by omega))).1;have hl8:=ub t (bM n L[i]).2 sl.1;have e2:=Fg (fx n (bM n L[i]).1 (bM n L[i]).2).2 (by omega);have e1':∀s:cF.T,s=kL n L[i]->xU (nt n (s.1,(s.2.1,())))=some ((fx n (bM n L[i]).1 (bM n L[i]).2).1,((fx n (bM n L[i]).1 (bM n L[i]).2).2,())):=by rintro _ rfl;exact e1
  have hlt:fA n L[i]<2^wid n:=Nat.lt_of_lt_of_le (kZ _) (Nat.pow_le_pow_right (by omega) hl8);have ew:IntKind.wrap .i64 ((bG (fx n (bM n L[i]).1 (bM n L[i]).2).2:Nat):Int)=((fA n L[i]:Nat):Int):=bJ (by show -9223372036854775808<=((fA n L[i]:Nat):Int)/\((fA n L[i]:Nat):Int)<=_;omega);have hi1:IntKind.wrap .i64 ((i:Int)+1)=((i+1:Nat):Int):=bF (x:=(i:Int)+1) (n:=i+1) (by omega) (by omega);have ht:L.take (i+1)=L.take i++[L[i]]:=Pl.df hx;have eh:dp (IntKind.wrap .i64 ((bG (fx n (bM n L[i]).1 (bM n L[i]).2).2:Nat):Int)) (σ:=fe) ((-1:Int),((0:Int),())) (qo n (L.take i))=qo n (L.take (i+1)):=by rw[ew,ht];unfold qo;rw[List.foldl_append];rfl
  have en:bR ((L.take i).map (fA n))++(IntKind.wrap .i64 ((bG (fx n (bM n L[i]).1 (bM n L[i]).2).2:Nat):Int)::[])=bR ((L.take (i+1)).map (fA n)):=by rw[ew,ht];unfold bR;rw[List.map_append,List.map_append];rfl
  have e:∀(p q:Int) (H H':kR) (A B:List Int),p=q->H=H'->A=B->(some (.inl ((0:Int),(L.map (kL n),((L.length:Int),(p,nt n (cq n,(H,(A,mc n (aU n V) ls rs ())))))))):Option (TL xQ.σs⊕Out xO))=some (.inl ((0:Int),(L.map (kL n),((L.length:Int),(q,nt n (cq n,(H',(B,mc n (aU n V) ls rs ())))))))):=by rintro _ _ _ _ _ _ rfl rfl rfl;rfl
  exact ao (aj (show(i:Int)<(L.length:Int) by omega)) (ak (show aA (i:Int) (List.length (L.map (kL n)))=true from aN ⟨by omega,by rw[List.length_map];omega⟩) (ag (e1' _ g) (ak (aj rfl) (ag e2 (ak (oh (a:=8) (L:=bR ((L.take i).map (fA n))) (x:=IntKind.wrap .i64 ((bG (fx n (bM n L[i]).1 (bM n L[i]).2).2:Nat):Int)) (by unfold bR;rw[List.length_map,List.length_map,List.length_take];omega) (by omega)) (e _ _ _ _ _ _ hi1 eh en))))))
 .rw[List.take_length];exact af (au (show ¬(L.length:Int)<(L.length:Int) by omega)) rfl
theorem QC:PU (nt n ())=some (.inr ((0:Int),nt n (cq n,((fS n).how,(bR (fS n).next,mc n (aU n n.vars.toNat) (fS n).ls (fS n).rs ()))))):=by
 have hV:n.vars.toNat=V:=by rw[t.hs.vars];rfl
 have e3:=acn t ft;have e2:=tX ft;obtain⟨z1,z2⟩:=acp t;have oq:Fit (dO (ba n)):=by rw[lG];exact ft
 have hL:List.length (ba n).2.2.1<=100000:=by show(n.aw.map bK).length<=_;rw[List.length_map];have:=ft.ax.1;omega
 have hT:List.length (ba n).2.2.2.2.2.2.1<=100000:=by show(n.aa.map aq).length<=_;rw[List.length_map];have:=ft.aa.1;omega
 have e1:=agN (ba n) oq hL hT;have hz1:(je (ba n)).1.length<=1000000:=by rw[z1];show(j7 _ _).length<=_;rw[N1];have:=t.hs.lens.2.1;omega
 have e5:=RG ft (je (ba n)).1 (je (ba n)).2.1 t.hc z2 hz1;have e7:=afu t ft (je (ba n)).1 (bq n (je (ba n)).2.1);have hw:=Gl ft;have e7':∀a b:Int,a=((jc n (2^wid n)).length:Int)->b=cq n->E7 ((0:Int),(jc n (2^wid n),(a,((0:Int),nt n (b,([],([],mc n (aU n n.vars.toNat) (je (ba n)).1 (bq n (je (ba n)).2.1) ())))))))=some ((0:Int),nt n (cq n,(qo n (gB n (2^wid n)),(bR ((gB n (2^wid n)).map (fA n)),mc n (aU n V) (je (ba n)).1 (bq n (je (ba n)).2.1) ())))):=by rintro _ _ rfl rfl;rw[hV];exact e7
 refine ag e3 (af (dn (aj rfl)) (ag e2 (ag e1 (ag e5 (ak (aj rfl) (ag (e7' _ _ rfl hw) ?_))))));rw[hV];rfl
end
theorem Q6{n:av}{W:Nat}:∀(L:List Nat) (H:kR),H.Pairwise (fun a b=>a.1<b.1)->(∀p∈H,0<=p.1/\p.1<(W:Int))->(∀k∈L,fA n k<W) ->
  (L.foldl (fun h k=>dp (σ:=fe) ((fA n k:Nat):Int) ((-1:Int),((0:Int),())) h) H).Pairwise (fun a b=>a.1<b.1)/\∀p∈L.foldl (fun h k=>dp (σ:=fe) ((fA n k:Nat):Int) ((-1:Int),((0:Int),())) h) H,0<=p.1/\p.1<(W:Int)
 |[],H,h1,h2,_=>⟨h1,h2⟩|k::L,H,h1,h2,h3=>Q6 L _ (wO h1) (fun p hp=>by
   rcases FD hp with e|e
   .have:=h3 k (List.mem_cons_self ..);rw[e];omega
   .exact h2 p e) (fun j hj=>h3 j (List.mem_cons_of_mem _ hj))
theorem YR{n:av}{V:Nat}(t:fX n V):dM (2^wid n) (fS n):=by
 have hp:=pJ t;have hL:=Fx n (2^wid n);have hn:∀k,fA n k<2^wid n:=fun k=>Nat.lt_of_lt_of_le (kZ _) (Nat.pow_le_pow_right (by omega) (ub t _ (yx t k).1));obtain⟨h1,h2⟩:=Q6 (n:=n) (W:=2^wid n) (gB n (2^wid n)) [] List.Pairwise.nil (fun p hp=>nomatch hp) (fun k _=>hn k);refine⟨h1,h2,?_,fun j hj=>?_⟩
 .show((gB n (2^wid n)).map (fA n)).length<=_;rw[List.length_map];omega
 .have hj:j∈(gB n (2^wid n)).map (fA n):=hj;obtain⟨k,_,rfl⟩:=List.mem_map.1 hj;exact hn k
def afU(r:(Nat×(B5×List Nat⊕Int×Qs))⊕(Int×Qs)):TL tL:=match r with|.inl (i,.inl _)=>((true,(((i+1:Nat):Int),(false,((0:Int),())))),((0:Int),()))|.inl (_,.inr y)=>((false,((0:Int),(decide ((y.2.next.length:Int)=0),(y.1,())))),((0:Int),()))|.inr y=>((false,((0:Int),(decide ((y.2.next.length:Int)=0),(y.1,())))),((0:Int),()))
section
variable{n:av}{V:Nat}(t:fX n V)(ft:Fit n)(hf:∀k,k<2^wid n->dV (ba n) ((bM n k).1,((bM n k).2,()))=true)
include t ft hf
theorem acf{m d:Nat}(hm:m=2^n.aM.length)(hd:d<=2000):xV (ba n,((d:Int),()))=some (afU (sD n (cf n) m d (fS n))):=by
 have eb:=QC t ft;have er:=aeN t ft hf hm (d:=d) (by omega) (YR t);have hV:n.vars.toNat=V:=by rw[t.hs.vars];rfl
 rw[hV]at eb;have hn:∀(x:Qs),Int.ofNat (List.length (bR x.next))=(x.next.length:Int):=fun x=>by unfold bR;rw[List.length_map];rfl
 have e:∀(b c:Bool) (s:Int),b=c->(some ((false,((0:Int),(b,(s,())))),((0:Int),())):Option (TL tL))=some ((false,((0:Int),(c,(s,())))),((0:Int),())):=by rintro _ _ _ rfl;rfl
 have hd2:iL (2000:Int) (d:Int)=false:=au (by omega);refine ag eb (af (dn (aj rfl)) (af (au (show ¬(d:Int)<0 by omega)) (af (show aR false true (iL 2000 (d:Int))=false by rw[hd2];rfl) ?_)));generalize sD n (cf n) m d (fS n)=r at er;rcases r with⟨i,x|y⟩|y
 .have e2:ED ((d:Int),nt n (cq n,((fS n).how,(bR (fS n).next,mc n (aU n V) (fS n).ls (fS n).rs ()))))=some (((x.2.getD x.1.1 0:Nat):Int),((x.1.2.1:Int),((cf n).bd (x.2.getD x.1.1 0) x.1.2.1,(((i+1:Nat):Int),((0:Int),nt n (cq n,(x.1.2.2.how,kK n (aU n V) (bR x.2,(x.1.2.2.ls,(x.1.2.2.rs,())))))))))):=ag er rfl;exact ag e2 (ao (aj (show(0:Int)<((i+1:Nat):Int) by omega)) rfl)
 .have e2:ED ((d:Int),nt n (cq n,((fS n).how,(bR (fS n).next,mc n (aU n V) (fS n).ls (fS n).rs ()))))=some ((0:Int),((0:Int),((0:Int),((0:Int),(y.1,nt n (cq n,(y.2.how,kK n (aU n V) (bR y.2.next,(y.2.ls,(y.2.rs,())))))))))):=ag er rfl;exact ag e2 (af (au (show ¬((0:Int)<0) by decide)) (e _ _ _ (show iQ (Int.ofNat (List.length (bR y.2.next))) 0=_ from by rw[hn])))
 .have e2:ED ((d:Int),nt n (cq n,((fS n).how,(bR (fS n).next,mc n (aU n V) (fS n).ls (fS n).rs ()))))=some ((0:Int),((0:Int),((0:Int),((0:Int),(y.1,nt n (cq n,(y.2.how,kK n (aU n V) (bR y.2.next,(y.2.ls,(y.2.rs,())))))))))):=ag er rfl;exact ag e2 (af (au (show ¬((0:Int)<0) by decide)) (e _ _ _ (show iQ (Int.ofNat (List.length (bR y.2.next))) 0=_ from by rw[hn])))
end
theorem ru{w:Nat}{l:List Bool}{K:Nat}{p:aO}(h:p∈fT w l K):∃x,x<K/\cellAt w l x≠0/\p=((x:Int),((cellAt w l x:Int),())):=by
 unfold fT at h;obtain⟨a,ha,hm⟩:=List.mem_flatMap.1 h;have ha:=List.mem_range.1 ha;split at hm
 .cases hm
 .rename_i q;exact⟨a,ha,q,List.mem_singleton.1 hm⟩
theorem ym(w:Nat)(l:List Bool):∀K,mi (fT w l K)
 |0=>List.Pairwise.nil|K+1=>by
  unfold mi;rw[yh,List.pairwise_append];refine⟨ym w l K,?_,fun a ha b hb=>?_⟩
  .split
   .exact List.Pairwise.nil
   .exact List.pairwise_singleton ..
  .obtain⟨x,hx,_,rfl⟩:=ru ha;split at hb
   .cases hb
   .rw[List.mem_singleton.1 hb];show(x:Int)<(K:Int);omega
theorem ab3(w:Nat)(l:List Bool)(x:Nat):cellAt w l x<2^w:=by unfold cellAt;exact Nat.lt_of_lt_of_le (kZ _) (Nat.pow_le_pow_right (by omega) (by rw[List.length_take];omega))
theorem ac7{m:bB}{K:Nat}{c:List aO}(m1:1<=m.addr)(m2:m.addr<=62)(m3:1<=m.word)(m4:m.word<=64)(h:mP m K c)(hl:c.length<=4096):ir m.addr m.word c=true:=by
 unfold ir;rw[decide_eq_true m1,decide_eq_true m2,decide_eq_true m3,decide_eq_true m4,decide_eq_true (show List.length (α:=aB.T) c<=4096 from hl)];show(List.range c.length).all (iP m.addr m.word c)=true;rw[List.all_eq_true];intro i hi;have hi:=List.mem_range.1 hi;have hp:=List.getElem?_eq_getElem hi;obtain⟨e1,e2⟩:=sf hp;have h1:=h.at_ _ (List.getElem_mem hi);have h2:=h.wd _ (List.getElem_mem hi);have b1:decide (gD c (i:Int)=0)=false:=decide_eq_false (by rw[e2];omega);have b2:iw (dD c (i:Int)) m.addr=true:=by rw[e1];exact BD h1.1 h1.2
 have b3:iw (gD c (i:Int)) m.word=true:=by rw[e2];exact BD (by omega) h2.2
 have b4:(decide (i=0)||decide (dD c ((i:Int)-1)<dD c (i:Int)))=true:=by
  by_cases q:i=0
  .rw[decide_eq_true q];rfl
  .have hj:i-1<c.length:=by omega
   have e3:=(sf (List.getElem?_eq_getElem hj)).1;have ei:((i:Int)-1)=((i-1:Nat):Int):=by omega
   have hs:=List.pairwise_iff_getElem.1 h.jD (i-1) i hj hi (by omega);rw[ei,e3,e1,decide_eq_true hs,Bool.or_true]
 unfold iP;rw[b1,b2,b3,b4];rfl
section
variable{n:av}{V:Nat}(t:fX n V)
include t
theorem aej(k:Nat):fW n 64 (bM n k).1 (bM n k).2:=by
 obtain⟨h1,h2,h3⟩:=yx t k;refine⟨h1,h2,fun i m c hm hc=>?_⟩;have hcm:c∈(bM n k).2:=List.mem_of_getElem? hc;have hl:=h3 c hcm;unfold bM at hc;rw[ug t k]at hc;have hc:(eF n ((cX k (wid n)).drop n.aw.length) n.aa.length)[i]?=some c:=hc;have hi:i<n.aa.length:=(List.getElem?_eq_some_iff.1 hm).1;unfold eF at hc;rw[List.getElem?_map,List.getElem?_range hi]at hc;have hg:n.aa.getD i mz=m:=by rw[List.getD_eq_getElem?_getD,hm];rfl
 have hc:=(Option.some.inj hc).symm;dsimp only at hc;rw[hg]at hc;subst hc;refine⟨ym _ _ _,hl,fun p hp=>?_,fun p hp=>?_⟩
 .obtain⟨x,hx,_,rfl⟩:=ru hp;show(0:Int)<=(x:Int)/\(x:Int)<2^m.addr.toNat;rw[oA];omega
 .obtain⟨x,hx,h0,rfl⟩:=ru hp;have:=ab3 m.word.toNat (((cX k (wid n)).drop n.aw.length).drop (cz n i)) x;show(0:Int)<((cellAt _ _ x:Nat):Int)/\((cellAt _ _ x:Nat):Int)<2^m.word.toNat;rw[oA];omega
theorem Q0{K:Nat}{ls:List Bool}{cs:List (List aO)}(ok:fW n K ls cs):dV (ba n) (ls,(cs,()))=true:=by
 unfold dV;show(decide (ls.length=(n.aw.map bK).length)&&decide (List.length cs=(n.aa.map aq).length)&&(List.range (n.aa.map aq).length).all (jo (n.aa.map aq) cs))=true;rw[List.length_map,List.length_map,decide_eq_true ok.qT,decide_eq_true ok.mA];show(List.range n.aa.length).all _=true;rw[List.all_eq_true];intro i hi;have hi:=List.mem_range.1 hi;have hx:=List.getElem?_eq_getElem hi;have hcl:cs.length=n.aa.length:=ok.mA;have hic:i<cs.length:=by omega
 have hy:=List.getElem?_eq_getElem hic;obtain⟨m1,m2,m3,m4,_⟩:=t.hs.aa _ (List.getElem_mem hi);have ko:=ok.ok i _ _ hx hy;have sm:=t.sm _ (List.getElem_mem hi);have g1:gt ab (n.aa.map aq) (i:Int)=aq n.aa[i]:=bn (σ:=ab) (by rw[List.getElem?_map,hx];rfl);have g2:gt (.sl aB) cs (i:Int)=cs[i]:=bn (σ:=.sl aB) hy;have hlen:cs[i].length<=4096:=by have h2:=sm.nat;have hw:=sm.w1;have hle:2^n.aa[i].addr.toNat<=2^n.aa[i].addr.toNat*n.aa[i].word.toNat:=Nat.le_mul_of_pos_right _ (by omega);have:=FI cs[i] 0 ((2^n.aa[i].addr.toNat:Nat):Int) (by omega) ko.jD (fun p hp=>by have:=ko.at_ p hp;rw[oA]at this;exact this);omega
 unfold jo;rw[g1];exact(congrArg (ir (aq n.aa[i]).1 (aq n.aa[i]).2.1) g2).trans (ac7 m1 m2 m3 m4 ko hlen)
theorem aei(k:Nat):dV (ba n) ((bM n k).1,((bM n k).2,()))=true:=Q0 t (aej t k)
end
theorem FA{σ:Sh}{k x:Int}{v:σ.T}:∀(M:cV σ),cS (dp k v M) x=(decide (k=x)||cS M x)
 |[]=>by show(match decide (k=x)with|true=>true|false=>false)=(decide (k=x)||false);cases decide (k=x)<;>rfl
 |p::M=>by
  unfold dp;cases h1:decide (k<p.1)with
  |true=>show(match decide (k=x)with|true=>true|false=>cS (p::M) x)=_;cases decide (k=x)<;>rfl
  |false=>
   cases h2:decide (p.1=k)with
   |true=>have e:=of_decide_eq_true h2;show(match decide (k=x)with|true=>true|false=>cS M x)=(decide (k=x)||(match decide (p.1=x)with|true=>true|false=>cS M x));rw[e];cases decide (k=x)<;>rfl
   |false=>show(match decide (p.1=x)with|true=>true|false=>cS (dp k v M) x)=(decide (k=x)||(match decide (p.1=x)with|true=>true|false=>cS M x));rw[FA M];cases decide (p.1=x)<;>cases decide (k=x)<;>rfl
def oB(c:eK)(P:Nat->Nat->Prop)(x:Nat):Prop:=∃k y,P k y/\c.fi k y=true/\c.nx k y=x
def mZ(c:eK)(k y:Nat):Prop:=c.fi k y=true/\0<=c.bd k y
structure lY(c:eK)(h0:kR)(q:Qs)(P:Nat->Nat->Prop):Prop where
 has:∀x:Nat,cS q.how (x:Int)=true↔cS h0 (x:Int)=true\/oB c P x
 iM:∀x:Nat,x∈q.next↔cS h0 (x:Int)=false/\oB c P x
 no:∀k y,P k y->¬mZ c k y
theorem lY.congr{c:eK}{h0:kR}{q:Qs}{P P':Nat->Nat->Prop}(h:lY c h0 q P)(e:∀k y,P k y↔P' k y):lY c h0 q P':=by have hc:∀x,oB c P x↔oB c P' x:=fun x=>⟨fun⟨k,y,a,b⟩=>⟨k,y,(e k y).1 a,b⟩,fun⟨k,y,a,b⟩=>⟨k,y,(e k y).2 a,b⟩⟩;exact⟨fun x=>by rw[h.has,hc],fun x=>by rw[h.iM,hc],fun k y p=>h.no k y ((e k y).2 p)⟩
theorem yn{c:eK}{P:Nat->Nat->Prop}{k y:Nat}(hf:c.fi k y=true)(x:Nat):oB c (fun k' y'=>P k' y'\/(k'=k/\y'=y)) x↔oB c P x\/c.nx k y=x:=by
 constructor
 .rintro⟨k',y',a|⟨rfl,rfl⟩,b,d⟩
  .exact .inl ⟨k',y',a,b,d⟩
  .exact .inr d
 .rintro(⟨k',y',a,b,d⟩|d)
  .exact⟨k',y',.inl a,b,d⟩
  .exact⟨k,y,.inr ⟨rfl,rfl⟩,hf,d⟩
theorem QZ{c:eK}{P:Nat->Nat->Prop}{k y:Nat}(hf:c.fi k y=false)(x:Nat):oB c (fun k' y'=>P k' y'\/(k'=k/\y'=y)) x↔oB c P x:=by
 constructor
 .rintro⟨k',y',a|⟨rfl,rfl⟩,b,d⟩
  .exact⟨k',y',a,b,d⟩
  .rw[hf]at b;cases b
 .rintro⟨k',y',a,b,d⟩;exact⟨k',y',.inl a,b,d⟩
theorem adh{n:av}{c:eK}{h0:kR}{P:Nat->Nat->Prop}{k y:Nat}{q:Qs}(h:lY c h0 q P) :
  (∃q2,mY n c k y q=.inl q2/\mZ c k y)\/∃q2,mY n c k y q=.inr q2/\lY c h0 q2 (fun k' y'=>P k' y'\/(k'=k/\y'=y)):=by
 unfold mY;cases hf:c.fi k y with
 |false=>
  refine .inr ⟨_,rfl,⟨fun x=>?_,fun x=>?_,?_⟩⟩
  .rw[QZ hf];exact h.has x
  .rw[QZ hf];exact h.iM x
  .rintro k' y' (a|⟨rfl,rfl⟩) hh
   .exact h.no k' y' a hh
   .rw[hh.1]at hf;cases hf
 |true=>
  by_cases hb:0<=c.bd k y
  .rw[decide_eq_true hb];exact .inl ⟨_,rfl,hf,hb⟩
  .rw[decide_eq_false hb];have hno:∀k' y',(P k' y'\/(k'=k/\y'=y))->¬mZ c k' y':=by
    rintro k' y' (a|⟨rfl,rfl⟩) hh
    .exact h.no k' y' a hh
    .exact hb hh.2
   cases hm:cS q.how (c.nx k y:Int)with
   |true=>
    refine .inr ⟨_,rfl,⟨fun x=>?_,fun x=>?_,hno⟩⟩
    .rw[yn hf];show cS q.how (x:Int)=true↔_;constructor
     .intro a;rcases(h.has x).1 a with a|a
      .exact .inl a
      .exact .inr (.inl a)
     .rintro(a|a|rfl)
      .exact(h.has x).2 (.inl a)
      .exact(h.has x).2 (.inr a)
      .exact hm
    .rw[yn hf];show x∈q.next↔_;rw[h.iM];constructor
     .rintro⟨a,b⟩;exact⟨a,.inl b⟩
     .rintro⟨a,b|rfl⟩
      .exact⟨a,b⟩
      .rcases(h.has _).1 hm with b|b
       .rw[b]at a;cases a
       .exact⟨a,b⟩
   |false=>
    refine .inr ⟨_,rfl,⟨fun x=>?_,fun x=>?_,hno⟩⟩
    .rw[yn hf];show cS (dp (σ:=fe) (c.nx k y:Int) ((k:Int),((y:Int),())) q.how) (x:Int)=true↔_;rw[show cS (dp (σ:=fe) (c.nx k y:Int) ((k:Int),((y:Int),())) q.how) (x:Int)=(decide ((c.nx k y:Int)=(x:Int))||cS q.how (x:Int))from FA (σ:=fe) _];rw[Bool.or_eq_true,h.has,decide_eq_true_iff];constructor
     .rintro(a|a|a)
      .exact .inr (.inr (by omega))
      .exact .inl a
      .exact .inr (.inl a)
     .rintro(a|a|a)
      .exact .inr (.inl a)
      .exact .inr (.inr a)
      .exact .inl (by omega)
    .rw[yn hf];show x∈q.next++[c.nx k y]↔_;rw[List.mem_append,h.iM,List.mem_singleton];constructor
     .rintro(⟨a,b⟩|rfl)
      .exact⟨a,.inl b⟩
      .refine⟨?_,.inr rfl⟩;cases hq:cS h0 (c.nx k y:Int)with|false=>rfl|true=>rw[(h.has _).2 (.inl hq)]at hm;cases hm
     .rintro⟨a,b|rfl⟩
      .exact .inl ⟨a,b⟩
      .exact .inr rfl
theorem adN{n:av}{c:eK}{h0:kR}{P:Nat->Nat->Prop}{k m:Nat}{q:Qs}(h:lY c h0 q P) :
  (∃r,pw n c m k q=.inl r/\∃y,y<m/\mZ c k y)\/∃q2,pw n c m k q=.inr q2/\lY c h0 q2 (fun k' y'=>P k' y'\/(k'=k/\y'<m)):=by
 rcases tZ (stp:=mY n c k) (fun i q=>lY c h0 q (fun k' y'=>P k' y'\/(k'=k/\y'<i))) (fun i _=>mZ c k i) m (fun i q hi h=>by
  rcases adh (n:=n) (k:=k) (y:=i) h with⟨r,e,a⟩|⟨q2,e,a⟩
  .exact .inl ⟨r,e,a⟩
  .exact .inr ⟨q2,e,a.congr (fun k' y'=>by
    constructor
    .rintro((a|⟨a,b⟩)|⟨a,b⟩)
     .exact .inl a
     .exact .inr ⟨a,by omega⟩
     .exact .inr ⟨a,by omega⟩
    .rintro(a|⟨a,b⟩)
     .exact .inl (.inl a)
     .by_cases g:y'=i
      .exact .inr ⟨a,g⟩
      .exact .inl (.inr ⟨a,by omega⟩))⟩) m 0 q (by omega) (h.congr (fun k' y'=>⟨.inl,fun a=>a.elim id (fun b=>absurd b.2 (by omega))⟩))with⟨r,e,hi,a⟩|⟨q2,e,a⟩
 .exact .inl ⟨r,e,r.1,hi,a⟩
 .exact .inr ⟨q2,e,a⟩
theorem adM{n:av}{c:eK}{m:Nat}{l:List Nat}(h0:kR)(ls:List Bool)(rs:List cW) :
  (∃r,ot n c m l ⟨h0,[],ls,rs⟩=.inl r/\∃k y,k∈l/\y<m/\mZ c k y)\/∃q2,ot n c m l ⟨h0,[],ls,rs⟩=.inr q2/\lY c h0 q2 (fun k y=>k∈l/\y<m):=by
 have hat:∀i,i<l.length->l[i]?=some (l.getD i 0):=fun i hi=>by rw[List.getD_eq_getElem?_getD,List.getElem?_eq_getElem hi];rfl
 rcases tZ (stp:=BR n c m l) (fun i q=>lY c h0 q (fun k y=>k∈l.take i/\y<m)) (fun i r=>∃k y,k∈l/\y<m/\mZ c k y) l.length (fun i q hi h=>by
  have hm:l.take (i+1)=l.take i++[l.getD i 0]:=Pl.df (hat i hi);rcases adN (n:=n) (k:=l.getD i 0) (m:=m) h with⟨r,e,y,a,b⟩|⟨q2,e,a⟩
  .exact .inl ⟨r,e,l.getD i 0,y,List.mem_of_getElem? (hat i hi),a,b⟩
  .exact .inr ⟨q2,e,a.congr (fun k' y'=>by
    rw[hm,List.mem_append,List.mem_singleton];constructor
    .rintro(⟨a,b⟩|⟨a,b⟩)
     .exact⟨.inl a,b⟩
     .exact⟨.inr a,b⟩
    .rintro⟨a|a,b⟩
     .exact .inl ⟨a,b⟩
     .exact .inr ⟨a,b⟩)⟩) l.length 0 ⟨h0,[],ls,rs⟩ (by omega) ⟨fun x=>⟨.inl,fun a=>a.elim id (fun⟨k,y,b,_⟩=>absurd b.1 (by rw[List.take_zero];simp))⟩,fun x=>⟨(fun a=>nomatch a),fun⟨_,k,y,b,_⟩=>absurd b.1 (by rw[List.take_zero];simp)⟩,fun k y a=>absurd a.1 (by rw[List.take_zero];simp)⟩with⟨r,e,hi,a⟩|⟨q2,e,a⟩
 .exact .inl ⟨r,e,a⟩
 .exact .inr ⟨q2,e,by rw[List.take_length]at a;exact a⟩
theorem Gd{c:List aO}(hs:mi c){p:aO}(hp:p∈c):rd c p.1=p.2.1:=by rw[<-uc];exact(QJ (σ:=.int .u64) hs (show(p.1,(p.2.1,()))∈c from hp)).1
theorem yv{c:List aO}{a:Int}(h:∀p∈c,p.1≠a):rd c a=0:=by rw[<-uc];exact(T9 (σ:=.int .u64) h).1
theorem QA{c:List aO}(h:mi c):c.Nodup:=by rw[List.nodup_iff_pairwise_ne];exact List.Pairwise.imp (fun{a b} hab=>by rintro rfl;omega) h
theorem canon{c d:List aO}(hc:mi c)(hd:mi d)(nc:∀p∈c,p.2.1≠0)(nd:∀p∈d,p.2.1≠0)(h:∀a,rd c a=rd d a):c=d:=by
 have sub:∀{c d:List aO},mi c->mi d->(∀p∈c,p.2.1≠0)->(∀a,rd c a=rd d a)->∀p∈c,p∈d:=by
  intro c d hc hd nc h p hp;have e1:=Gd hc hp;by_cases q:∃r∈d,r.1=p.1
  .obtain⟨r,hr,e⟩:=q;have e2:=Gd hd hr;rw[e,<-h,e1]at e2;have:r=p:=Prod.ext e (Prod.ext e2.symm rfl);rw[<-this];exact hr
  .have e2:=yv (c:=d) (a:=p.1) (fun r hr e=>q ⟨r,hr,e⟩);rw[h,e2]at e1;exact absurd e1.symm (nc p hp)
 have hp:c.Perm d:=(List.perm_ext_iff_of_nodup (QA hc) (QA hd)).2 fun p=>⟨sub hc hd nc h p,sub hd hc nd (fun a=>(h a).symm) p⟩;exact hp.eq_of_pairwise (le:=fun p q:aO=>p.1<q.1) (fun a b _ _ h1 h2=>by omega) hc hd
theorem Qg(l:List Bool):cX (bG l) l.length=l:=by
 refine List.ext_getElem? fun i=>?_;unfold cX;rw[List.getElem?_map];by_cases hi:i<l.length
 .rw[List.getElem?_range hi,List.getElem?_eq_getElem hi];have h:=FC l i hi;rw[List.getD_eq_getElem?_getD,List.getElem?_eq_getElem hi]at h;exact congrArg some h.symm
 .rw[List.getElem?_eq_none (by simpa using hi),List.getElem?_eq_none (by omega)];rfl
section
variable{n:av}{V:Nat}(t:fX n V)
include t
theorem afg{K:Nat}{ls:List Bool}{cs:List (List aO)}(ok:fW n K ls cs):fx n ls cs=(0,fE n ls cs n.aa.length):=by unfold fx;have h1:=t.wd;have h2:=t.pE;unfold cq at h1;rw[if_neg (fun q=>q (adG t.hc (Q0 t ok))),if_neg (by omega)]
theorem Re{K:Nat}{ls:List Bool}{cs:List (List aO)}(ok:fW n K ls cs):bM n (bG (fx n ls cs).2)=(ls,cs):=by
 rw[afg t ok];have hcl:cs.length=n.aa.length:=ok.mA;have hll:=ok.qT;obtain⟨L,hL⟩:∃L,L=fE n ls cs n.aa.length:=⟨_,rfl⟩;have hlen:L.length=wid n:=by
  have h1:=yk ls cs hcl n.aa.length (Nat.le_refl _);have h2:=t.off;have h3:cz n n.aa.length=j3 n.aa:=by unfold cz;rw[List.take_length]
  rw[hL];omega
 show bM n (bG (fE n ls cs n.aa.length))=_;unfold bM;rw[ug t,<-hL,<-hlen,Qg];show(L.take n.aw.length,eF n (L.drop n.aw.length) n.aa.length)=_;have hbit:=RO (n:=n) ls cs hcl n.aa.length (Nat.le_refl _);rw[<-hL]at hbit;have e1:L.take n.aw.length=ls:=by rw[hL,<-hll];unfold fE;exact List.take_left
 refine Prod.ext e1 (List.ext_getElem? fun i=>?_);show(eF n (L.drop n.aw.length) n.aa.length)[i]?=cs[i]?;by_cases hi:i<n.aa.length
 .have hx:=List.getElem?_eq_getElem hi;have hy:=List.getElem?_eq_getElem (show i<cs.length by omega);obtain⟨m,hm⟩:∃m,m=n.aa[i]:=⟨_,rfl⟩;obtain⟨c,hc⟩:∃c,c=cs[i]'(by omega):=⟨_,rfl⟩;rw[<-hm]at hx;rw[<-hc]at hy;have ko:=ok.ok i m c hx hy;have sm:=t.sm m (List.mem_of_getElem? hx);have hg:n.aa.getD i mz=m:=by rw[List.getD_eq_getElem?_getD,hx];rfl
  unfold eF;rw[List.getElem?_map,List.getElem?_range hi,hy];show some (fT (n.aa.getD i mz).word.toNat ((L.drop n.aw.length).drop (cz n i)) (2^(n.aa.getD i mz).addr.toNat))=some c;rw[hg];refine congrArg some (canon (ym _ _ _) ko.jD (fun p hp=>?_) (fun p hp=>by have:=ko.wd p hp;omega) fun a=>?_)
  .obtain⟨x,_,h0,rfl⟩:=ru hp;show((cellAt _ _ x:Nat):Int)≠0;omega
  .by_cases ha:0<=a/\a<((2^m.addr.toNat:Nat):Int)
   .obtain⟨x,rfl⟩:∃x:Nat,a=(x:Int):=⟨a.toNat,by omega⟩;have hx2:x<2^m.addr.toNat:=by omega
    have hr0:0<=rd c (x:Int)/\rd c (x:Int)<2^m.word.toNat:=by
     rcases RJ c (x:Int)with e|⟨p,hp,e⟩
     .rw[e,oA];have:=Nat.two_pow_pos m.word.toNat;omega
     .have:=ko.wd p hp;rw[e];exact⟨by omega,this.2⟩
    have hoff:cz n i+2^m.addr.toNat*m.word.toNat<=j3 n.aa:=by
     have h1:=rn n hx;have h2:=Qw n (show i+1<=n.aa.length by omega);have h3:cz n n.aa.length=j3 n.aa:=by unfold cz;rw[List.take_length]
     unfold fU at h1;omega
    have h2:=t.off;have hmul:=Nat.mul_le_mul_right m.word.toNat (show x+1<=2^m.addr.toNat from hx2);rw[Nat.succ_mul x]at hmul;have hcell:cellAt m.word.toNat ((L.drop n.aw.length).drop (cz n i)) x=(rd c (x:Int)).toNat:=by
     unfold cellAt;have hl2:((((L.drop n.aw.length).drop (cz n i)).drop (x*m.word.toNat)).take m.word.toNat).length=m.word.toNat:=by rw[List.length_take,List.length_drop,List.length_drop,List.length_drop];omega
     refine adq ?_ fun j hj=>?_
     .rw[hl2];have:=hr0.2;rw[oA]at this;omega
     .rw[hl2]at hj;have hb:=hbit i m c hi hx hy x j hx2 hj;rw[<-hb,hll];rw[List.getD_eq_getElem?_getD,List.getD_eq_getElem?_getD,List.getElem?_take,if_pos hj,List.getElem?_drop,List.getElem?_drop,List.getElem?_drop];congr 2;omega
    by_cases hz:cellAt m.word.toNat ((L.drop n.aw.length).drop (cz n i)) x=0
    .rw[yv (fun p hp=>by
      obtain⟨y,_,h0,rfl⟩:=ru hp;show(y:Int)≠(x:Int);intro e;have:y=x:=by omega
      subst this;exact h0 hz)]
     rw[hcell]at hz;omega
    .have hm2:((x:Int),(((cellAt m.word.toNat ((L.drop n.aw.length).drop (cz n i)) x:Nat):Int),()))∈fT m.word.toNat ((L.drop n.aw.length).drop (cz n i)) (2^m.addr.toNat):=by unfold fT;refine List.mem_flatMap.2 ⟨x,List.mem_range.2 hx2,?_⟩;rw[if_neg hz];exact List.mem_singleton.2 rfl
     rw[Gd (ym _ _ _) hm2];show((cellAt _ _ x:Nat):Int)=_;rw[hcell];omega
   .rw[yv (fun p hp=>by
      obtain⟨y,hy2,h0,rfl⟩:=ru hp;show(y:Int)≠a;intro e;exact ha (by omega)),yv (fun p hp=>by
      have:=ko.at_ p hp;rw[oA]at this;intro e;exact ha (by omega))]
 .unfold eF;rw[List.getElem?_map,List.getElem?_eq_none (by simpa using hi),List.getElem?_eq_none (by omega)];rfl
end
def n4(n:av)(c:eK)(m:Nat):Nat->Nat->Prop
 |0,x=>∃k∈gB n (2^wid n),fA n k=x|i+1,x=>∃k y,n4 n c m i k/\y<m/\c.fi k y=true/\c.nx k y=x
def kM(n:av)(c:eK)(m i:Nat):Prop:=∀x y,n4 n c m i x->y<m->¬mZ c x y
structure Sm(n:av)(c:eK)(m W i:Nat)(q:Qs):Prop where
 ok:dM W q
 st:∀x,n4 n c m 0 x->cS q.how (x:Int)=true
 wY:∀x:Nat,cS q.how (x:Int)=true->x∉q.next->∀y,y<m->¬mZ c x y/\(c.fi x y=true->cS q.how (c.nx x y:Int)=true)
 Ov:∀j x,j<i->n4 n c m j x->cS q.how (x:Int)=true/\x∉q.next
theorem Sm.key{n:av}{c:eK}{m W i:Nat}{q:Qs}(h:Sm n c m W i q){x:Nat}(hx:n4 n c m i x):cS q.how (x:Int)=true:=by cases i with|zero=>exact h.st x hx|succ i=>obtain⟨k,y,a,b,f,rfl⟩:=hx;obtain⟨k1,k2⟩:=h.Ov i k (by omega) a;exact(h.wY k k1 k2 y b).2 f
theorem Sm.Sp{n:av}{c:eK}{m W i:Nat}{q:Qs}(h:Sm n c m W i q){j:Nat}(hj:j<i):kM n c m j:=by intro x y hx hy;obtain⟨k1,k2⟩:=h.Ov j x hj hx;exact(h.wY x k1 k2 y hy).1
theorem Sm.closed{n:av}{c:eK}{m W i:Nat}{q:Qs}(h:Sm n c m W i q)(he:q.next=[]):∀j,kM n c m j:=by
 have key:∀j x,n4 n c m j x->cS q.how (x:Int)=true:=by
  intro j
  induction j with|zero=>exact fun x hx=>h.st x hx|succ j ih=>rintro x ⟨k,y,a,b,f,rfl⟩;exact(h.wY k (ih k a) (by rw[he];exact fun z=>nomatch z) y b).2 f
 intro j x y hx hy;exact(h.wY x (key j x hx) (by rw[he];exact fun z=>nomatch z) y hy).1
theorem Sm.next{n:av}{c:eK}{m W i:Nat}{q q2:Qs}(h:Sm n c m W i q)(ok2:dM W q2)(I:lY c q.how q2 (fun k y=>k∈q.next/\y<m)):Sm n c m W (i+1) q2:=by
 have up:∀x:Nat,cS q.how (x:Int)=true->cS q2.how (x:Int)=true:=fun x hx=>(I.has x).2 (.inl hx);refine⟨ok2,fun x hx=>up x (h.st x hx),fun x hx hn y hy=>?_,fun j x hj hx=>?_⟩
 .have hold:cS q.how (x:Int)=true:=by
   rcases(I.has x).1 hx with a|a
   .exact a
   .cases hm:cS q.how (x:Int)with|true=>rfl|false=>exact absurd ((I.iM x).2 ⟨hm,a⟩) hn
  by_cases hq:x∈q.next
  .exact⟨I.no x y ⟨hq,hy⟩,fun hf=>(I.has _).2 (.inr ⟨x,y,⟨hq,hy⟩,hf,rfl⟩)⟩
  .obtain⟨a,b⟩:=h.wY x hold hq y hy;exact⟨a,fun hf=>up _ (b hf)⟩
 .have hk:cS q.how (x:Int)=true:=by
   by_cases e:j=i
   .subst e;exact h.key hx
   .exact(h.Ov j x (by omega) hx).1
  refine⟨up x hk,fun hx2=>?_⟩;have:=((I.iM x).1 hx2).1;rw[hk]at this;cases this
def SC(n:av)(c:eK)(m d:Nat)(r:(Nat×(B5×List Nat⊕Int×Qs))⊕(Int×Qs)):Prop:=match r with|.inl (i,.inl _)=>∀j,j<i->kM n c m j|.inl (_,.inr y)=>∀j,kM n c m j|.inr y=>(∀j,j<d->kM n c m j)/\(y.2.next=[]->∀j,kM n c m j)
theorem Ra{n:av}{c:eK}{m W:Nat}(hn:∀k y,c.nx k y<W):∀j i st q,Sm n c m W i q->SC n c m (i+j) (jz (kq n c m) i j (st,q))
 |0,i,st,q,h=>⟨fun j hj=>h.Sp hj,fun he=>h.closed he⟩|j+1,i,st,q,h=>by
  have h0:dM W ⟨q.how,[],q.ls,q.rs⟩:=⟨h.ok.jD,h.ok.key,Nat.zero_le _,fun k hk=>nomatch hk⟩;rcases adM (n:=n) (c:=c) (m:=m) (l:=q.next) q.how q.ls q.rs with⟨r,e4,_⟩|⟨q2,e4,I⟩
  .have ep:kq n c m i (st,q)=.inl (.inl (r,q.next)):=by unfold kq;rw[e4]
   unfold jz;rw[ep];exact fun l hl=>h.Sp hl
  .have hq2:dM W q2:=by
    rcases yr (n:=n) (c:=c) (m:=m) (fun k y _ _=>hn k y) h.ok.iM h0 with⟨r,e,_⟩|⟨q3,e,h⟩
    .rw[e4]at e;cases e
    .rw[e4]at e;cases e;exact h
   have hs:=h.next hq2 I;by_cases hz:(q2.next.length:Int)=0
   .have ep:kq n c m i (st,q)=.inl (.inr ((q.how.length:Int),q2)):=by unfold kq;rw[e4];dsimp only;rw[decide_eq_true hz]
    unfold jz;rw[ep];exact hs.closed (List.eq_nil_of_length_eq_zero (by omega))
   .have ep:kq n c m i (st,q)=.inr ((q.how.length:Int),q2):=by unfold kq;rw[e4];dsimp only;rw[decide_eq_false hz]
    unfold jz;rw[ep];have:=Ra hn j (i+1) (q.how.length:Int) q2 hs;rw[show i+1+j=i+(j+1) by omega]at this;exact this
section
variable{n:av}{V:Nat}(t:fX n V)
include t
theorem Q5:∀(L:List Nat) (H:kR) (x:Nat),cS (L.foldl (fun h k=>dp (σ:=fe) ((fA n k:Nat):Int) ((-1:Int),((0:Int),())) h) H) (x:Int)=true↔cS H (x:Int)=true\/∃k∈L,fA n k=x
 |[],H,x=>⟨.inl,fun a=>a.elim id (fun⟨k,hk,_⟩=>nomatch hk)⟩
 |k::L,H,x=>by
  refine(Q5 L _ x).trans ?_;rw[show cS (dp (σ:=fe) ((fA n k:Nat):Int) ((-1:Int),((0:Int),())) H) (x:Int)=(decide (((fA n k:Nat):Int)=(x:Int))||cS H (x:Int))from FA (σ:=fe) _];rw[Bool.or_eq_true,decide_eq_true_iff];constructor
  .rintro((a|a)|⟨j,a,b⟩)
   .exact .inr ⟨k,List.mem_cons_self ..,by omega⟩
   .exact .inl a
   .exact .inr ⟨j,List.mem_cons_of_mem _ a,b⟩
  .rintro(a|⟨j,a,b⟩)
   .exact .inl (.inr a)
   .rcases List.mem_cons.1 a with rfl|a
    .exact .inl (.inl (by omega))
    .exact .inr ⟨j,a,b⟩
theorem aeJ(m:Nat):Sm n (cf n) m (2^wid n) 0 (fS n):=by have hk:∀x:Nat,cS (fS n).how (x:Int)=true↔∃k∈gB n (2^wid n),fA n k=x:=fun x=>(Q5 t (gB n (2^wid n)) [] x).trans ⟨fun a=>a.elim (fun b=>nomatch b) id,.inr⟩;refine⟨YR t,fun x hx=>(hk x).2 hx,fun x hx hn=>?_,fun j x hj=>absurd hj (by omega)⟩;refine absurd ?_ hn;show x∈(gB n (2^wid n)).map (fA n);exact List.mem_map.2 ((hk x).1 hx)
variable(ft:Fit n)
include ft
theorem abV{d:Nat}(hd:d<=2000):∃(b:Bool) (L:Int) (cl:Bool) (s:Int),xV (ba n,((d:Int),()))=some ((b,(L,(cl,(s,())))),((0:Int),())) /\
  (cl=true->∀j,kM n (cf n) (2^n.aM.length) j)/\(b=true->∀j:Nat,((j+1:Nat):Int)<L->kM n (cf n) (2^n.aM.length) j)/\(b=false->∀j:Nat,((j+1:Nat):Int)<=(d:Int)->kM n (cf n) (2^n.aM.length) j):=by
 have e:=acf t ft (fun k _=>aei t k) (m:=2^n.aM.length) rfl hd;have hs:=Ra (n:=n) (c:=cf n) (m:=2^n.aM.length) (fun k y=>oG t k y) d 0 0 (fS n) (aeJ t _);rw[Nat.zero_add]at hs;have hs:SC n (cf n) (2^n.aM.length) d (sD n (cf n) (2^n.aM.length) d (fS n)):=hs;generalize sD n (cf n) (2^n.aM.length) d (fS n)=r at e hs;rcases r with⟨i,x|y⟩|y
 .exact⟨true,_,false,0,e,(fun h=>nomatch h),fun _ j hj=>hs j (by omega),(fun h=>nomatch h)⟩
 .exact⟨false,0,_,_,e,fun _=>hs,(fun h=>nomatch h),fun _ j _=>hs j⟩
 .exact⟨false,0,_,_,e,(fun h j=>hs.2 (List.eq_nil_of_length_eq_zero (by have:=of_decide_eq_true h;omega)) j),(fun h=>nomatch h),fun _ j hj=>hs.1 j (by omega)⟩
