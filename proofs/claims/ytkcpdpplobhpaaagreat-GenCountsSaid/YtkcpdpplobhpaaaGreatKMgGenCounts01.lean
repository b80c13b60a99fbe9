import Derived.Test.YtkcpdpplobhpaaaGreatKMgGenCounts00
set_option linter.unusedSectionVars false
set_option linter.unusedVariables false
set_option linter.unusedSimpArgs false
set_option linter.unnecessarySimpa false
section
namespace Go.Proofs.YtkcpdpplobhpaaaGreat.V
open Go Go.RowKit Go.Proofs.YtkcpdpplobhpaaaGreat.Pl
def wrV(val:Int->Bool)(ws:List jR)(a j:Nat)(b:Bool):Bool:=ws.foldl (fun x w=>if nV val w.on=true/\bF (w.addr.map (nV val))=a then nV val (li w.data j)else x) b
def lz:bA:=⟨0,0,0⟩
def la(L:List bA)(p:Nat):bA:=L.getD p lz
def agl(L:List aX):Nat:=L.foldl (fun a m=>a+(eE m+10*eE m*(m.reads.length+m.writes.length))) 0
structure EB(n:au)(V k:Nat)(s:Mk)(L:List bA)(cv:Nat->Nat):Prop where
 lo:V<=s.v
 hi:s.v<=V+agl (n.mems.take k)
 new:∃N:List cM,s.a=n.ands++N/\(L.map (·.var)++N.map (·.var)).Perm (n.latches.map (·.var)++((n.mems.take k).flatMap gD++fr V s.v)) /\
  ∀x∈N,(bR s.v x.a/\bR s.v x.b)/\(x.var∈(n.mems.take k).flatMap gD\/(x.a / 2<x.var/\x.b / 2<x.var))
 len:L.length=n.latches.length+cF n k
 old:∀p,p<n.latches.length->la L p=la n.latches p
 nx:∀p,p<L.length->bR s.v (la L p).next
 cell:∀(i:Nat) (M:aX),i<k->n.mems[i]?=some M->V<=cv i/\cv i+eE M<=s.v/\∀q,q<eE M->(la L (n.latches.length+cF n i+q)).var=((cv i+1+q:Nat):Int)/\(la L (n.latches.length+cF n i+q)).init=(if M.any then 2 else 0)
 rd:∀val,Sat val s.a->∀(i:Nat) (M:aX),i<k->n.mems[i]?=some M->∀r∈M.reads,∀j:Nat,j<M.word.toNat->val (r.var+(j:Int))=val ((cv i+1+(bF (r.addr.map (nV val))*M.word.toNat+j):Nat):Int)
 wr:∀val,Sat val s.a->∀(i:Nat) (M:aX),i<k->n.mems[i]?=some M->∀a,a<2^M.addr.toNat->∀j,j<M.word.toNat->nV val (la L (n.latches.length+cF n i+(a*M.word.toNat+j))).next=wrV val M.writes a j (val ((cv i+1+(a*M.word.toNat+j):Nat):Int))
 clo:∀G,Clo G s.a->(∀(i:Nat) (M:aX),i<k->n.mems[i]?=some M->∀q,q<eE M->G ((cv i+1+q:Nat):Int))->∀(i:Nat) (M:aX),i<k->n.mems[i]?=some M->∀r∈M.reads,(∀x∈r.addr,GL G x)->∀j:Nat,j<M.word.toNat->G (r.var+(j:Int))
set_option maxRecDepth 10000
section
variable{n:au}(ls:List Bool)(cs:List (List aD))(hcs:cs.length=n.mems.length)
include hcs
theorem PW:∀k,k<=n.mems.length->(fe n ls cs k).length=ls.length+cF n k
 |0,_=>by
  have:fe n ls cs 0=ls:=by unfold fe;simp
  rw[this];rfl
 |k+1,h=>by have hm:=List.getElem?_eq_getElem (show k<n.mems.length by omega);have hc:=List.getElem?_eq_getElem (show k<cs.length by omega);rw[vB n ls cs hm hc,List.length_append,PW k (by omega),vz,DL n hm];unfold eE;omega
end
theorem DR(k:Nat):(2:Int)^k=((2^k:Nat):Int):=by push_cast;rfl
abbrev oF:=bS dD
structure kg where
 nx:Nat->Nat->Nat
 fi:Nat->Nat->Bool
 bd:Nat->Nat->Int
 ls:Nat->Nat->List Bool
 cs:Nat->Nat->List (List aD)
structure Qs where
 how:oF
 next:List Nat
 ls:List Bool
 rs:List cf
def bk(l:List Nat):List Int:=l.map (fun k:Nat=>(k:Int))
def ib(n:au)(c:kg)(k y:Nat)(q:Qs):Qs⊕Qs:=match c.fi k y with|false=>.inr ⟨q.how,q.next,c.ls k y,bc n (c.cs k y)⟩|true=>match decide (0<=c.bd k y)with|true=>.inl ⟨q.how,q.next,c.ls k y,bc n (c.cs k y)⟩|false=>match dn q.how (c.nx k y:Int)with|true=>.inr ⟨q.how,q.next,c.ls k y,bc n (c.cs k y)⟩|false=>.inr ⟨cu (c.nx k y:Int) ((k:Int),((y:Int),())) q.how,q.next++[c.nx k y],c.ls k y,bc n (c.cs k y)⟩
def fw{Q R:Type}(stp:Nat->Q->R⊕Q):Nat->Nat->Q->(Nat×R)⊕Q
 |_,0,q=>.inr q|i,j+1,q=>match stp i q with|.inl r=>.inl (i,r)|.inr q=>fw stp (i+1) j q
def sA{D O Q R:Type}(f:Q->D)(g:R->O):R⊕Q->Option (D⊕O)
 |.inl r=>some (.inr (g r))|.inr q=>some (.inl (f q))
def k7{O Q R:Type}(g:R->O)(z:Q->O):R⊕Q->O
 |.inl r=>g r|.inr q=>z q
theorem vJ{D O Q R:Type}{B:D->Option (D⊕O)}(stp:Nat->Q->R⊕Q)(f:Nat->Q->D)(g:Nat->R->O)(z:Q->O)(I:Nat->Q->Prop)(n:Nat)
  (hi:∀i q,i<n->I i q->(∃r,stp i q=.inl r)\/∃q2,stp i q=.inr q2/\I (i+1) q2)
  (he:∀q,I n q->B (f n q)=some (.inr (z q)))
  (hs:∀i q,i<n->I i q->B (f i q)=sA (f (i+1)) (g i) (stp i q)) :
  ∀j i q,i+j=n->I i q->∀N,j<N->aE B N (f i q)=some (k7 (fun r=>g r.1 r.2) z (fw stp i j q))
 |0,i,q,hj,h,N,hN=>by
  obtain⟨N,rfl⟩:∃M,N=M+1:=⟨N-1,by omega⟩;obtain rfl:i=n:=by omega
  simp only[aE,he q h,fw,k7]
 |j+1,i,q,hj,h,N,hN=>by
  obtain⟨N,rfl⟩:∃M,N=M+1:=⟨N-1,by omega⟩;have e2:=hs i q (by omega) h;rcases hi i q (by omega) h with⟨r,e1⟩|⟨q2,e1,h2⟩
  .rw[e1]at e2;simp only[aE,e2,fw,e1,sA,k7]
  .rw[e1]at e2;simp only[aE,e2,fw,e1,sA];exact vJ stp f g z I n hi he hs j (i+1) q2 (by omega) h2 N (by omega)
theorem DS{Q R:Type}{stp:Nat->Q->R⊕Q}(I:Nat->Q->Prop)(J:Nat->R->Prop)(n:Nat)
  (hs:∀i q,i<n->I i q->(∃r,stp i q=.inl r/\J i r)\/∃q2,stp i q=.inr q2/\I (i+1) q2) :
  ∀j i q,i+j=n->I i q->(∃r,fw stp i j q=.inl r/\r.1<n/\J r.1 r.2)\/∃q2,fw stp i j q=.inr q2/\I n q2
 |0,i,q,hi,h=>by
  obtain rfl:i=n:=by omega
  exact .inr ⟨q,rfl,h⟩
 |j+1,i,q,hi,h=>by
  rcases hs i q (by omega) h with⟨r,e1,e2⟩|⟨q2,e1,h2⟩
  .exact .inl ⟨(i,r),by simp only[fw,e1],by show i<n;omega,e2⟩
  .simp only[fw,e1];exact DS I J n hs j (i+1) q2 (by omega) h2
def qg(n:au)(c:kg)(m k:Nat)(q:Qs):(Nat×Qs)⊕Qs:=fw (ib n c k) 0 m q
def sH(n:au)(c:kg)(m:Nat)(l:List Nat)(i:Nat)(q:Qs):(Nat×Qs)⊕Qs:=qg n c m (l.getD i 0) q
def lF(n:au)(c:kg)(m:Nat)(l:List Nat)(q:Qs):(Nat×Nat×Qs)⊕Qs:=fw (sH n c m l) 0 l.length q
abbrev JT:=Nat×Nat×Qs
def jF(n:au)(c:kg)(m _:Nat)(q:Int×Qs):(JT×List Nat⊕Int×Qs)⊕(Int×Qs):=match lF n c m q.2.next ⟨q.2.how,[],q.2.ls,q.2.rs⟩with|.inl r=>.inl (.inl (r,q.2.next))|.inr q2=>match decide ((q2.next.length:Int)=0)with|true=>.inl (.inr ((q.2.how.length:Int),q2))|false=>.inr ((q.2.how.length:Int),q2)
def sD(n:au)(c:kg)(m d:Nat)(q:Qs):=fw (jF n c m) 0 d ((0:Int),q)
structure di(W:Nat)(q:Qs):Prop where
 sor:q.how.Pairwise (fun a b=>a.1<b.1)
 key:∀p∈q.how,0<=p.1/\p.1<(W:Int)
 len:q.next.length<=q.how.length+1024
 nxt:∀k∈q.next,k<W
theorem Qb{α:Type}:∀(M:List (Int×α)) (a W:Int),a<=W->M.Pairwise (fun a b=>a.1<b.1)->(∀p∈M,a<=p.1/\p.1<W)->(M.length:Int)<=W-a
 |[],a,W,h,_,_=>by simp;omega|p::M,a,W,h,hs,hk=>by have h1:=hk p (List.mem_cons_self ..);have hs:=List.pairwise_cons.1 hs;have:=Qb M (p.1+1) W (by omega) hs.2 (fun q hq=>⟨by have:=hs.1 q hq;omega,(hk q (List.mem_cons_of_mem _ hq)).2⟩);rw[List.length_cons];push_cast;omega
theorem di.many{W:Nat}{q:Qs}(h:di W q):q.how.length<=W:=by have:=Qb q.how 0 (W:Int) (by omega) h.sor h.key;omega
theorem Pt{σ:Sh}{k:Int}:∀{M:bS σ},dn M k=false->∀p∈M,p.1≠k
 |[],_,p,hp=>nomatch hp
 |q::M,h,p,hp=>by
  unfold dn at h;by_cases e:q.1=k
  .rw[decide_eq_true e]at h;cases h
  .rw[decide_eq_false e]at h;rcases List.mem_cons.1 hp with rfl|hp
   .exact e
   .exact Pt h p hp
theorem acI{σ:Sh}{k:Int}{v:σ.T}{M:bS σ}(h:dn M k=false):(cu k v M).length=M.length+1:=by rw[(PJ (Pt h)).length_eq,List.length_append];rfl
theorem Qe{n:au}{c:kg}{W k y:Nat}{q:Qs}(hn:c.nx k y<W)(h:di W q):(∃q2,ib n c k y q=.inl q2/\di W q2)\/∃q2,ib n c k y q=.inr q2/\di W q2:=by
 unfold ib;cases c.fi k y with
 |false=>exact .inr ⟨_,rfl,⟨h.sor,h.key,h.len,h.nxt⟩⟩|true=>
  cases decide (0<=c.bd k y)with
  |true=>exact .inl ⟨_,rfl,⟨h.sor,h.key,h.len,h.nxt⟩⟩|false=>
   cases hm:dn q.how (c.nx k y:Int)with
   |true=>exact .inr ⟨_,rfl,⟨h.sor,h.key,h.len,h.nxt⟩⟩|false=>
    refine .inr ⟨_,rfl,⟨tN h.sor,fun p hp=>?_,?_,fun j hj=>?_⟩⟩
    .rcases DQ hp with e|e
     .rw[e];omega
     .exact h.key p e
    .have e:=acI (σ:=dD) (v:=((k:Int),((y:Int),()))) hm;have hl:=h.len;have e2:(q.next++[c.nx k y]).length=q.next.length+1:=List.length_append;exact Nat.le_trans (Nat.le_of_eq e2) (Nat.le_trans (by omega:q.next.length+1<=(q.how.length+1)+1024) (Nat.le_of_eq (congrArg (·+1024) e.symm)))
    .rcases List.mem_append.1 hj with e|e
     .exact h.nxt j e
     .rw[List.mem_singleton.1 e];exact hn
theorem D3{n:au}{c:kg}{W m k:Nat}{q:Qs}(hn:∀y,y<m->c.nx k y<W)(h:di W q):(∃r,qg n c m k q=.inl r/\r.1<m/\di W r.2)\/∃q2,qg n c m k q=.inr q2/\di W q2:=DS (fun _ q=>di W q) (fun _ q=>di W q) m (fun i q hi h=>Qe (hn i hi) h) m 0 q (by omega) h
theorem getD_in{W:Nat}{l:List Nat}(hl:∀k∈l,k<W){i:Nat}(hi:i<l.length):l.getD i 0<W:=by rw[List.getD_eq_getElem?_getD,List.getElem?_eq_getElem hi];exact hl _ (List.getElem_mem hi)
theorem D2{n:au}{c:kg}{W m:Nat}(hn:∀k y,k<W->y<m->c.nx k y<W){l:List Nat}{q:Qs}(hl:∀k∈l,k<W)(h:di W q):(∃r,lF n c m l q=.inl r/\r.1<l.length/\r.2.1<m/\di W r.2.2)\/∃q2,lF n c m l q=.inr q2/\di W q2:=DS (fun _ q=>di W q) (fun _ (r:Nat×Qs)=>r.1<m/\di W r.2) l.length (fun i q hi h=>D3 (fun y hy=>hn _ y (getD_in hl hi) hy) h) l.length 0 q (by omega) h
def gk(n:au)(k y:Nat):List Bool:=dg n (bu n k).1 (bu n k).2 (bh y n.inputs.length)
def bn(n:au):kg where
 nx k y:=bF (dM n (dR n (gk n k y)) (d9 n (bu n k).2 (gk n k y))).2
 fi k y:=kM n (gk n k y)
 bd k y:=idx (jr n (gk n k y))
 ls k y:=dR n (gk n k y)
 cs k y:=d9 n (bu n k).2 (gk n k y)
section
variable{n:au}{V:Nat}(hs:bo n V)
include hs
theorem afM{K:Nat}{ls:List Bool}{cs:List (List aD)}(ok:iW n K ls cs):lG cs:=by
 intro c hc i hi;obtain⟨j,hj⟩:=List.getElem?_of_mem (show(c:List aD)∈cs from hc);have hjl:=cr hj;have hcl:cs.length=n.mems.length:=ok.csL;have hjm:j<n.mems.length:=Nat.lt_of_lt_of_le hjl (Nat.le_of_eq hcl);have hm:=List.getElem?_eq_getElem hjm;have ko:=ok.ok j _ _ hm hj;obtain⟨m1,m2,m3,m4,_⟩:=hs.mems _ (List.getElem_mem hjm);have hp:(c:List aD)[i]?=some ((c:List aD)[i]'hi):=List.getElem?_eq_getElem hi;obtain⟨e1,e2⟩:=y2 hp;have h1:=ko.at_ _ (List.mem_of_getElem? hp);have h2:=ko.wd _ (List.mem_of_getElem? hp);have b:∀(x:Int) (k:Nat),x<2^k->k<=64->x<=18446744073709551615:=by intro x k hx hk;rw[DR]at hx;have:=Nat.pow_le_pow_right (n:=2) (by omega) hk;have e:(2:Nat)^64=18446744073709551616:=rfl;omega
 rw[e1,e2];exact⟨⟨h1.1,b _ _ h1.2 (by omega)⟩,⟨by omega,b _ _ h2.2 (by omega)⟩⟩
end
section
variable{n:au}{V:Nat}(t:eY n V)
include t
theorem vG{ls:List Bool}(cs:List (List aD))(hls:ls.length=n.latches.length):(dM n ls cs).2.length<=wid n:=by
 unfold dM;by_cases h0:dO (aQ n) (ls,(cs,()))=0
 .rw[if_neg (fun q=>q h0)];by_cases h1:64<cw n
  .rw[if_pos h1];exact Nat.zero_le _
  .rw[if_neg h1];have hf:=(QV h0).2;unfold db at hf;simp only[Bool.and_eq_true,decide_eq_true_eq]at hf;have hcs:cs.length=n.mems.length:=hf.1.2.trans (List.length_map ..);have:=PW ls cs hcs n.mems.length (Nat.le_refl _);have h2:=t.off;have h3:cF n n.mems.length=jC n.mems:=by unfold cF;rw[List.take_length]
   show(fe n ls cs n.mems.length).length<=_;omega
 .rw[if_pos h0];exact Nat.zero_le _
theorem QU(k y:Nat):((bn n).ls k y).length=n.latches.length:=by show(dR n _).length=_;unfold dR;rw[List.length_map]
theorem m5(k y:Nat):(bn n).nx k y<2^wid n:=by have h:=vG t (d9 n (bu n k).2 (gk n k y)) (QU t k y);have h2:=me (dM n (dR n (gk n k y)) (d9 n (bu n k).2 (gk n k y))).2;have h3:=Nat.pow_le_pow_right (n:=2) (by omega) h;exact Nat.lt_of_lt_of_le h2 h3
end
theorem aeL{n:au}{V:Nat}(t:eY n V):IntKind.wrap .i64 ((1:Int)*(HPow.hPow (2:Int) (Min.min (Int.toNat (Int.ofNat n.inputs.length)) 64)))=((2^n.inputs.length:Nat):Int):=by have hi:=t.ins;have h64:(2:Nat)^n.inputs.length<=64:=Nat.pow_le_pow_right (n:=2) (by omega) (show n.inputs.length<=6 from hi);have e:Int.toNat (Int.ofNat n.inputs.length)=n.inputs.length:=Int.toNat_natCast _;rw[e,Nat.min_eq_left (by omega),Int.one_mul,DR];exact(show ∀N:Nat,N<=64->IntKind.wrap .i64 (N:Int)=(N:Int)from fun N h=>bf (by omega)) _ h64
theorem aeQ{l:List Nat}{i:Nat}(hi:i<l.length):gt (.int .i64) (bk l) (i:Int)=((l.getD i 0:Nat):Int):=by
 have e:(bk l)[i]?=some ((l.getD i 0:Nat):Int):=by unfold bk;rw[List.getElem?_map,List.getD_eq_getElem?_getD,List.getElem?_eq_getElem hi];rfl
 exact aS (σ:=.int .i64) e
section
variable{n:au}{V:Nat}(t:eY n V)(ft:Fit n)(hf:∀k,k<2^wid n->db (aQ n) ((bu n k).1,((bu n k).2,()))=true)
include t hf
theorem agd{k:Nat}(hk:k<2^wid n)(y:Nat):iW n 4096 (bu n k).1 (bu n k).2/\iW n 4100 ((bn n).ls k y) ((bn n).cs k y):=by have h:=alM (hf k hk) (Et t k);exact⟨h,alR t.hs h _⟩
include ft
def ME(n:au)(V:Nat)(now:List Int)(k y:Nat)(r:Qs):Out nZ:=.inl ((bn n).bd k y,(true,nt n (bq n,(r.how,(now,mc n (aM n V) r.ls r.rs ((k:Int),((y:Int),())))))))
def MD(n:au)(V:Nat)(now:List Int)(t21 t22 b80 b81:Int)(q:Qs):Out nZ:=.inr (t21,(t22,nt n (bq n,(q.how,(now,mc n (aM n V) q.ls q.rs (b80,(b81,(bk q.next,()))))))))
theorem al4{k m:Nat}(hk:k<2^wid n)(hm:m=2^n.inputs.length)(now:List Int)(t21 t22 b80 b81:Int){q:Qs}(h:di (2^wid n) q) :
  uy ((k:Int),(t21,(t22,((m:Int),((0:Int),nt n (bq n,(q.how,(now,mc n (aM n V) q.ls q.rs (b80,(b81,(bk q.next,()))))))))))) =
   some (k7 (fun r:Nat×Qs=>ME n V now k r.1 r.2) (MD n V now t21 t22 b80 b81) (qg n (bn n) m k q)):=by
 have hp:=mV t;have hw:=t.w10;have hi:=t.ins;have hm64:m<=64:=by rw[hm];exact Nat.pow_le_pow_right (n:=2) (by omega) (show n.inputs.length<=6 from hi)
 unfold qg;unfold uy;refine vJ (ib n (bn n) k) (fun(y:Nat) (q:Qs)=>((k:Int),(t21,(t22,((m:Int),((y:Int),nt n (bq n,(q.how,(now,mc n (aM n V) q.ls q.rs (b80,(b81,(bk q.next,()))))))))))))
  (ME n V now k) (MD n V now t21 t22 b80 b81)
  (fun _ q=>di (2^wid n) q) m ?_ ?_ ?_ m 0 q (by omega) h NN (aW (by omega))
 .intro y q hy h;rcases Qe (n:=n) (m5 t k y) h with⟨r,e,_⟩|⟨q2,e,h2⟩
  .exact .inl ⟨r,e⟩
  .exact .inr ⟨q2,e,h2⟩
 .intro q h;exact ao (aw (show ¬(m:Int)<(m:Int) by omega)) rfl
 .intro y q hy h;obtain⟨ok1,ok2⟩:=agd t hf hk y;have sl:=D8 t k;have hml:=h.many;have hln:=h.len;have e1:jw (IntKind.wrap .u64 (k:Int),(bq n,()))=some (bh k (wid n),()):=by rw[Q4 (by omega),t.wd];exact qI k (wid n) (by omega) (by omega)
  have e2:=(Ph t ft (k:=k) (by omega)).1;have e3:=ae1 ft (aM n V) q.ls (bu n k).1 q.rs (bu n k).2 sl.2.1 (hf k hk) (by have:=t.hs.lens.2.1;omega);have e4:jw (IntKind.wrap .u64 (y:Int),(Int.ofNat n.inputs.length,()))=some (bh y n.inputs.length,()):=by rw[f8 (by omega)];exact qI y n.inputs.length (by omega) (by omega)
  have e5:=adX t.hs ft (by omega) (bu n k).1 (bh y n.inputs.length) (bu n k).2 ok1 (eZ _ _);have e6:=adT t.hs (aM n V) (by omega) ok2;have e7:=(Pg ft ((bn n).ls k y) ((bn n).cs k y) (afM t.hs ok2) (by have:=ok2.lsL;have:=t.hs.lens.2.1;omega) (fun c hc=>Nat.le_trans (ac0 ok2 c hc) (by omega))).1;have hl8:=vG t ((bn n).cs k y) (QU t k y);have e8:=Dp (dM n ((bn n).ls k y) ((bn n).cs k y)).2 (by omega);have e9:=alx (jr n (gk n k y)) (by rw[acy];have:=t.hs.lens.2.2.2.1;omega);have hnx:=m5 t k y;have ew:IntKind.wrap .i64 ((bF (dM n ((bn n).ls k y) ((bn n).cs k y)).2:Nat):Int)=(((bn n).nx k y:Nat):Int):=bf (by show -9223372036854775808<=(((bn n).nx k y:Nat):Int)/\(((bn n).nx k y:Nat):Int)<=_;omega);have hy1:IntKind.wrap .i64 ((y:Int)+1)=((y+1:Nat):Int):=aZ (x:=(y:Int)+1) (n:=y+1) (by omega) (by omega);refine av (al (show(y:Int)<(m:Int) by omega)) (af e1 (af e2 (aj (al rfl) (af e3 (af e4 (af e5 (aj (al rfl) (af e6 (aj (P0 _) (af e7 (aj (al rfl) (af e8 (aj (P0 _) (af e9 ?_))))))))))))));have e:∀(p q:Int) (H H':oF) (L L':List Int) (A:List Bool) (R:List cf),p=q->H=H'->L=L'->(some (.inl ((k:Int),(t21,(t22,((m:Int),(p,nt n (bq n,(H,(now,mc n (aM n V) A R (b80,(b81,(L,())))))))))))):Option (TL uk.σs⊕Out nZ))=some (.inl ((k:Int),(t21,(t22,((m:Int),(q,nt n (bq n,(H',(now,mc n (aM n V) A R (b80,(b81,(L',())))))))))))):=by rintro _ _ _ _ _ _ _ _ rfl rfl rfl;rfl
  unfold ib;cases hfi:(bn n).fi k y with
  |false=>exact av (fg hfi) (e _ _ _ _ _ _ _ _ hy1 rfl rfl)|true=>
   refine ao (cI hfi) ?_;by_cases hb:0<=(bn n).bd k y
   .rw[decide_eq_true hb];exact av (al hb) rfl
   .rw[decide_eq_false hb];refine ao (aw hb) ?_;cases hh:dn q.how (((bn n).nx k y:Nat):Int)with
    |true=>exact ao (cI (by rw[ew];exact hh)) (e _ _ _ _ _ _ _ _ hy1 rfl rfl)|false=>
     have hnl:(bk q.next).length<=2048:=by unfold bk;rw[List.length_map];omega
     refine av (fg (by rw[ew];exact hh)) (aj (jj (a:=8) (L:=bk q.next) (x:=IntKind.wrap .i64 ((bF (dM n ((bn n).ls k y) ((bn n).cs k y)).2:Nat):Int)) (by omega) (by omega)) (e _ _ _ _ _ _ _ _ hy1 ?_ ?_))
     .exact congrArg (fun z:Int=>cu (σ:=dD) z ((k:Int),((y:Int),())) q.how) ew
     .rw[ew];unfold bk;rw[List.map_append];rfl
def MC(n:au)(V:Nat)(now:List Nat)(i:Nat)(r:Nat×Qs):Out nY:=.inl ((bn n).bd (now.getD i 0) r.1,(true,nt n (bq n,(r.2.how,(bk now,mc n (aM n V) r.2.ls r.2.rs (((now.getD i 0:Nat):Int),((r.1:Int),())))))))
def MB(n:au)(V:Nat)(now:List Nat)(q:Qs):Out nY:=.inr (nt n (bq n,(q.how,(bk now,mc n (aM n V) q.ls q.rs ((0:Int),((0:Int),(bk q.next,())))))))
def iR{α:Type}(n:au)(ord:List (aP×aJ))(r:α):=nt n (ord.map (fun x=>cd x.1),r)
theorem al3{m:Nat}(hm:m=2^n.inputs.length){now:List Nat}(hl:∀k∈now,k<2^wid n)(hln:now.length<=2048){q:Qs}(h:di (2^wid n) q) :
  Cc ((now.length:Int),((0:Int),nt n (bq n,(q.how,(bk now,mc n (aM n V) q.ls q.rs ((0:Int),((0:Int),(bk q.next,())))))))) =
   some (k7 (fun r:Nat×Nat×Qs=>MC n V now r.1 r.2) (MB n V now) (lF n (bn n) m now q)):=by
 have hnl:(bk now).length=now.length:=by unfold bk;rw[List.length_map]
 unfold lF;unfold Cc;refine vJ (sH n (bn n) m now) (fun(i:Nat) (q:Qs)=>((now.length:Int),((i:Int),nt n (bq n,(q.how,(bk now,mc n (aM n V) q.ls q.rs ((0:Int),((0:Int),(bk q.next,())))))))))
  (MC n V now) (MB n V now)
  (fun _ q=>di (2^wid n) q) now.length ?_ ?_ ?_ now.length 0 q (by omega) h NN (aW (by omega))
 .intro i q hi h;rcases D3 (n:=n) (c:=bn n) (m:=m) (k:=now.getD i 0) (fun y _=>m5 t _ y) h with⟨r,e,_⟩|⟨q2,e,h2⟩
  .exact .inl ⟨r,e⟩
  .exact .inr ⟨q2,e,h2⟩
 .intro q h;exact ao (aw (show ¬(now.length:Int)<(now.length:Int) by omega)) rfl
 .intro i q hi h;have e7:=al4 t ft hf (getD_in hl hi) hm (bk now) (now.length:Int) (i:Int) 0 0 h;have g:=aeQ hi;have hmi:=aeL t;rw[<-hm]at hmi;have e7':∀(a b:Int),a=((now.getD i 0:Nat):Int)->b=(m:Int)->uy (a,((now.length:Int),((i:Int),(b,((0:Int),nt n (bq n,(q.how,(bk now,mc n (aM n V) q.ls q.rs ((0:Int),((0:Int),(bk q.next,())))))))))))=some (k7 (fun r:Nat×Qs=>ME n V (bk now) (now.getD i 0) r.1 r.2) (MD n V (bk now) (now.length:Int) (i:Int) 0 0) (qg n (bn n) m (now.getD i 0) q)):=by rintro _ _ rfl rfl;exact e7
  refine av (al (show(i:Int)<(now.length:Int) by omega)) (aj (show ar (i:Int) (List.length (bk now))=true from aA ⟨by omega,by omega⟩) (af (e7' _ _ g hmi) ?_));have hi1:IntKind.wrap .i64 ((i:Int)+1)=((i+1:Nat):Int):=aZ (x:=(i:Int)+1) (n:=i+1) (by omega) (by omega);have e:∀(p q:Int) (H:oF) (L:List Int) (A:List Bool) (R:List cf),p=q->(some (.inl ((now.length:Int),(p,nt n (bq n,(H,(bk now,mc n (aM n V) A R ((0:Int),((0:Int),(L,()))))))))):Option (TL uj.σs⊕Out nY))=some (.inl ((now.length:Int),(q,nt n (bq n,(H,(bk now,mc n (aM n V) A R ((0:Int),((0:Int),(L,()))))))))):=by rintro _ _ _ _ _ _ rfl;rfl
  unfold sH;rcases D3 (n:=n) (c:=bn n) (m:=m) (k:=now.getD i 0) (fun y _=>m5 t _ y) h with⟨r,e1,_⟩|⟨q2,e1,h2⟩
  .rw[e1];rfl
  .rw[e1];exact e _ _ _ _ _ _ hi1
theorem ac8{m:Nat}(hm:m=2^n.inputs.length){q:Qs}(h:di (2^wid n) q) :
  Nf (nt n (bq n,(q.how,(bk q.next,mc n (aM n V) q.ls q.rs ())))) =
   some (k7 (fun r:Nat×Nat×Qs=>(((q.next.getD r.1 0:Nat):Int),((r.2.1:Int),((bn n).bd (q.next.getD r.1 0) r.2.1,(true,nt n (bq n,(r.2.2.how,iR n (aM n V) (bk q.next,(r.2.2.ls,(r.2.2.rs,()))))))))))
    (fun q:Qs=>((0:Int),((0:Int),((0:Int),(false,nt n (bq n,(q.how,iR n (aM n V) (bk q.next,(q.ls,(q.rs,())))))))))) (lF n (bn n) m q.next ⟨q.how,[],q.ls,q.rs⟩)):=by
 have hp:=mV t;have h0:di (2^wid n) ⟨q.how,[],q.ls,q.rs⟩:=⟨h.sor,h.key,Nat.zero_le _,fun k hk=>nomatch hk⟩;have e4:=al3 t ft hf hm h.nxt (by have:=h.len;have:=h.many;omega) h0;have hnl:Int.ofNat (List.length (bk q.next))=(q.next.length:Int):=by unfold bk;rw[List.length_map];rfl
 have e4':∀a:Int,a=(q.next.length:Int)->Cc (a,((0:Int),nt n (bq n,(q.how,(bk q.next,mc n (aM n V) q.ls q.rs ((0:Int),((0:Int),([],()))))))))=some (k7 (fun r:Nat×Nat×Qs=>MC n V q.next r.1 r.2) (MB n V q.next) (lF n (bn n) m q.next ⟨q.how,[],q.ls,q.rs⟩)):=by rintro _ rfl;exact e4
 refine af (e4' _ hnl) ?_;rcases D2 (n:=n) (c:=bn n) (m:=m) (fun k y _ _=>m5 t k y) h.nxt h0 with⟨r,e1,_⟩|⟨q2,e1,h2⟩
 .rw[e1];rfl
 .rw[e1];rfl
theorem ae8{m:Nat}{q:Int×Qs}(h:di (2^wid n) q.2)(i:Nat):(∃r,jF n (bn n) m i q=.inl r)\/∃q2,jF n (bn n) m i q=.inr q2/\di (2^wid n) q2.2:=by
 have h0:di (2^wid n) ⟨q.2.how,[],q.2.ls,q.2.rs⟩:=⟨h.sor,h.key,Nat.zero_le _,fun k hk=>nomatch hk⟩;unfold jF;rcases D2 (n:=n) (c:=bn n) (m:=m) (fun k y _ _=>m5 t k y) h.nxt h0 with⟨r,e1,_⟩|⟨q2,e1,h2⟩
 .rw[e1];exact .inl ⟨_,rfl⟩
 .rw[e1]
  try dsimp only
  cases decide ((q2.next.length:Int)=0)with|true=>exact .inl ⟨_,rfl⟩|false=>exact .inr ⟨_,rfl,h2⟩
abbrev wg(n:au)(V i:Nat)(r:JT×List Nat⊕Int×Qs):Out n4:=match r with|.inl x=>.inl ((bn n).bd (x.2.getD x.1.1 0) x.1.2.1,(((i+1:Nat):Int),((0:Int),nt n (bq n,(x.1.2.2.how,iR n (aM n V) (bk x.2,(x.1.2.2.ls,(x.1.2.2.rs,(((x.2.getD x.1.1 0:Nat):Int),((x.1.2.1:Int),()))))))))))|.inr y=>.inr (y.1,nt n (bq n,(y.2.how,iR n (aM n V) (bk y.2.next,(y.2.ls,(y.2.rs,((0:Int),((0:Int),()))))))))
theorem afw{m d:Nat}(hm:m=2^n.inputs.length)(hd:d<=100000){q:Qs}(h:di (2^wid n) q) :
  NQ ((0:Int),((d:Int),((0:Int),nt n (bq n,(q.how,iR n (aM n V) (bk q.next,(q.ls,(q.rs,((0:Int),((0:Int),())))))))))) =
   some (k7 (fun r=>wg n V r.1 r.2) (fun q=>wg n V 0 (.inr q)) (sD n (bn n) m d q)):=by
 have hp:=mV t;unfold sD;unfold NQ;refine vJ (jF n (bn n) m) (fun(i:Nat) (q:Int×Qs)=>(q.1,((d:Int),((i:Int),nt n (bq n,(q.2.how,iR n (aM n V) (bk q.2.next,(q.2.ls,(q.2.rs,((0:Int),((0:Int),())))))))))))
  (fun(i:Nat) r=>wg n V i r) (fun q=>wg n V 0 (.inr q))
  (fun _ q=>di (2^wid n) q.2) d ?_ ?_ ?_ d 0 ((0:Int),q) (by omega) h NN (aW (by omega))
 .intro i q hi h;exact ae8 t ft hf h i
 .intro q h;exact ao (aw (show ¬(d:Int)<(d:Int) by omega)) rfl
 .intro i q hi h;obtain⟨st,q⟩:=q;have e4:=ac8 t ft hf hm h;refine av (al (show(i:Int)<(d:Int) by omega)) (af e4 ?_);have h0:di (2^wid n) ⟨q.how,[],q.ls,q.rs⟩:=⟨h.sor,h.key,Nat.zero_le _,fun k hk=>nomatch hk⟩;have hi1:IntKind.wrap .i64 ((i:Int)+1)=((i+1:Nat):Int):=aZ (x:=(i:Int)+1) (n:=i+1) (by omega) (by omega);unfold jF;rcases D2 (n:=n) (c:=bn n) (m:=m) (fun k y _ _=>m5 t k y) h.nxt h0 with⟨r,e1,_⟩|⟨q2,e1,h2⟩
  .rw[e1];have e:∀(p q':Int),p=q'->(some (.inr (.inl ((bn n).bd (q.next.getD r.1 0) r.2.1,(p,((0:Int),nt n (bq n,(r.2.2.how,iR n (aM n V) (bk q.next,(r.2.2.ls,(r.2.2.rs,(((q.next.getD r.1 0:Nat):Int),((r.2.1:Int),())))))))))))):Option (TL ql.σs⊕Out n4))=some (.inr (.inl ((bn n).bd (q.next.getD r.1 0) r.2.1,(q',((0:Int),nt n (bq n,(r.2.2.how,iR n (aM n V) (bk q.next,(r.2.2.ls,(r.2.2.rs,(((q.next.getD r.1 0:Nat):Int),((r.2.1:Int),())))))))))))):=by rintro _ _ rfl;rfl
   exact av rfl (e _ _ hi1)
  .rw[e1];refine ao rfl ?_;have hlen:Int.ofNat (List.length (bk q2.next))=(q2.next.length:Int):=by unfold bk;rw[List.length_map];rfl
   by_cases hz:(q2.next.length:Int)=0
   .refine av (show iQ (Int.ofNat (List.length (bk q2.next))) 0=true from by rw[hlen];exact al hz) ?_;show _=sA _ _ (match decide ((q2.next.length:Int)=0)with|true=>_|false=>_);rw[decide_eq_true hz];rfl
   .refine ao (show iQ (Int.ofNat (List.length (bk q2.next))) 0=false from by rw[hlen];exact aw hz) ?_;show _=sA _ _ (match decide ((q2.next.length:Int)=0)with|true=>_|false=>_);rw[decide_eq_false hz];have e:∀(p q':Int),p=q'->(some (.inl ((q.how.length:Int),((d:Int),(p,nt n (bq n,(q2.how,iR n (aM n V) (bk q2.next,(q2.ls,(q2.rs,((0:Int),((0:Int),()))))))))))):Option (TL ql.σs⊕Out n4))=some (.inl ((q.how.length:Int),((d:Int),(q',nt n (bq n,(q2.how,iR n (aM n V) (bk q2.next,(q2.ls,(q2.rs,((0:Int),((0:Int),()))))))))))):=by rintro _ _ rfl;rfl
    exact e _ _ hi1
end
section
variable{n:au}{V:Nat}(t:eY n V)
include t
theorem acU:fW (aQ n)=(gF (n.latches.map aB) n.latches.length,(List.replicate n.mems.length [],()))/\db (aQ n) (fW (aQ n))=true:=by
 have e:fW (aQ n)=(gF (n.latches.map aB) n.latches.length,(List.replicate n.mems.length [],())):=by unfold fW;rw[jP,decide_eq_true t.hc];show(gF (n.latches.map aB) (n.latches.map aB).length,(List.replicate (n.mems.map ak).length [],()))=_;rw[List.length_map,List.length_map]
 refine⟨e,?_⟩;rw[e];unfold db;show(decide ((gF (n.latches.map aB) n.latches.length).length=(n.latches.map aB).length)&&decide ((List.replicate n.mems.length ([]:List aq.T)).length=(n.mems.map ak).length)&&(List.range (n.mems.map ak).length).all (ig (n.mems.map ak) (List.replicate n.mems.length [])))=true;rw[Ma,List.length_map,List.length_map,List.length_replicate,decide_eq_true rfl,decide_eq_true rfl];show(List.range n.mems.length).all _=true;rw[List.all_eq_true];intro i hi;have hi:=List.mem_range.1 hi;have hx:=List.getElem?_eq_getElem hi;obtain⟨m1,m2,m3,m4,_⟩:=t.hs.mems _ (List.getElem_mem hi);have g1:gt ab (n.mems.map ak) (i:Int)=ak n.mems[i]:=aS (σ:=ab) (by rw[List.getElem?_map,hx];rfl);have e0:∀(α:Type) (x:α) (N i:Nat),i<N->(List.replicate N x)[i]?=some x:=by intro α x N i h;rw[List.getElem?_replicate,if_pos h]
 have g2:gt (.sl aq) (List.replicate n.mems.length ([]:List aq.T)) (i:Int)=[]:=aS (σ:=.sl aq) (e0 _ _ _ _ hi);unfold ig;rw[g1];refine(congrArg (gj (ak n.mems[i]).1 (ak n.mems[i]).2.1) g2).trans ?_;unfold gj;show(decide (1<=n.mems[i].addr)&&decide (n.mems[i].addr<=62)&&decide (1<=n.mems[i].word)&&decide (n.mems[i].word<=64)&&decide (0<=4096)&&(List.range 0).all _)=true;rw[decide_eq_true m1,decide_eq_true m2,decide_eq_true m3,decide_eq_true m4];rfl
end
def dI(n:au)(k:Nat):Nat:=bF (dM n (bu n k).1 (bu n k).2).2
def mj(n:au)(L:List Nat):oF:=L.foldl (fun h k=>cu ((dI n k:Nat):Int) ((-1:Int),((0:Int),())) h) []
def dU(n:au):Qs:=⟨mj n (eK n (2^wid n)),(eK n (2^wid n)).map (dI n),(fW (aQ n)).1,bc n (fW (aQ n)).2.1⟩
section
variable{n:au}{V:Nat}(t:eY n V)(ft:Fit n)
include t ft
theorem af6(ls:List Bool)(rs:List cf):Dd ((0:Int),(fT n (2^wid n),(((fT n (2^wid n)).length:Int),((0:Int),nt n (bq n,([],([],mc n (aM n V) ls rs ()))))))) =
  some ((0:Int),nt n (bq n,(mj n (eK n (2^wid n)),(bk ((eK n (2^wid n)).map (dI n)),mc n (aM n V) ls rs ())))):=by
 have hp:=mV t;have hw:=t.w10;have hL:=DJ n (2^wid n);have hsl:(fT n (2^wid n)).length=(eK n (2^wid n)).length:=by unfold fT;rw[List.length_map]
 obtain⟨L,eL⟩:∃L,L=eK n (2^wid n):=⟨_,rfl⟩;have eS:fT n (2^wid n)=L.map (iS n):=by unfold fT;rw[eL]
 rw[hsl,eS,<-eL];rw[<-eL]at hL;unfold Dd;refine bN (fun i:Nat=>((0:Int),(L.map (iS n),((L.length:Int),((i:Int),nt n (bq n,(mj n (L.take i),(bk ((L.take i).map (dI n)),mc n (aM n V) ls rs ())))))))) L.length rfl ?_ ?_ (aW (by omega))
 .intro i hi;have hx:=List.getElem?_eq_getElem hi;have g:gt bZ (L.map (iS n)) (i:Int)=iS n L[i]:=aS (σ:=bZ) (by rw[List.getElem?_map,hx];rfl);have sl:=D8 t L[i];have e1:=(Pg ft (bu n L[i]).1 (bu n L[i]).2 (Et t L[i]) (by have:=t.hs.lens.2.1;omega) (fun c hc=>Nat.le_trans (sl.2.2 c hc) (by omega))).1;have hl8:=vG t (bu n L[i]).2 sl.1;have e2:=Dp (dM n (bu n L[i]).1 (bu n L[i]).2).2 (by omega);have e1':∀s:bZ.T,s=iS n L[i]->vb (nt n (s.1,(s.2.1,())))=some ((dM n (bu n L[i]).1 (bu n L[i]).2).1,((dM n (bu n L[i]).1 (bu n L[i]).2).2,())):=by rintro _ rfl;exact e1
  have hlt:dI n L[i]<2^wid n:=Nat.lt_of_lt_of_le (me _) (Nat.pow_le_pow_right (by omega) hl8);have ew:IntKind.wrap .i64 ((bF (dM n (bu n L[i]).1 (bu n L[i]).2).2:Nat):Int)=((dI n L[i]:Nat):Int):=bf (by show -9223372036854775808<=((dI n L[i]:Nat):Int)/\((dI n L[i]:Nat):Int)<=_;omega);have hi1:IntKind.wrap .i64 ((i:Int)+1)=((i+1:Nat):Int):=aZ (x:=(i:Int)+1) (n:=i+1) (by omega) (by omega);have ht:L.take (i+1)=L.take i++[L[i]]:=Pl.cg hx;have eh:cu (IntKind.wrap .i64 ((bF (dM n (bu n L[i]).1 (bu n L[i]).2).2:Nat):Int)) (σ:=dD) ((-1:Int),((0:Int),())) (mj n (L.take i))=mj n (L.take (i+1)):=by rw[ew,ht];unfold mj;rw[List.foldl_append];rfl
  have en:bk ((L.take i).map (dI n))++(IntKind.wrap .i64 ((bF (dM n (bu n L[i]).1 (bu n L[i]).2).2:Nat):Int)::[])=bk ((L.take (i+1)).map (dI n)):=by rw[ew,ht];unfold bk;rw[List.map_append,List.map_append];rfl
  have e:∀(p q:Int) (H H':oF) (A B:List Int),p=q->H=H'->A=B->(some (.inl ((0:Int),(L.map (iS n),((L.length:Int),(p,nt n (bq n,(H,(A,mc n (aM n V) ls rs ())))))))):Option (TL uX.σs⊕Out uV))=some (.inl ((0:Int),(L.map (iS n),((L.length:Int),(q,nt n (bq n,(H',(B,mc n (aM n V) ls rs ())))))))):=by rintro _ _ _ _ _ _ rfl rfl rfl;rfl
  exact av (al (show(i:Int)<(L.length:Int) by omega)) (aj (show ar (i:Int) (List.length (L.map (iS n)))=true from aA ⟨by omega,by rw[List.length_map];omega⟩) (af (e1' _ g) (aj (al rfl) (af e2 (aj (jj (a:=8) (L:=bk ((L.take i).map (dI n))) (x:=IntKind.wrap .i64 ((bF (dM n (bu n L[i]).1 (bu n L[i]).2).2:Nat):Int)) (by unfold bk;rw[List.length_map,List.length_map,List.length_take];omega) (by omega)) (e _ _ _ _ _ _ hi1 eh en))))))
 .rw[List.take_length];exact ao (aw (show ¬(L.length:Int)<(L.length:Int) by omega)) rfl
theorem acY:abF (nt n ())=some (.inr ((0:Int),nt n (bq n,((dU n).how,(bk (dU n).next,mc n (aM n n.vars.toNat) (dU n).ls (dU n).rs ()))))):=by
 have hV:n.vars.toNat=V:=by rw[t.hs.vars];rfl
 have e3:=acT t ft;have e2:=qJ ft;obtain⟨z1,z2⟩:=acU t;have ft':Fit (df (aQ n)):=by rw[jP];exact ft
 have hL:List.length (aQ n).2.2.1<=100000:=by show(n.latches.map aB).length<=_;rw[List.length_map];have:=ft.lat.1;omega
 have hT:List.length (aQ n).2.2.2.2.2.2.1<=100000:=by show(n.mems.map ak).length<=_;rw[List.length_map];have:=ft.mems.1;omega
 have e1:=aho (aQ n) ft' hL hT;have hz1:(fW (aQ n)).1.length<=1000000:=by rw[z1];show(gF _ _).length<=_;rw[Ma];have:=t.hs.lens.2.1;omega
 have e5:=afJ ft (fW (aQ n)).1 (fW (aQ n)).2.1 t.hc z2 hz1;have e7:=af6 t ft (fW (aQ n)).1 (bc n (fW (aQ n)).2.1);have hw:=Ez ft;have e7':∀a b:Int,a=((fT n (2^wid n)).length:Int)->b=bq n->Dd ((0:Int),(fT n (2^wid n),(a,((0:Int),nt n (b,([],([],mc n (aM n n.vars.toNat) (fW (aQ n)).1 (bc n (fW (aQ n)).2.1) ())))))))=some ((0:Int),nt n (bq n,(mj n (eK n (2^wid n)),(bk ((eK n (2^wid n)).map (dI n)),mc n (aM n V) (fW (aQ n)).1 (bc n (fW (aQ n)).2.1) ())))):=by rintro _ _ rfl rfl;rw[hV];exact e7
 refine af e3 (ao (cI (al rfl)) (af e2 (af e1 (af e5 (aj (al rfl) (af (e7' _ _ rfl hw) ?_))))));rw[hV];rfl
end
theorem P6{n:au}{W:Nat}:∀(L:List Nat) (H:oF),H.Pairwise (fun a b=>a.1<b.1)->(∀p∈H,0<=p.1/\p.1<(W:Int))->(∀k∈L,dI n k<W) ->
  (L.foldl (fun h k=>cu (σ:=dD) ((dI n k:Nat):Int) ((-1:Int),((0:Int),())) h) H).Pairwise (fun a b=>a.1<b.1)/\∀p∈L.foldl (fun h k=>cu (σ:=dD) ((dI n k:Nat):Int) ((-1:Int),((0:Int),())) h) H,0<=p.1/\p.1<(W:Int)
 |[],H,h1,h2,_=>⟨h1,h2⟩|k::L,H,h1,h2,h3=>P6 L _ (tN h1) (fun p hp=>by
   rcases DQ hp with e|e
   .have:=h3 k (List.mem_cons_self ..);rw[e];omega
   .exact h2 p e) (fun j hj=>h3 j (List.mem_cons_of_mem _ hj))
theorem alZ{n:au}{V:Nat}(t:eY n V):di (2^wid n) (dU n):=by
 have hp:=mV t;have hL:=DJ n (2^wid n);have hn:∀k,dI n k<2^wid n:=fun k=>Nat.lt_of_lt_of_le (me _) (Nat.pow_le_pow_right (by omega) (vG t _ (D8 t k).1));obtain⟨h1,h2⟩:=P6 (n:=n) (W:=2^wid n) (eK n (2^wid n)) [] List.Pairwise.nil (fun p hp=>nomatch hp) (fun k _=>hn k);refine⟨h1,h2,?_,fun j hj=>?_⟩
 .show((eK n (2^wid n)).map (dI n)).length<=_;rw[List.length_map];omega
 .have hj:j∈(eK n (2^wid n)).map (dI n):=hj;obtain⟨k,_,rfl⟩:=List.mem_map.1 hj;exact hn k
def agv(r:(Nat×(JT×List Nat⊕Int×Qs))⊕(Int×Qs)):TL qt:=match r with|.inl (i,.inl _)=>((true,(((i+1:Nat):Int),(false,((0:Int),())))),((0:Int),()))|.inl (_,.inr y)=>((false,((0:Int),(decide ((y.2.next.length:Int)=0),(y.1,())))),((0:Int),()))|.inr y=>((false,((0:Int),(decide ((y.2.next.length:Int)=0),(y.1,())))),((0:Int),()))
section
variable{n:au}{V:Nat}(t:eY n V)(ft:Fit n)(hf:∀k,k<2^wid n->db (aQ n) ((bu n k).1,((bu n k).2,()))=true)
include t ft hf
theorem acP{m d:Nat}(hm:m=2^n.inputs.length)(hd:d<=2000):Ov (aQ n,((d:Int),()))=some (agv (sD n (bn n) m d (dU n))):=by
 have eb:=acY t ft;have er:=afw t ft hf hm (d:=d) (by omega) (alZ t);have hV:n.vars.toNat=V:=by rw[t.hs.vars];rfl
 rw[hV]at eb;have hn:∀(x:Qs),Int.ofNat (List.length (bk x.next))=(x.next.length:Int):=fun x=>by unfold bk;rw[List.length_map];rfl
 have e:∀(b c:Bool) (s:Int),b=c->(some ((false,((0:Int),(b,(s,())))),((0:Int),())):Option (TL qt))=some ((false,((0:Int),(c,(s,())))),((0:Int),())):=by rintro _ _ _ rfl;rfl
 have hd2:iL (2000:Int) (d:Int)=false:=aw (by omega);refine af eb (ao (cI (al rfl)) (ao (aw (show ¬(d:Int)<0 by omega)) (ao (show aR false true (iL 2000 (d:Int))=false by rw[hd2];rfl) ?_)));generalize sD n (bn n) m d (dU n)=r at er;rcases r with⟨i,x|y⟩|y
 .have e2:Cu ((d:Int),nt n (bq n,((dU n).how,(bk (dU n).next,mc n (aM n V) (dU n).ls (dU n).rs ()))))=some (((x.2.getD x.1.1 0:Nat):Int),((x.1.2.1:Int),((bn n).bd (x.2.getD x.1.1 0) x.1.2.1,(((i+1:Nat):Int),((0:Int),nt n (bq n,(x.1.2.2.how,iR n (aM n V) (bk x.2,(x.1.2.2.ls,(x.1.2.2.rs,())))))))))):=af er rfl;exact af e2 (av (al (show(0:Int)<((i+1:Nat):Int) by omega)) rfl)
 .have e2:Cu ((d:Int),nt n (bq n,((dU n).how,(bk (dU n).next,mc n (aM n V) (dU n).ls (dU n).rs ()))))=some ((0:Int),((0:Int),((0:Int),((0:Int),(y.1,nt n (bq n,(y.2.how,iR n (aM n V) (bk y.2.next,(y.2.ls,(y.2.rs,())))))))))):=af er rfl;exact af e2 (ao (aw (show ¬((0:Int)<0) by decide)) (e _ _ _ (show iQ (Int.ofNat (List.length (bk y.2.next))) 0=_ from by rw[hn])))
 .have e2:Cu ((d:Int),nt n (bq n,((dU n).how,(bk (dU n).next,mc n (aM n V) (dU n).ls (dU n).rs ()))))=some ((0:Int),((0:Int),((0:Int),((0:Int),(y.1,nt n (bq n,(y.2.how,iR n (aM n V) (bk y.2.next,(y.2.ls,(y.2.rs,())))))))))):=af er rfl;exact af e2 (ao (aw (show ¬((0:Int)<0) by decide)) (e _ _ _ (show iQ (Int.ofNat (List.length (bk y.2.next))) 0=_ from by rw[hn])))
end
theorem DP{σ:Sh}{k x:Int}{v:σ.T}:∀(M:bS σ),dn (cu k v M) x=(decide (k=x)||dn M x)
 |[]=>by show(match decide (k=x)with|true=>true|false=>false)=(decide (k=x)||false);cases decide (k=x)<;>rfl
 |p::M=>by
  unfold cu;cases h1:decide (k<p.1)with
  |true=>show(match decide (k=x)with|true=>true|false=>dn (p::M) x)=_;cases decide (k=x)<;>rfl
  |false=>
   cases h2:decide (p.1=k)with
   |true=>have e:=of_decide_eq_true h2;show(match decide (k=x)with|true=>true|false=>dn M x)=(decide (k=x)||(match decide (p.1=x)with|true=>true|false=>dn M x));rw[e];cases decide (k=x)<;>rfl
   |false=>show(match decide (p.1=x)with|true=>true|false=>dn (cu k v M) x)=(decide (k=x)||(match decide (p.1=x)with|true=>true|false=>dn M x));rw[DP M];cases decide (p.1=x)<;>cases decide (k=x)<;>rfl
section
variable{n:au}{w bad V:Nat}(C:nc n w bad)
include C
theorem P4{ls:List Bool}(h:ls.length=w):dM n ls []=(0,ls):=by
 unfold dM;have hf:dO (aQ n) (ls,(([]:List (List aq.T)),()))=0:=by unfold dO;rw[jP,if_neg (fun q=>q C.ok),PB C h]
 rw[if_neg (fun q=>q hf),if_neg (by rw[Pk C];decide),C.mems];show((0:Int),ls++_)=_;simp
end
section
variable{n:au}{w bad V:Nat}(C:nc n w bad)(t:eY n V)
include C t
theorem aft(k:Nat)(hk:k<2^wid n):db (aQ n) ((bu n k).1,((bu n k).2,()))=true:=by rw[om C t k];exact PB C (eZ _ _)
theorem afu(k:Nat)(hk:k<2^wid n):dI n k=k:=by unfold dI;rw[om C t k];show bF (dM n (bh k w) []).2=k;rw[P4 C (eZ _ _)];show bF (bh k w)=k;rw[(vD C).2]at hk;rw[DB,Nat.mod_eq_of_lt hk]
theorem aeg(k:Nat):gk n k 0=dg n (bh k w) [] []:=by unfold gk;rw[om C t k,C.ins];rfl
theorem ama(p:Prop)[Decidable p]:idx [decide p]=if p then 0 else -1:=by
 by_cases h:p
 .rw[decide_eq_true h,if_pos h];rfl
 .rw[decide_eq_false h,if_neg h];rfl
theorem aeh(k:Nat):(bn n).nx k 0=(k+1) % 2^w/\(bn n).fi k 0=true/\(bn n).bd k 0=if k % 2^w=bad % 2^w then 0 else -1:=by
 obtain⟨h1,h2,h3⟩:=ac3 C t.hs t.ha k;have e:=aeg C t k;have em:d9 n (bu n k).2 (gk n k 0)=[]:=by rw[om C t k];unfold d9;exact List.zipWith_nil_right
 refine⟨?_,?_,?_⟩
 .show bF (dM n (dR n (gk n k 0)) (d9 n (bu n k).2 (gk n k 0))).2=_;rw[em,e,h1,P4 C (eZ _ _)];exact DB w (k+1)
 .show kM n (gk n k 0)=true;rw[e];exact h3
 .show idx (jr n (gk n k 0))=_;rw[e,h2];exact ama C t _
theorem P3{r:Nat}(hr:r=bad % 2^w)(hw:w<=8):∀j i (st:Int) (q:Qs),i+j=300->i<=r->q.next=[i]->(∀x:Nat,dn q.how (x:Int)=decide (x<=i)) ->
  ∃x,fw (jF n (bn n) 1) i j (st,q)=.inl (r,.inl x)
 |0,i,st,q,h1,h2,_,_=>by
  have a:r<2^w:=by rw[hr];exact Nat.mod_lt _ (Nat.two_pow_pos w)
  have b:=Nat.pow_le_pow_right (n:=2) (by omega) hw;omega
 |j+1,i,st,q,h1,h2,h3,h4=>by
  have a:r<2^w:=by rw[hr];exact Nat.mod_lt _ (Nat.two_pow_pos w)
  obtain⟨c1,c2,c3⟩:=aeh C t i;have q4:∀q0:Qs,lF n (bn n) 1 [i] q0=match(match ib n (bn n) i 0 q0 with|.inl q=>(Sum.inl (0,q):(Nat×Qs)⊕Qs)|.inr q=>.inr q)with|.inl r=>.inl (0,r)|.inr q=>.inr q:=by
   intro q0;unfold lF;show fw (sH n (bn n) 1 [i]) 0 1 q0=_;unfold fw;have e:sH n (bn n) 1 [i] 0 q0=(match ib n (bn n) i 0 q0 with|.inl q=>(Sum.inl (0,q):(Nat×Qs)⊕Qs)|.inr q=>.inr q):=by show fw (ib n (bn n) i) 0 1 q0=_;unfold fw;cases ib n (bn n) i 0 q0<;>rfl
   rw[e];cases ib n (bn n) i 0 q0<;>rfl
  have im:i % 2^w=i:=Nat.mod_eq_of_lt (by omega);by_cases hi:i=r
  .have eb:(bn n).bd i 0=0:=by rw[c3,if_pos (by rw[im,<-hr];exact hi)]
   have e7:∀q0:Qs,∃q1,ib n (bn n) i 0 q0=.inl q1:=by intro q0;unfold ib;rw[c2,eb];exact⟨_,rfl⟩
   obtain⟨q1,e7⟩:=e7 ⟨q.how,[],q.ls,q.rs⟩;have e4:=q4 ⟨q.how,[],q.ls,q.rs⟩;rw[e7]at e4;have es:∃x,jF n (bn n) 1 i (st,q)=.inl (.inl x):=by unfold jF;rw[h3,e4];exact⟨_,rfl⟩
   obtain⟨x,es⟩:=es;refine⟨x,?_⟩;unfold fw;rw[es,hi]
  .have eb:(bn n).bd i 0 = -1:=by rw[c3,if_neg (by rw[im,<-hr];exact hi)]
   have en:(bn n).nx i 0=i+1:=by rw[c1];exact Nat.mod_eq_of_lt (by omega)
   have hm:dn q.how ((i+1:Nat):Int)=false:=by rw[h4];exact decide_eq_false (by omega)
   have e7:∃q1,ib n (bn n) i 0 ⟨q.how,[],q.ls,q.rs⟩=.inr q1/\q1.next=[i+1]/\q1.how=cu (σ:=dD) ((i+1:Nat):Int) ((i:Int),(((0:Nat):Int),())) q.how:=by unfold ib;rw[c2,eb,en,show decide ((0:Int)<=-1)=false from rfl,hm];exact⟨_,rfl,rfl,rfl⟩
   obtain⟨q1,e7,n1,n2⟩:=e7;have e4:=q4 ⟨q.how,[],q.ls,q.rs⟩;rw[e7]at e4;have es:jF n (bn n) 1 i (st,q)=.inr ((q.how.length:Int),q1):=by unfold jF;rw[h3,e4];show(match decide ((q1.next.length:Int)=0)with|true=>_|false=>_)=_;rw[n1];rfl
   obtain⟨x,hx⟩:=P3 hr hw j (i+1) (q.how.length:Int) q1 (by omega) (by omega) n1 (fun x=>by
    rw[n2];refine(DP (σ:=dD) _).trans ?_;rw[h4];by_cases g:x<=i
    .rw[decide_eq_true g,Bool.or_true,decide_eq_true (by omega)]
    .rw[decide_eq_false g,Bool.or_false];by_cases g2:x=i+1
     .rw[decide_eq_true (by omega),decide_eq_true (by omega)]
     .rw[decide_eq_false (by omega),decide_eq_false (by omega)])
   refine⟨x,?_⟩;unfold fw;rw[es];exact hx
theorem aef:(dU n).next=[0]/\∀x:Nat,dn (dU n).how (x:Int)=decide (x<=0):=by
 have hL:eK n (2^wid n)=[0]:=O8 C t _ (Nat.two_pow_pos _) (by rw[(vD C).2];exact Nat.le_refl _);have hk:dI n 0=0:=afu C t 0 (Nat.two_pow_pos _);refine⟨?_,fun x=>?_⟩
 .show(eK n (2^wid n)).map (dI n)=[0];rw[hL];show[dI n 0]=[0];rw[hk]
 .show dn (mj n (eK n (2^wid n))) (x:Int)=_;rw[hL];show dn (cu (σ:=dD) ((dI n 0:Nat):Int) ((-1:Int),((0:Int),())) []) (x:Int)=_;refine(DP (σ:=dD) _).trans ?_;rw[hk];show(decide (((0:Nat):Int)=(x:Int))||false)=_;rw[Bool.or_false];by_cases g:x=0
  .rw[decide_eq_true (by omega),decide_eq_true (by omega)]
  .rw[decide_eq_false (by omega),decide_eq_false (by omega)]
theorem acd(ft:Fit n)(hw:w<=8):Ov (aQ n,((300:Int),()))=some ((true,(((bad % 2^w+1:Nat):Int),(false,((0:Int),())))),((0:Int),())):=by obtain⟨b1,b2⟩:=aef C t;obtain⟨x,hx⟩:=P3 C t rfl hw 300 0 0 (dU n) rfl (Nat.zero_le _) b1 b2;have e:=acP t ft (aft C t) (m:=1) (d:=300) (by rw[C.ins];rfl) (by omega);have hr:sD n (bn n) 1 300 (dU n)=.inl (bad % 2^w,.inl x):=hx;rw[hr]at e;exact e
end
set_option maxRecDepth 1000000
theorem aew{v:Nat}{l:Int}(h:0<=l/\l / 2<=(v:Int))(hv:v<=2000):bI l:=by obtain⟨h1,h2⟩:=h;unfold bI;omega
theorem aep{n:au}{V:Nat}(S:bo n V):Fit n:=by
 have hv:=S.v2;have hr:∀x∈bp n,bI x:=fun x hx=>by have:=S.rng x hx;unfold bI;omega
 have hl:∀x∈bG n,bI x:=fun x hx=>aew (S.lits x hx) hv;obtain⟨l1,l2,l3,l4,l5⟩:=S.lens;have hmem:∀m∈n.mems,∀x∈h9 m,bI x:=fun m hm x hx=>hl x (by unfold bG;simp only[List.mem_append,List.mem_flatMap];exact .inl (.inr ⟨m,hm,hx⟩));refine⟨by rw[S.vars];unfold bI;omega,⟨by omega,fun x hx=>hr x ?_⟩,⟨by omega,fun l h=>⟨hr _ ?_,hl _ ?_,?_⟩⟩,⟨by omega,fun x hx=>hl x ?_⟩,⟨by omega,fun x hx=>hl x ?_⟩,⟨by omega,fun x hx=>hl x ?_⟩,⟨by omega,fun m hm=>?_⟩,⟨by omega,fun a h=>⟨hr _ ?_,hl _ ?_,hl _ ?_⟩⟩⟩
 .unfold bp;simp only[List.mem_append];exact .inl (.inl (.inl hx))
 .unfold bp;simp only[List.mem_append,List.mem_map];exact .inl (.inl (.inr ⟨l,h,rfl⟩))
 .unfold bG;simp only[List.mem_append,List.mem_map];exact .inl (.inl (.inl (.inl (.inl ⟨l,h,rfl⟩))))
 .have:=S.init l h;unfold bI;omega
 .unfold bG;simp only[List.mem_append];exact .inl (.inl (.inl (.inl (.inr hx))))
 .unfold bG;simp only[List.mem_append];exact .inl (.inl (.inl (.inr hx)))
 .unfold bG;simp only[List.mem_append];exact .inl (.inl (.inr hx))
 .obtain⟨a1,a2,w1,w2,hrd,hwr,p1,p2⟩:=S.mems m hm;refine⟨⟨by unfold bI;omega,by omega⟩,by unfold bI;omega,by omega,by omega,fun r hr'=>?_,fun x hx=>?_⟩
  .have hd:r.var∈bp n:=by unfold bp;simp only[List.mem_append,List.mem_flatMap];refine .inl (.inr ⟨m,hm,?_⟩);unfold gD;refine List.mem_flatMap.2 ⟨r,hr',?_⟩;unfold bL;exact List.mem_map.2 ⟨0,List.mem_range.2 (by omega),by show r.var+((0:Nat):Int)=r.var;omega⟩
   have:=S.rng _ hd;have:=hrd r hr';refine⟨by omega,by omega,by omega,fun y hy=>hmem m hm y ?_⟩;unfold h9;exact List.mem_append_left _ (List.mem_flatMap.2 ⟨r,hr',hy⟩)
  .have hq:=hwr x hx;have hy:∀y∈j9 x,bI y:=fun y hy=>hmem m hm y (by unfold h9;exact List.mem_append_right _ (List.mem_flatMap.2 ⟨x,hx,hy⟩));unfold j9 at hy;exact⟨by omega,by omega,hy _ (List.mem_cons_self ..),fun y h=>hy y (List.mem_cons_of_mem _ (List.mem_append_left _ h)),fun y h=>hy y (List.mem_cons_of_mem _ (List.mem_append_right _ h))⟩
 .unfold bp;simp only[List.mem_append,List.mem_map];exact .inr ⟨a,h,rfl⟩
 .unfold bG;simp only[List.mem_append,List.mem_flatMap];exact .inr ⟨a,h,by simp[fJ]⟩
 .unfold bG;simp only[List.mem_append,List.mem_flatMap];exact .inr ⟨a,h,by simp[fJ]⟩
abbrev MG:List Sh:=[(.int .i64),(.int .u64)]
abbrev BF:List Sh:=[.bool]
abbrev ZV:=TL MG->Option (TL BF)
abbrev MH:=Kd 10 MG BF
def ZT(F0:Da)(F1:Dg)(F2:Nk)(a0 a1:Int):Option (TL BF):=
 br (iL a0 (1:Int))
 (
  ai (F2 ()) fun x0=>
  some (x0.1,()))
 (
  br (aR false true (iL (8:Int) a0))
  (
   ai (F2 ()) fun x0=>
   some (x0.1,()))
  (
   ai (F1 (a0,(a1,()))) fun x0=>
   ai (F0 ((x0.1.1,(x0.1.2.1,(x0.1.2.2.1,(x0.1.2.2.2.1,(x0.1.2.2.2.2.1,(x0.1.2.2.2.2.2.1,(x0.1.2.2.2.2.2.2.1,(x0.1.2.2.2.2.2.2.2.1,())))))))),((300:Int),()))) fun x1=>
   br (iQ x0.2.1 (0:Int))
   (
    br (aR true (iQ x1.2.1 (0:Int)) false)
    (
     br (aR true x1.1.1 false)
     (
      ah (iE (0:Int) (IntKind.wrap .u64 a0))<|
      ah (Bool.not (iQ (IntKind.wrap .u64 ((1:Int)*(HPow.hPow (2:Int) (Min.min (Int.toNat (IntKind.wrap .u64 a0)) 64)))) (0:Int)))<|
      br (aR true (iQ x1.1.2.1 (IntKind.wrap .i64 ((IntKind.wrap .i64 (Int.tmod a1 (IntKind.wrap .u64 ((1:Int)*(HPow.hPow (2:Int) (Min.min (Int.toNat (IntKind.wrap .u64 a0)) 64))))))+(1:Int)))) false)
      (
       ai (F2 ()) fun x2=>
       some ((aR true x2.1 false),()))
      (
       some (false,())))
     (
      some (false,())))
    (
     some (false,())))
   (
    some (false,()))))
def ZU(c0:vf)(c1:vg)(c2:Cf) :MH:=⟨u2 (ZT c0.F c1.F c2.F),pD Tryz.func10 52 (kD c0 (kD c1 (kD c2 k0))) e0 1 (sS l0) fun d=>by kernel_rfl⟩
def MI:MH:=ZU C9 Df Nj
def ZS:ZV:=MI.F
theorem amh{w:Nat}(h:w<=8):IntKind.wrap .u64 ((1:Int)*(HPow.hPow (2:Int) (Min.min (Int.toNat (IntKind.wrap .u64 (w:Int))) 64)))=((2^w:Nat):Int):=by have h2:(2:Nat)^w<=256:=Nat.pow_le_pow_right (n:=2) (by omega) h;have e:IntKind.wrap .u64 (w:Int)=(w:Int):=f8 (by omega);rw[e,Int.toNat_natCast,Nat.min_eq_left (by omega),Int.one_mul,DR];exact(show ∀N:Nat,N<=256->IntKind.wrap .u64 (N:Int)=(N:Int)from fun N h=>f8 (by omega)) _ h2
theorem abW(a b:Int)(ka:mN (.int .i64) a)(kb:mN (.int .u64) b):ZS (a,(b,()))=some (true,()):=by
 have hb:0<=b/\b<18446744073709551616:=by have k3:(decide (IntKind.min .u64<=b)&&decide (b<=IntKind.max .u64))=true:=kb;rw[Bool.and_eq_true,decide_eq_true_iff,decide_eq_true_iff]at k3;have h1:(0:Int)<=b:=k3.1;have h2:b<=18446744073709551615:=k3.2;omega
 by_cases h1:a<1
 .exact av (al h1) (af DC rfl)
 by_cases h2:8<a
 .refine ao (aw h1) (av ?_ (af DC rfl));have q:iL 8 a=true:=al h2;show aR false true (iL 8 a)=true;rw[q];rfl
 obtain⟨w,rfl⟩:∃w:Nat,a=(w:Int):=⟨a.toNat,by omega⟩;obtain⟨bad,rfl⟩:∃k:Nat,b=(k:Int):=⟨b.toNat,by omega⟩;have hw:w<=8:=by omega
 obtain⟨n,e1,C⟩:=ab0 (w:=w) (bad:=bad) (by omega) (by omega) (by omega);obtain⟨V,t⟩:=ac4 C (by omega);have ft:Fit n:=aep t.hs;have e2:=acd C t ft hw;have p:=amh hw;have hp:0<(2:Nat)^w:=Nat.two_pow_pos w;have h256:(2:Nat)^w<=256:=Nat.pow_le_pow_right (n:=2) (by omega) hw;have hm:=Nat.mod_lt bad hp;have q8:aR false true (iL 8 (w:Int))=false:=by have q:iL 8 (w:Int)=false:=aw h2;rw[q];rfl
 have c1:iE (0:Int) (IntKind.wrap .u64 (w:Int))=true:=by have e:IntKind.wrap .u64 (w:Int)=(w:Int):=f8 (by omega);rw[e];exact al (by omega)
 have c2:Bool.not (iQ (IntKind.wrap .u64 ((1:Int)*(HPow.hPow (2:Int) (Min.min (Int.toNat (IntKind.wrap .u64 (w:Int))) 64)))) 0)=true:=by rw[p];exact fg (aw (by omega))
 have c3:IntKind.wrap .i64 (IntKind.wrap .i64 (Int.tmod (bad:Int) (IntKind.wrap .u64 ((1:Int)*(HPow.hPow (2:Int) (Min.min (Int.toNat (IntKind.wrap .u64 (w:Int))) 64)))))+1)=((bad % 2^w+1:Nat):Int):=by rw[p];have e:Int.tmod (bad:Int) ((2^w:Nat):Int)=((bad % 2^w:Nat):Int):=rfl;rw[e,bf (show -9223372036854775808<=((bad % 2^w:Nat):Int)/\((bad % 2^w:Nat):Int)<=9223372036854775807 by omega)];exact aZ (by omega) (by omega)
 refine ao (aw h1) (ao q8 (af e1 (af e2 (av (al rfl) (av ?_ (av rfl (aj c1 (aj c2 (av ?_ (af DC rfl))))))))))
 .exact Ra (al rfl)
 .exact Ra (al c3.symm)
end Go.Proofs.YtkcpdpplobhpaaaGreat.V
end
