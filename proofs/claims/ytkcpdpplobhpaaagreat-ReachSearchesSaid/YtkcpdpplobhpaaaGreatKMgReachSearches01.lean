import Derived.Test.YtkcpdpplobhpaaaGreatKMgReachSearches00
set_option linter.unusedSectionVars false
set_option linter.unusedVariables false
set_option linter.unusedSimpArgs false
set_option linter.unnecessarySimpa false
section
namespace Go.Proofs.YtkcpdpplobhpaaaGreat.V
open Go Go.RowKit Go.Proofs.YtkcpdpplobhpaaaGreat.Pl
def wrV(val:Int->Bool)(ws:List nA)(a j:Nat)(b:Bool):Bool:=ws.foldl (fun x w=>if sc val w.on=true/\cF (w.addr.map (sc val))=a then sc val (li w.data j)else x) b
def lz:dY:=⟨0,0,0⟩
def la(L:List dY)(p:Nat):dY:=L.getD p lz
def ajg(L:List bP):Nat:=L.foldl (fun a m=>a+(iY m+10*iY m*(m.reads.length+m.writes.length))) 0
structure Jm(n:aD)(V k:Nat)(s:Mk)(L:List dY)(cv:Nat->Nat):Prop where
 lo:V<=s.v
 hi:s.v<=V+ajg (n.aa.take k)
 new:∃N:List fT,s.a=n.aP++N/\(L.map (·.var)++N.map (·.var)).Perm (n.ax.map (·.var)++((n.aa.take k).flatMap om++fr V s.v)) /\
  ∀x∈N,(sO s.v x.a/\sO s.v x.b)/\(x.var∈(n.aa.take k).flatMap om\/(x.a / 2<x.var/\x.b / 2<x.var))
 len:L.length=n.ax.length+ez n k
 old:∀p,p<n.ax.length->la L p=la n.ax p
 nx:∀p,p<L.length->sO s.v (la L p).next
 cell:∀(i:Nat) (M:bP),i<k->n.aa[i]?=some M->V<=cv i/\cv i+iY M<=s.v/\∀q,q<iY M->(la L (n.ax.length+ez n i+q)).var=((cv i+1+q:Nat):Int)/\(la L (n.ax.length+ez n i+q)).init=(if M.any then 2 else 0)
 rd:∀val,Sat val s.a->∀(i:Nat) (M:bP),i<k->n.aa[i]?=some M->∀r∈M.reads,∀j:Nat,j<M.word.toNat->val (r.var+(j:Int))=val ((cv i+1+(cF (r.addr.map (sc val))*M.word.toNat+j):Nat):Int)
 wr:∀val,Sat val s.a->∀(i:Nat) (M:bP),i<k->n.aa[i]?=some M->∀a,a<2^M.addr.toNat->∀j,j<M.word.toNat->sc val (la L (n.ax.length+ez n i+(a*M.word.toNat+j))).next=wrV val M.writes a j (val ((cv i+1+(a*M.word.toNat+j):Nat):Int))
 clo:∀G,Clo G s.a->(∀(i:Nat) (M:bP),i<k->n.aa[i]?=some M->∀q,q<iY M->G ((cv i+1+q:Nat):Int))->∀(i:Nat) (M:bP),i<k->n.aa[i]?=some M->∀r∈M.reads,(∀x∈r.addr,GL G x)->∀j:Nat,j<M.word.toNat->G (r.var+(j:Int))
set_option maxRecDepth 10000
section
variable{n:aD}(ls:List Bool)(cs:List (List aN))(hcs:cs.length=n.aa.length)
include hcs
theorem UU:∀k,k<=n.aa.length->(jk n ls cs k).length=ls.length+ez n k
 |0,_=>by
  have:jk n ls cs 0=ls:=by unfold jk;simp
  rw[this];rfl
 |k+1,h=>by have hm:=aT (show k<n.aa.length by omega);have hc:=aT (show k<cs.length by omega);rw[zD n ls cs hm hc,aW,UU k (by omega),zB,IF n hm];unfold iY;omega
end
theorem vn(k:Nat):(2:Int)^k=((2^k:Nat):Int):=by push_cast;rfl
abbrev lY:=dp gj
structure fb where
 nx:Nat->Nat->Nat
 fi:Nat->Nat->Bool
 bd:Nat->Nat->Int
 ls:Nat->Nat->List Bool
 cs:Nat->Nat->List (List aN)
structure Qs where
 how:lY
 next:List Nat
 ls:List Bool
 rs:List dB
def cz(l:List Nat):List Int:=l.map (fun k:Nat=>(k:Int))
def n4(n:aD)(c:fb)(k y:Nat)(q:Qs):Qs⊕Qs:=match c.fi k y with|false=>.inr ⟨q.how,q.next,c.ls k y,bX n (c.cs k y)⟩|true=>match decide (0<=c.bd k y)with|true=>.inl ⟨q.how,q.next,c.ls k y,bX n (c.cs k y)⟩|false=>match dI q.how (c.nx k y:Int)with|true=>.inr ⟨q.how,q.next,c.ls k y,bX n (c.cs k y)⟩|false=>.inr ⟨dR (c.nx k y:Int) ((k:Int),((y:Int),())) q.how,q.next++[c.nx k y],c.ls k y,bX n (c.cs k y)⟩
def fy{Q R:Type}(stp:Nat->Q->R⊕Q):Nat->Nat->Q->(Nat×R)⊕Q
 |_,0,q=>.inr q|i,j+1,q=>match stp i q with|.inl r=>.inl (i,r)|.inr q=>fy stp (i+1) j q
def xe{D O Q R:Type}(f:Q->D)(g:R->O):R⊕Q->Option (D⊕O)
 |.inl r=>some (.inr (g r))|.inr q=>some (.inl (f q))
def mh{O Q R:Type}(g:R->O)(z:Q->O):R⊕Q->O
 |.inl r=>g r|.inr q=>z q
theorem sM{D O Q R:Type}{B:D->Option (D⊕O)}(stp:Nat->Q->R⊕Q)(f:Nat->Q->D)(g:Nat->R->O)(z:Q->O)(I:Nat->Q->Prop)(n:Nat)
  (hi:∀i q,i<n->I i q->(∃r,stp i q=.inl r)\/∃q2,stp i q=.inr q2/\I (i+1) q2)
  (he:∀q,I n q->B (f n q)=some (.inr (z q)))
  (hs:∀i q,i<n->I i q->B (f i q)=xe (f (i+1)) (g i) (stp i q)) :
  ∀j i q,i+j=n->I i q->∀N,j<N->aQ B N (f i q)=some (mh (fun r=>g r.1 r.2) z (fy stp i j q))
 |0,i,q,hj,h,N,hN=>by
  obtain⟨N,rfl⟩:∃M,N=M+1:=⟨N-1,by omega⟩;obtain rfl:i=n:=by omega
  simp only[aQ,he q h,fy,mh]
 |j+1,i,q,hj,h,N,hN=>by
  obtain⟨N,rfl⟩:∃M,N=M+1:=⟨N-1,by omega⟩;have e2:=hs i q (by omega) h;rcases hi i q (by omega) h with⟨r,e1⟩|⟨q2,e1,h2⟩
  .rw[e1]at e2;simp only[aQ,e2,fy,e1,xe,mh]
  .rw[e1]at e2;simp only[aQ,e2,fy,e1,xe];exact sM stp f g z I n hi he hs j (i+1) q2 (by omega) h2 N (by omega)
theorem pA{Q R:Type}{stp:Nat->Q->R⊕Q}(I:Nat->Q->Prop)(J:Nat->R->Prop)(n:Nat)
  (hs:∀i q,i<n->I i q->(∃r,stp i q=.inl r/\J i r)\/∃q2,stp i q=.inr q2/\I (i+1) q2) :
  ∀j i q,i+j=n->I i q->(∃r,fy stp i j q=.inl r/\r.1<n/\J r.1 r.2)\/∃q2,fy stp i j q=.inr q2/\I n q2
 |0,i,q,hi,h=>by
  obtain rfl:i=n:=by omega
  exact .inr ⟨q,rfl,h⟩
 |j+1,i,q,hi,h=>by
  rcases hs i q (by omega) h with⟨r,e1,e2⟩|⟨q2,e1,h2⟩
  .exact .inl ⟨(i,r),by simp only[fy,e1],by show i<n;omega,e2⟩
  .simp only[fy,e1];exact pA I J n hs j (i+1) q2 (by omega) h2
def qw(n:aD)(c:fb)(m k:Nat)(q:Qs):(Nat×Qs)⊕Qs:=fy (n4 n c k) 0 m q
def DZ(n:aD)(c:fb)(m:Nat)(l:List Nat)(i:Nat)(q:Qs):(Nat×Qs)⊕Qs:=qw n c m (l.getD i 0) q
def pw(n:aD)(c:fb)(m:Nat)(l:List Nat)(q:Qs):(Nat×Nat×Qs)⊕Qs:=fy (DZ n c m l) 0 l.length q
abbrev Pg:=Nat×Nat×Qs
def lG(n:aD)(c:fb)(m _:Nat)(q:Int×Qs):(Pg×List Nat⊕Int×Qs)⊕(Int×Qs):=match pw n c m q.2.next ⟨q.2.how,[],q.2.ls,q.2.rs⟩with|.inl r=>.inl (.inl (r,q.2.next))|.inr q2=>match decide ((q2.next.length:Int)=0)with|true=>.inl (.inr ((q.2.how.length:Int),q2))|false=>.inr ((q.2.how.length:Int),q2)
def DV(n:aD)(c:fb)(m d:Nat)(q:Qs):=fy (lG n c m) 0 d ((0:Int),q)
structure fe(W:Nat)(q:Qs):Prop where
 j3:q.how.Pairwise (fun a b=>a.1<b.1)
 key:∀p∈q.how,0<=p.1/\p.1<(W:Int)
 len:q.next.length<=q.how.length+1024
 fJ:∀k∈q.next,k<W
theorem IP{α:Type}:∀(M:List (Int×α)) (a W:Int),a<=W->M.Pairwise (fun a b=>a.1<b.1)->(∀p∈M,a<=p.1/\p.1<W)->(M.length:Int)<=W-a
 |[],a,W,h,_,_=>by simp;omega|p::M,a,W,h,hs,hk=>by have h1:=hk p (List.mem_cons_self ..);have hs:=List.pairwise_cons.1 hs;have:=IP M (p.1+1) W (by omega) hs.2 (fun q hq=>⟨by have:=hs.1 q hq;omega,(hk q (List.mem_cons_of_mem _ hq)).2⟩);rw[ca];push_cast;omega
theorem fe.many{W:Nat}{q:Qs}(h:fe W q):q.how.length<=W:=by have:=IP q.how 0 (W:Int) (by omega) h.j3 h.key;omega
theorem ID{σ:Sh}{k:Int}:∀{M:dp σ},dI M k=false->∀p∈M,p.1≠k
 |[],_,p,hp=>nomatch hp
 |q::M,h,p,hp=>by
  unfold dI at h;by_cases e:q.1=k
  .rw[bg e]at h;cases h
  .rw[bU e]at h;rcases List.mem_cons.1 hp with rfl|hp
   .exact e
   .exact ID h p hp
theorem afI{σ:Sh}{k:Int}{v:σ.T}{M:dp σ}(h:dI M k=false):(dR k v M).length=M.length+1:=by rw[(UL (ID h)).length_eq,aW];rfl
theorem Vc{n:aD}{c:fb}{W k y:Nat}{q:Qs}(hn:c.nx k y<W)(h:fe W q):(∃q2,n4 n c k y q=.inl q2/\fe W q2)\/∃q2,n4 n c k y q=.inr q2/\fe W q2:=by
 unfold n4;cases c.fi k y with
 |false=>exact .inr ⟨_,rfl,⟨h.j3,h.key,h.len,h.fJ⟩⟩|true=>
  cases decide (0<=c.bd k y)with
  |true=>exact .inl ⟨_,rfl,⟨h.j3,h.key,h.len,h.fJ⟩⟩|false=>
   cases hm:dI q.how (c.nx k y:Int)with
   |true=>exact .inr ⟨_,rfl,⟨h.j3,h.key,h.len,h.fJ⟩⟩|false=>
    refine .inr ⟨_,rfl,⟨yi h.j3,fun p hp=>?_,?_,fun j hj=>?_⟩⟩
    .rcases IG hp with e|e
     .rw[e];omega
     .exact h.key p e
    .have e:=afI (σ:=gj) (v:=((k:Int),((y:Int),()))) hm;have hl:=h.len;have e2:(q.next++[c.nx k y]).length=q.next.length+1:=aW;exact Nat.le_trans (Nat.le_of_eq e2) (Nat.le_trans (by omega:q.next.length+1<=(q.how.length+1)+1024) (Nat.le_of_eq (congrArg (·+1024) e.symm)))
    .rcases List.mem_append.1 hj with e|e
     .exact h.fJ j e
     .rw[List.mem_singleton.1 e];exact hn
theorem IW{n:aD}{c:fb}{W m k:Nat}{q:Qs}(hn:∀y,y<m->c.nx k y<W)(h:fe W q):(∃r,qw n c m k q=.inl r/\r.1<m/\fe W r.2)\/∃q2,qw n c m k q=.inr q2/\fe W q2:=pA (fun _ q=>fe W q) (fun _ q=>fe W q) m (fun i q hi h=>Vc (hn i hi) h) m 0 q (by omega) h
theorem U2{W:Nat}{l:List Nat}(hl:∀k∈l,k<W){i:Nat}(hi:i<l.length):l.getD i 0<W:=by rw[dC,aT hi];exact hl _ (List.getElem_mem hi)
theorem zL{n:aD}{c:fb}{W m:Nat}(hn:∀k y,k<W->y<m->c.nx k y<W){l:List Nat}{q:Qs}(hl:∀k∈l,k<W)(h:fe W q):(∃r,pw n c m l q=.inl r/\r.1<l.length/\r.2.1<m/\fe W r.2.2)\/∃q2,pw n c m l q=.inr q2/\fe W q2:=pA (fun _ q=>fe W q) (fun _ (r:Nat×Qs)=>r.1<m/\fe W r.2) l.length (fun i q hi h=>IW (fun y hy=>hn _ y (U2 hl hi) hy) h) l.length 0 q (by omega) h
def ki(n:aD)(k y:Nat):List Bool:=mn n (bS n k).1 (bS n k).2 (di y n.aM.length)
def bW(n:aD):fb where
 nx k y:=cF (iC n (fR n (ki n k y)) (fS n (bS n k).2 (ki n k y))).2
 fi k y:=nN n (ki n k y)
 bd k y:=idx (mM n (ki n k y))
 ls k y:=fR n (ki n k y)
 cs k y:=fS n (bS n k).2 (ki n k y)
section
variable{n:aD}{V:Nat}(hs:cO n V)
include hs
theorem VA{K:Nat}{ls:List Bool}{cs:List (List aN)}(ok:jF n K ls cs):px cs:=by
 intro c hc i hi;obtain⟨j,hj⟩:=List.getElem?_of_mem (show(c:List aN)∈cs from hc);have hjl:=dL hj;have hcl:cs.length=n.aa.length:=ok.mG;have hjm:j<n.aa.length:=Nat.lt_of_lt_of_le hjl (Nat.le_of_eq hcl);have hm:=aT hjm;have ko:=ok.ok j _ _ hm hj;obtain⟨m1,m2,m3,m4,_⟩:=hs.aa _ (List.getElem_mem hjm);have hp:(c:List aN)[i]?=some ((c:List aN)[i]'hi):=aT hi;obtain⟨e1,e2⟩:=tF hp;have h1:=ko.at_ _ (dn hp);have h2:=ko.wd _ (dn hp);have b:∀(x:Int) (k:Nat),x<2^k->k<=64->x<=18446744073709551615:=by intro x k hx hk;rw[vn]at hx;have:=Nat.pow_le_pow_right (n:=2) (by omega) hk;have e:(2:Nat)^64=18446744073709551616:=rfl;omega
 rw[e1,e2];exact⟨⟨h1.1,b _ _ h1.2 (by omega)⟩,⟨by omega,b _ _ h2.2 (by omega)⟩⟩
end
section
variable{n:aD}{V:Nat}(t:iS n V)
include t
theorem qK{ls:List Bool}(cs:List (List aN))(hls:ls.length=n.ax.length):(iC n ls cs).2.length<=wid n:=by
 unfold iC;by_cases h0:j5 (bz n) (ls,(cs,()))=0
 .rw[if_neg (fun q=>q h0)];by_cases h1:64<dT n
  .rw[if_pos h1];exact Nat.zero_le _
  .rw[if_neg h1];have hf:=(VX h0).2;unfold gk at hf;simp only[Bool.and_eq_true,decide_eq_true_eq]at hf;have hcs:cs.length=n.aa.length:=hf.1.2.trans (aO ..);have:=UU ls cs hcs n.aa.length (Nat.le_refl _);have h2:=t.off;have h3:ez n n.aa.length=na n.aa:=by unfold ez;rw[dt]
   show(jk n ls cs n.aa.length).length<=_;omega
 .rw[if_pos h0];exact Nat.zero_le _
theorem VW(k y:Nat):((bW n).ls k y).length=n.ax.length:=by show(fR n _).length=_;unfold fR;rw[aO]
theorem oG(k y:Nat):(bW n).nx k y<2^wid n:=by have h:=qK t (fS n (bS n k).2 (ki n k y)) (VW t k y);have h2:=mg (iC n (fR n (ki n k y)) (fS n (bS n k).2 (ki n k y))).2;have h3:=Nat.pow_le_pow_right (n:=2) (by omega) h;exact Nat.lt_of_lt_of_le h2 h3
end
theorem U5{n:aD}{V:Nat}(t:iS n V):IntKind.wrap .i64 ((1:Int)*(HPow.hPow (2:Int) (Min.min (Int.toNat (Int.ofNat n.aM.length)) 64)))=((2^n.aM.length:Nat):Int):=by have hi:=t.ins;have h64:(2:Nat)^n.aM.length<=64:=Nat.pow_le_pow_right (n:=2) (by omega) (show n.aM.length<=6 from hi);have e:Int.toNat (Int.ofNat n.aM.length)=n.aM.length:=Int.toNat_natCast _;rw[e,Nat.min_eq_left (by omega),Int.one_mul,vn];exact(show ∀N:Nat,N<=64->IntKind.wrap .i64 (N:Int)=(N:Int)from fun N h=>bZ (by omega)) _ h64
theorem ahG{l:List Nat}{i:Nat}(hi:i<l.length):gt (.int .i64) (cz l) (i:Int)=((l.getD i 0:Nat):Int):=by
 have e:(cz l)[i]?=some ((l.getD i 0:Nat):Int):=by unfold cz;rw[cg,dC,aT hi];rfl
 exact aZ (σ:=.int .i64) e
section
variable{n:aD}{V:Nat}(t:iS n V)(ft:Fit n)(hf:∀k,k<2^wid n->gk (bz n) ((bS n k).1,((bS n k).2,()))=true)
include t hf
theorem ai8{k:Nat}(hk:k<2^wid n)(y:Nat):jF n 4096 (bS n k).1 (bS n k).2/\jF n 4100 ((bW n).ls k y) ((bW n).cs k y):=by have h:=apm (hf k hk) (Jh t k);exact⟨h,acS t.hs h _⟩
include ft
def R5(n:aD)(V:Nat)(now:List Int)(k y:Nat)(r:Qs):Out sj:=.inl ((bW n).bd k y,(true,nt n (cS n,(r.how,(now,mc n (aX n V) r.ls r.rs ((k:Int),((y:Int),())))))))
def R4(n:aD)(V:Nat)(now:List Int)(t21 t22 b80 b81:Int)(q:Qs):Out sj:=.inr (t21,(t22,nt n (cS n,(q.how,(now,mc n (aX n V) q.ls q.rs (b80,(b81,(cz q.next,()))))))))
theorem apH{k m:Nat}(hk:k<2^wid n)(hm:m=2^n.aM.length)(now:List Int)(t21 t22 b80 b81:Int){q:Qs}(h:fe (2^wid n) q) :
  yY ((k:Int),(t21,(t22,((m:Int),((0:Int),nt n (cS n,(q.how,(now,mc n (aX n V) q.ls q.rs (b80,(b81,(cz q.next,()))))))))))) =
   some (mh (fun r:Nat×Qs=>R5 n V now k r.1 r.2) (R4 n V now t21 t22 b80 b81) (qw n (bW n) m k q)):=by
 have hp:=kO t;have hw:=t.oC;have hi:=t.ins;have hm64:m<=64:=by rw[hm];exact Nat.pow_le_pow_right (n:=2) (by omega) (show n.aM.length<=6 from hi)
 unfold qw;unfold yY;refine sM (n4 n (bW n) k) (fun(y:Nat) (q:Qs)=>((k:Int),(t21,(t22,((m:Int),((y:Int),nt n (cS n,(q.how,(now,mc n (aX n V) q.ls q.rs (b80,(b81,(cz q.next,()))))))))))))
  (R5 n V now k) (R4 n V now t21 t22 b80 b81)
  (fun _ q=>fe (2^wid n) q) m ?_ ?_ ?_ m 0 q (by omega) h NN (bt (by omega))
 .intro y q hy h;rcases Vc (n:=n) (oG t k y) h with⟨r,e,_⟩|⟨q2,e,h2⟩
  .exact .inl ⟨r,e⟩
  .exact .inr ⟨q2,e,h2⟩
 .intro q h;exact ag (aA (show ¬(m:Int)<(m:Int) by omega)) rfl
 .intro y q hy h;obtain⟨ok1,ok2⟩:=ai8 t hf hk y;have sl:=sN t k;have hml:=h.many;have hln:=h.len;have e1:mV (IntKind.wrap .u64 (k:Int),(cS n,()))=some (di k (wid n),()):=by rw[Jc (by omega),t.wd];exact vk k (wid n) (by omega) (by omega)
  have e2:=(Iz t ft (k:=k) (by omega)).1;have e3:=ahP ft (aX n V) q.ls (bS n k).1 q.rs (bS n k).2 sl.2.1 (hf k hk) (by have:=t.hs.lens.2.1;omega);have e4:mV (IntKind.wrap .u64 (y:Int),(Int.ofNat n.aM.length,()))=some (di y n.aM.length,()):=by rw[jU (by omega)];exact vk y n.aM.length (by omega) (by omega)
  have e5:=agN t.hs ft (by omega) (bS n k).1 (di y n.aM.length) (bS n k).2 ok1 (kS _ _);have e6:=agJ t.hs (aX n V) (by omega) ok2;have e7:=(Iy ft ((bW n).ls k y) ((bW n).cs k y) (VA t.hs ok2) (by have:=ok2.qx;have:=t.hs.lens.2.1;omega) (fun c hc=>Nat.le_trans (UF ok2 c hc) (by omega))).1;have hl8:=qK t ((bW n).cs k y) (VW t k y);have e8:=Il (iC n ((bW n).ls k y) ((bW n).cs k y)).2 (by omega);have e9:=ao8 (mM n (ki n k y)) (by rw[Uw];have:=t.hs.lens.2.2.2.1;omega);have hnx:=oG t k y;have ew:IntKind.wrap .i64 ((cF (iC n ((bW n).ls k y) ((bW n).cs k y)).2:Nat):Int)=(((bW n).nx k y:Nat):Int):=bZ (by show -9223372036854775808<=(((bW n).nx k y:Nat):Int)/\(((bW n).nx k y:Nat):Int)<=_;omega);have hy1:IntKind.wrap .i64 ((y:Int)+1)=((y+1:Nat):Int):=bG (x:=(y:Int)+1) (n:=y+1) (by omega) (by omega);refine ao (ak (show(y:Int)<(m:Int) by omega)) (af e1 (af e2 (ai (ak rfl) (af e3 (af e4 (af e5 (ai (ak rfl) (af e6 (ai (zG _) (af e7 (ai (ak rfl) (af e8 (ai (zG _) (af e9 ?_))))))))))))));have e:∀(p q:Int) (H H':lY) (L L':List Int) (A:List Bool) (R:List dB),p=q->H=H'->L=L'->(some (.inl ((k:Int),(t21,(t22,((m:Int),(p,nt n (cS n,(H,(now,mc n (aX n V) A R (b80,(b81,(L,())))))))))))):Option (TL yS.σs⊕Out sj))=some (.inl ((k:Int),(t21,(t22,((m:Int),(q,nt n (cS n,(H',(now,mc n (aX n V) A R (b80,(b81,(L',())))))))))))):=by rintro _ _ _ _ _ _ _ _ rfl rfl rfl;rfl
  unfold n4;cases hfi:(bW n).fi k y with
  |false=>exact ao (fZ hfi) (e _ _ _ _ _ _ _ _ hy1 rfl rfl)|true=>
   refine ag (dH hfi) ?_;by_cases hb:0<=(bW n).bd k y
   .rw[bg hb];exact ao (ak hb) rfl
   .rw[bU hb];refine ag (aA hb) ?_;cases hh:dI q.how (((bW n).nx k y:Nat):Int)with
    |true=>exact ag (dH (by rw[ew];exact hh)) (e _ _ _ _ _ _ _ _ hy1 rfl rfl)|false=>
     have hnl:(cz q.next).length<=2048:=by unfold cz;rw[aO];omega
     refine ao (fZ (by rw[ew];exact hh)) (ai (pj (a:=8) (L:=cz q.next) (x:=IntKind.wrap .i64 ((cF (iC n ((bW n).ls k y) ((bW n).cs k y)).2:Nat):Int)) (by omega) (by omega)) (e _ _ _ _ _ _ _ _ hy1 ?_ ?_))
     .exact congrArg (fun z:Int=>dR (σ:=gj) z ((k:Int),((y:Int),())) q.how) ew
     .rw[ew];unfold cz;rw[dV];rfl
def RW(n:aD)(V:Nat)(now:List Nat)(i:Nat)(r:Nat×Qs):Out si:=.inl ((bW n).bd (now.getD i 0) r.1,(true,nt n (cS n,(r.2.how,(cz now,mc n (aX n V) r.2.ls r.2.rs (((now.getD i 0:Nat):Int),((r.1:Int),())))))))
def RU(n:aD)(V:Nat)(now:List Nat)(q:Qs):Out si:=.inr (nt n (cS n,(q.how,(cz now,mc n (aX n V) q.ls q.rs ((0:Int),((0:Int),(cz q.next,())))))))
def lQ{α:Type}(n:aD)(ord:List (bH×bF))(r:α):=nt n (ord.map (fun x=>dE x.1),r)
theorem apG{m:Nat}(hm:m=2^n.aM.length){now:List Nat}(hl:∀k∈now,k<2^wid n)(hln:now.length<=2048){q:Qs}(h:fe (2^wid n) q) :
  G7 ((now.length:Int),((0:Int),nt n (cS n,(q.how,(cz now,mc n (aX n V) q.ls q.rs ((0:Int),((0:Int),(cz q.next,())))))))) =
   some (mh (fun r:Nat×Nat×Qs=>RW n V now r.1 r.2) (RU n V now) (pw n (bW n) m now q)):=by
 have hnl:(cz now).length=now.length:=by unfold cz;rw[aO]
 unfold pw;unfold G7;refine sM (DZ n (bW n) m now) (fun(i:Nat) (q:Qs)=>((now.length:Int),((i:Int),nt n (cS n,(q.how,(cz now,mc n (aX n V) q.ls q.rs ((0:Int),((0:Int),(cz q.next,())))))))))
  (RW n V now) (RU n V now)
  (fun _ q=>fe (2^wid n) q) now.length ?_ ?_ ?_ now.length 0 q (by omega) h NN (bt (by omega))
 .intro i q hi h;rcases IW (n:=n) (c:=bW n) (m:=m) (k:=now.getD i 0) (fun y _=>oG t _ y) h with⟨r,e,_⟩|⟨q2,e,h2⟩
  .exact .inl ⟨r,e⟩
  .exact .inr ⟨q2,e,h2⟩
 .intro q h;exact ag (aA (show ¬(now.length:Int)<(now.length:Int) by omega)) rfl
 .intro i q hi h;have e7:=apH t ft hf (U2 hl hi) hm (cz now) (now.length:Int) (i:Int) 0 0 h;have g:=ahG hi;have hmi:=U5 t;rw[<-hm]at hmi;have e7':∀(a b:Int),a=((now.getD i 0:Nat):Int)->b=(m:Int)->yY (a,((now.length:Int),((i:Int),(b,((0:Int),nt n (cS n,(q.how,(cz now,mc n (aX n V) q.ls q.rs ((0:Int),((0:Int),(cz q.next,())))))))))))=some (mh (fun r:Nat×Qs=>R5 n V (cz now) (now.getD i 0) r.1 r.2) (R4 n V (cz now) (now.length:Int) (i:Int) 0 0) (qw n (bW n) m (now.getD i 0) q)):=by rintro _ _ rfl rfl;exact e7
  refine ao (ak (show(i:Int)<(now.length:Int) by omega)) (ai (show aq (i:Int) (List.length (cz now))=true from aK ⟨by omega,by omega⟩) (af (e7' _ _ g hmi) ?_));have hi1:IntKind.wrap .i64 ((i:Int)+1)=((i+1:Nat):Int):=bG (x:=(i:Int)+1) (n:=i+1) (by omega) (by omega);have e:∀(p q:Int) (H:lY) (L:List Int) (A:List Bool) (R:List dB),p=q->(some (.inl ((now.length:Int),(p,nt n (cS n,(H,(cz now,mc n (aX n V) A R ((0:Int),((0:Int),(L,()))))))))):Option (TL yR.σs⊕Out si))=some (.inl ((now.length:Int),(q,nt n (cS n,(H,(cz now,mc n (aX n V) A R ((0:Int),((0:Int),(L,()))))))))):=by rintro _ _ _ _ _ _ rfl;rfl
  unfold DZ;rcases IW (n:=n) (c:=bW n) (m:=m) (k:=now.getD i 0) (fun y _=>oG t _ y) h with⟨r,e1,_⟩|⟨q2,e1,h2⟩
  .rw[e1];rfl
  .rw[e1];exact e _ _ _ _ _ _ hi1
theorem af1{m:Nat}(hm:m=2^n.aM.length){q:Qs}(h:fe (2^wid n) q) :
  S8 (nt n (cS n,(q.how,(cz q.next,mc n (aX n V) q.ls q.rs ())))) =
   some (mh (fun r:Nat×Nat×Qs=>(((q.next.getD r.1 0:Nat):Int),((r.2.1:Int),((bW n).bd (q.next.getD r.1 0) r.2.1,(true,nt n (cS n,(r.2.2.how,lQ n (aX n V) (cz q.next,(r.2.2.ls,(r.2.2.rs,()))))))))))
    (fun q:Qs=>((0:Int),((0:Int),((0:Int),(false,nt n (cS n,(q.how,lQ n (aX n V) (cz q.next,(q.ls,(q.rs,())))))))))) (pw n (bW n) m q.next ⟨q.how,[],q.ls,q.rs⟩)):=by
 have hp:=kO t;have h0:fe (2^wid n) ⟨q.how,[],q.ls,q.rs⟩:=⟨h.j3,h.key,Nat.zero_le _,fun k hk=>nomatch hk⟩;have e4:=apG t ft hf hm h.fJ (by have:=h.len;have:=h.many;omega) h0;have hnl:Int.ofNat (List.length (cz q.next))=(q.next.length:Int):=by unfold cz;rw[aO];rfl
 have e4':∀a:Int,a=(q.next.length:Int)->G7 (a,((0:Int),nt n (cS n,(q.how,(cz q.next,mc n (aX n V) q.ls q.rs ((0:Int),((0:Int),([],()))))))))=some (mh (fun r:Nat×Nat×Qs=>RW n V q.next r.1 r.2) (RU n V q.next) (pw n (bW n) m q.next ⟨q.how,[],q.ls,q.rs⟩)):=by rintro _ rfl;exact e4
 refine af (e4' _ hnl) ?_;rcases zL (n:=n) (c:=bW n) (m:=m) (fun k y _ _=>oG t k y) h.fJ h0 with⟨r,e1,_⟩|⟨q2,e1,h2⟩
 .rw[e1];rfl
 .rw[e1];rfl
theorem ahY{m:Nat}{q:Int×Qs}(h:fe (2^wid n) q.2)(i:Nat):(∃r,lG n (bW n) m i q=.inl r)\/∃q2,lG n (bW n) m i q=.inr q2/\fe (2^wid n) q2.2:=by
 have h0:fe (2^wid n) ⟨q.2.how,[],q.2.ls,q.2.rs⟩:=⟨h.j3,h.key,Nat.zero_le _,fun k hk=>nomatch hk⟩;unfold lG;rcases zL (n:=n) (c:=bW n) (m:=m) (fun k y _ _=>oG t k y) h.fJ h0 with⟨r,e1,_⟩|⟨q2,e1,h2⟩
 .rw[e1];exact .inl ⟨_,rfl⟩
 .rw[e1]
  try dsimp only
  cases decide ((q2.next.length:Int)=0)with|true=>exact .inl ⟨_,rfl⟩|false=>exact .inr ⟨_,rfl,h2⟩
abbrev Ak(n:aD)(V i:Nat)(r:Pg×List Nat⊕Int×Qs):Out sr:=match r with|.inl x=>.inl ((bW n).bd (x.2.getD x.1.1 0) x.1.2.1,(((i+1:Nat):Int),((0:Int),nt n (cS n,(x.1.2.2.how,lQ n (aX n V) (cz x.2,(x.1.2.2.ls,(x.1.2.2.rs,(((x.2.getD x.1.1 0:Nat):Int),((x.1.2.1:Int),()))))))))))|.inr y=>.inr (y.1,nt n (cS n,(y.2.how,lQ n (aX n V) (cz y.2.next,(y.2.ls,(y.2.rs,((0:Int),((0:Int),()))))))))
theorem aip{m d:Nat}(hm:m=2^n.aM.length)(hd:d<=100000){q:Qs}(h:fe (2^wid n) q) :
  Tv ((0:Int),((d:Int),((0:Int),nt n (cS n,(q.how,lQ n (aX n V) (cz q.next,(q.ls,(q.rs,((0:Int),((0:Int),())))))))))) =
   some (mh (fun r=>Ak n V r.1 r.2) (fun q=>Ak n V 0 (.inr q)) (DV n (bW n) m d q)):=by
 have hp:=kO t;unfold DV;unfold Tv;refine sM (lG n (bW n) m) (fun(i:Nat) (q:Int×Qs)=>(q.1,((d:Int),((i:Int),nt n (cS n,(q.2.how,lQ n (aX n V) (cz q.2.next,(q.2.ls,(q.2.rs,((0:Int),((0:Int),())))))))))))
  (fun(i:Nat) r=>Ak n V i r) (fun q=>Ak n V 0 (.inr q))
  (fun _ q=>fe (2^wid n) q.2) d ?_ ?_ ?_ d 0 ((0:Int),q) (by omega) h NN (bt (by omega))
 .intro i q hi h;exact ahY t ft hf h i
 .intro q h;exact ag (aA (show ¬(d:Int)<(d:Int) by omega)) rfl
 .intro i q hi h;obtain⟨st,q⟩:=q;have e4:=af1 t ft hf hm h;refine ao (ak (show(i:Int)<(d:Int) by omega)) (af e4 ?_);have h0:fe (2^wid n) ⟨q.how,[],q.ls,q.rs⟩:=⟨h.j3,h.key,Nat.zero_le _,fun k hk=>nomatch hk⟩;have hi1:IntKind.wrap .i64 ((i:Int)+1)=((i+1:Nat):Int):=bG (x:=(i:Int)+1) (n:=i+1) (by omega) (by omega);unfold lG;rcases zL (n:=n) (c:=bW n) (m:=m) (fun k y _ _=>oG t k y) h.fJ h0 with⟨r,e1,_⟩|⟨q2,e1,h2⟩
  .rw[e1];have e:∀(p q':Int),p=q'->(some (.inr (.inl ((bW n).bd (q.next.getD r.1 0) r.2.1,(p,((0:Int),nt n (cS n,(r.2.2.how,lQ n (aX n V) (cz q.next,(r.2.2.ls,(r.2.2.rs,(((q.next.getD r.1 0:Nat):Int),((r.2.1:Int),())))))))))))):Option (TL uU.σs⊕Out sr))=some (.inr (.inl ((bW n).bd (q.next.getD r.1 0) r.2.1,(q',((0:Int),nt n (cS n,(r.2.2.how,lQ n (aX n V) (cz q.next,(r.2.2.ls,(r.2.2.rs,(((q.next.getD r.1 0:Nat):Int),((r.2.1:Int),())))))))))))):=by rintro _ _ rfl;rfl
   exact ao rfl (e _ _ hi1)
  .rw[e1];refine ag rfl ?_;have hlen:Int.ofNat (List.length (cz q2.next))=(q2.next.length:Int):=by unfold cz;rw[aO];rfl
   by_cases hz:(q2.next.length:Int)=0
   .refine ao (show iQ (Int.ofNat (List.length (cz q2.next))) 0=true from by rw[hlen];exact ak hz) ?_;show _=xe _ _ (match decide ((q2.next.length:Int)=0)with|true=>_|false=>_);rw[bg hz];rfl
   .refine ag (show iQ (Int.ofNat (List.length (cz q2.next))) 0=false from by rw[hlen];exact aA hz) ?_;show _=xe _ _ (match decide ((q2.next.length:Int)=0)with|true=>_|false=>_);rw[bU hz];have e:∀(p q':Int),p=q'->(some (.inl ((q.how.length:Int),((d:Int),(p,nt n (cS n,(q2.how,lQ n (aX n V) (cz q2.next,(q2.ls,(q2.rs,((0:Int),((0:Int),()))))))))))):Option (TL uU.σs⊕Out sr))=some (.inl ((q.how.length:Int),((d:Int),(q',nt n (cS n,(q2.how,lQ n (aX n V) (cz q2.next,(q2.ls,(q2.rs,((0:Int),((0:Int),()))))))))))):=by rintro _ _ rfl;rfl
    exact e _ _ hi1
end
section
variable{n:aD}{V:Nat}(t:iS n V)
include t
theorem afT:jQ (bz n)=(kZ (n.ax.map bM) n.ax.length,(List.replicate n.aa.length [],()))/\gk (bz n) (jQ (bz n))=true:=by
 have e:jQ (bz n)=(kZ (n.ax.map bM) n.ax.length,(List.replicate n.aa.length [],())):=by unfold jQ;rw[oq,bg t.hc];show(kZ (n.ax.map bM) (n.ax.map bM).length,(List.replicate (n.aa.map av).length [],()))=_;rw[aO,aO]
 refine⟨e,?_⟩;rw[e];unfold gk;show(decide ((kZ (n.ax.map bM) n.ax.length).length=(n.ax.map bM).length)&&decide ((List.replicate n.aa.length ([]:List ar.T)).length=(n.aa.map av).length)&&(List.range (n.aa.map av).length).all (j6 (n.aa.map av) (List.replicate n.aa.length [])))=true;rw[Rl,aO,aO,mQ,bg rfl,bg rfl];show(List.range n.aa.length).all _=true;rw[List.all_eq_true];intro i hi;have hi:=List.mem_range.1 hi;have hx:=aT hi;obtain⟨m1,m2,m3,m4,_⟩:=t.hs.aa _ (List.getElem_mem hi);have g1:gt ab (n.aa.map av) (i:Int)=av n.aa[i]:=aZ (σ:=ab) (by rw[cg,hx];rfl);have e0:∀(α:Type) (x:α) (N i:Nat),i<N->(List.replicate N x)[i]?=some x:=by intro α x N i h;rw[List.getElem?_replicate,if_pos h]
 have g2:gt (.sl ar) (List.replicate n.aa.length ([]:List ar.T)) (i:Int)=[]:=aZ (σ:=.sl ar) (e0 _ _ _ _ hi);unfold j6;rw[g1];refine(congrArg (jj (av n.aa[i]).1 (av n.aa[i]).2.1) g2).trans ?_;unfold jj;show(decide (1<=n.aa[i].addr)&&decide (n.aa[i].addr<=62)&&decide (1<=n.aa[i].word)&&decide (n.aa[i].word<=64)&&decide (0<=4096)&&(List.range 0).all _)=true;rw[bg m1,bg m2,bg m3,bg m4];rfl
end
def eu(n:aD)(k:Nat):Nat:=cF (iC n (bS n k).1 (bS n k).2).2
def rE(n:aD)(L:List Nat):lY:=L.foldl (fun h k=>dR ((eu n k:Nat):Int) ((-1:Int),((0:Int),())) h) []
def iV(n:aD):Qs:=⟨rE n (h9 n (2^wid n)),(h9 n (2^wid n)).map (eu n),(jQ (bz n)).1,bX n (jQ (bz n)).2.1⟩
section
variable{n:aD}{V:Nat}(t:iS n V)(ft:Fit n)
include t ft
theorem ai1(ls:List Bool)(rs:List dB):Ib ((0:Int),(fK n (2^wid n),(((fK n (2^wid n)).length:Int),((0:Int),nt n (cS n,([],([],mc n (aX n V) ls rs ()))))))) =
  some ((0:Int),nt n (cS n,(rE n (h9 n (2^wid n)),(cz ((h9 n (2^wid n)).map (eu n)),mc n (aX n V) ls rs ())))):=by
 have hp:=kO t;have hw:=t.oC;have hL:=vj n (2^wid n);have hsl:(fK n (2^wid n)).length=(h9 n (2^wid n)).length:=by unfold fK;rw[aO]
 obtain⟨L,eL⟩:∃L,L=h9 n (2^wid n):=⟨_,rfl⟩;have eS:fK n (2^wid n)=L.map (gJ n):=by unfold fK;rw[eL]
 rw[hsl,eS,<-eL];rw[<-eL]at hL;unfold Ib;refine cu (fun i:Nat=>((0:Int),(L.map (gJ n),((L.length:Int),((i:Int),nt n (cS n,(rE n (L.take i),(cz ((L.take i).map (eu n)),mc n (aX n V) ls rs ())))))))) L.length rfl ?_ ?_ (bt (by omega))
 .intro i hi;have hx:=aT hi;have g:gt cr (L.map (gJ n)) (i:Int)=gJ n L[i]:=aZ (σ:=cr) (by rw[cg,hx];rfl);have sl:=sN t L[i];have e1:=(Iy ft (bS n L[i]).1 (bS n L[i]).2 (Jh t L[i]) (by have:=t.hs.lens.2.1;omega) (fun c hc=>Nat.le_trans (sl.2.2 c hc) (by omega))).1;have hl8:=qK t (bS n L[i]).2 sl.1;have e2:=Il (iC n (bS n L[i]).1 (bS n L[i]).2).2 (by omega);have e1':∀s:cr.T,s=gJ n L[i]->zm (nt n (s.1,(s.2.1,())))=some ((iC n (bS n L[i]).1 (bS n L[i]).2).1,((iC n (bS n L[i]).1 (bS n L[i]).2).2,())):=by rintro _ rfl;exact e1
  have hlt:eu n L[i]<2^wid n:=Nat.lt_of_lt_of_le (mg _) (Nat.pow_le_pow_right (by omega) hl8);have ew:IntKind.wrap .i64 ((cF (iC n (bS n L[i]).1 (bS n L[i]).2).2:Nat):Int)=((eu n L[i]:Nat):Int):=bZ (by show -9223372036854775808<=((eu n L[i]:Nat):Int)/\((eu n L[i]:Nat):Int)<=_;omega);have hi1:IntKind.wrap .i64 ((i:Int)+1)=((i+1:Nat):Int):=bG (x:=(i:Int)+1) (n:=i+1) (by omega) (by omega);have ht:L.take (i+1)=L.take i++[L[i]]:=Pl.cW hx;have eh:dR (IntKind.wrap .i64 ((cF (iC n (bS n L[i]).1 (bS n L[i]).2).2:Nat):Int)) (σ:=gj) ((-1:Int),((0:Int),())) (rE n (L.take i))=rE n (L.take (i+1)):=by rw[ew,ht];unfold rE;rw[List.foldl_append];rfl
  have en:cz ((L.take i).map (eu n))++(IntKind.wrap .i64 ((cF (iC n (bS n L[i]).1 (bS n L[i]).2).2:Nat):Int)::[])=cz ((L.take (i+1)).map (eu n)):=by rw[ew,ht];unfold cz;rw[dV,dV];rfl
  have e:∀(p q:Int) (H H':lY) (A B:List Int),p=q->H=H'->A=B->(some (.inl ((0:Int),(L.map (gJ n),((L.length:Int),(p,nt n (cS n,(H,(A,mc n (aX n V) ls rs ())))))))):Option (TL zi.σs⊕Out zg))=some (.inl ((0:Int),(L.map (gJ n),((L.length:Int),(q,nt n (cS n,(H',(B,mc n (aX n V) ls rs ())))))))):=by rintro _ _ _ _ _ _ rfl rfl rfl;rfl
  exact ao (ak (show(i:Int)<(L.length:Int) by omega)) (ai (show aq (i:Int) (List.length (L.map (gJ n)))=true from aK ⟨by omega,by rw[aO];omega⟩) (af (e1' _ g) (ai (ak rfl) (af e2 (ai (pj (a:=8) (L:=cz ((L.take i).map (eu n))) (x:=IntKind.wrap .i64 ((cF (iC n (bS n L[i]).1 (bS n L[i]).2).2:Nat):Int)) (by unfold cz;rw[aO,aO,da];omega) (by omega)) (e _ _ _ _ _ _ hi1 eh en))))))
 .rw[dt];exact ag (aA (show ¬(L.length:Int)<(L.length:Int) by omega)) rfl
theorem UC:TZ (nt n ())=some (.inr ((0:Int),nt n (cS n,((iV n).how,(cz (iV n).next,mc n (aX n n.vars.toNat) (iV n).ls (iV n).rs ()))))):=by
 have hV:n.vars.toNat=V:=by rw[t.hs.vars];rfl
 have e3:=afR t ft;have e2:=vl ft;obtain⟨z1,z2⟩:=afT t;have ft':Fit (fx (bz n)):=by rw[oq];exact ft
 have hL:List.length (bz n).2.2.1<=100000:=by show(n.ax.map bM).length<=_;rw[aO];have:=ft.aF.1;omega
 have hT:List.length (bz n).2.2.2.2.2.2.1<=100000:=by show(n.aa.map av).length<=_;rw[aO];have:=ft.aa.1;omega
 have e1:=ako (bz n) ft' hL hT;have hz1:(jQ (bz n)).1.length<=1000000:=by rw[z1];show(kZ _ _).length<=_;rw[Rl];have:=t.hs.lens.2.1;omega
 have e5:=aiC ft (jQ (bz n)).1 (jQ (bz n)).2.1 t.hc z2 hz1;have e7:=ai1 t ft (jQ (bz n)).1 (bX n (jQ (bz n)).2.1);have hw:=vG ft;have e7':∀a b:Int,a=((fK n (2^wid n)).length:Int)->b=cS n->Ib ((0:Int),(fK n (2^wid n),(a,((0:Int),nt n (b,([],([],mc n (aX n n.vars.toNat) (jQ (bz n)).1 (bX n (jQ (bz n)).2.1) ())))))))=some ((0:Int),nt n (cS n,(rE n (h9 n (2^wid n)),(cz ((h9 n (2^wid n)).map (eu n)),mc n (aX n V) (jQ (bz n)).1 (bX n (jQ (bz n)).2.1) ())))):=by rintro _ _ rfl rfl;rw[hV];exact e7
 refine af e3 (ag (dH (ak rfl)) (af e2 (af e1 (af e5 (ai (ak rfl) (af (e7' _ _ rfl hw) ?_))))));rw[hV];rfl
end
theorem U3{n:aD}{W:Nat}:∀(L:List Nat) (H:lY),H.Pairwise (fun a b=>a.1<b.1)->(∀p∈H,0<=p.1/\p.1<(W:Int))->(∀k∈L,eu n k<W) ->
  (L.foldl (fun h k=>dR (σ:=gj) ((eu n k:Nat):Int) ((-1:Int),((0:Int),())) h) H).Pairwise (fun a b=>a.1<b.1)/\∀p∈L.foldl (fun h k=>dR (σ:=gj) ((eu n k:Nat):Int) ((-1:Int),((0:Int),())) h) H,0<=p.1/\p.1<(W:Int)
 |[],H,h1,h2,_=>⟨h1,h2⟩|k::L,H,h1,h2,h3=>U3 L _ (yi h1) (fun p hp=>by
   rcases IG hp with e|e
   .have:=h3 k (List.mem_cons_self ..);rw[e];omega
   .exact h2 p e) (fun j hj=>h3 j (List.mem_cons_of_mem _ hj))
theorem acX{n:aD}{V:Nat}(t:iS n V):fe (2^wid n) (iV n):=by
 have hp:=kO t;have hL:=vj n (2^wid n);have hn:∀k,eu n k<2^wid n:=fun k=>Nat.lt_of_lt_of_le (mg _) (Nat.pow_le_pow_right (by omega) (qK t _ (sN t k).1));obtain⟨h1,h2⟩:=U3 (n:=n) (W:=2^wid n) (h9 n (2^wid n)) [] List.Pairwise.nil (fun p hp=>nomatch hp) (fun k _=>hn k);refine⟨h1,h2,?_,fun j hj=>?_⟩
 .show((h9 n (2^wid n)).map (eu n)).length<=_;rw[aO];omega
 .have hj:j∈(h9 n (2^wid n)).map (eu n):=hj;obtain⟨k,_,rfl⟩:=List.mem_map.1 hj;exact hn k
def Wh(r:(Nat×(Pg×List Nat⊕Int×Qs))⊕(Int×Qs)):TL sB:=match r with|.inl (i,.inl _)=>((true,(((i+1:Nat):Int),(false,((0:Int),())))),((0:Int),()))|.inl (_,.inr y)=>((false,((0:Int),(decide ((y.2.next.length:Int)=0),(y.1,())))),((0:Int),()))|.inr y=>((false,((0:Int),(decide ((y.2.next.length:Int)=0),(y.1,())))),((0:Int),()))
section
variable{n:aD}{V:Nat}(t:iS n V)(ft:Fit n)(hf:∀k,k<2^wid n->gk (bz n) ((bS n k).1,((bS n k).2,()))=true)
include t ft hf
theorem afM{m d:Nat}(hm:m=2^n.aM.length)(hd:d<=2000):zn (bz n,((d:Int),()))=some (Wh (DV n (bW n) m d (iV n))):=by
 have eb:=UC t ft;have er:=aip t ft hf hm (d:=d) (by omega) (acX t);have hV:n.vars.toNat=V:=by rw[t.hs.vars];rfl
 rw[hV]at eb;have hn:∀(x:Qs),Int.ofNat (List.length (cz x.next))=(x.next.length:Int):=fun x=>by unfold cz;rw[aO];rfl
 have e:∀(b c:Bool) (s:Int),b=c->(some ((false,((0:Int),(b,(s,())))),((0:Int),())):Option (TL sB))=some ((false,((0:Int),(c,(s,())))),((0:Int),())):=by rintro _ _ _ rfl;rfl
 have hd2:iL (2000:Int) (d:Int)=false:=aA (by omega);refine af eb (ag (dH (ak rfl)) (ag (aA (show ¬(d:Int)<0 by omega)) (ag (show aV false true (iL 2000 (d:Int))=false by rw[hd2];rfl) ?_)));generalize DV n (bW n) m d (iV n)=r at er;rcases r with⟨i,x|y⟩|y
 .have e2:Hq ((d:Int),nt n (cS n,((iV n).how,(cz (iV n).next,mc n (aX n V) (iV n).ls (iV n).rs ()))))=some (((x.2.getD x.1.1 0:Nat):Int),((x.1.2.1:Int),((bW n).bd (x.2.getD x.1.1 0) x.1.2.1,(((i+1:Nat):Int),((0:Int),nt n (cS n,(x.1.2.2.how,lQ n (aX n V) (cz x.2,(x.1.2.2.ls,(x.1.2.2.rs,())))))))))):=af er rfl;exact af e2 (ao (ak (show(0:Int)<((i+1:Nat):Int) by omega)) rfl)
 .have e2:Hq ((d:Int),nt n (cS n,((iV n).how,(cz (iV n).next,mc n (aX n V) (iV n).ls (iV n).rs ()))))=some ((0:Int),((0:Int),((0:Int),((0:Int),(y.1,nt n (cS n,(y.2.how,lQ n (aX n V) (cz y.2.next,(y.2.ls,(y.2.rs,())))))))))):=af er rfl;exact af e2 (ag (aA (show ¬((0:Int)<0) by decide)) (e _ _ _ (show iQ (Int.ofNat (List.length (cz y.2.next))) 0=_ from by rw[hn])))
 .have e2:Hq ((d:Int),nt n (cS n,((iV n).how,(cz (iV n).next,mc n (aX n V) (iV n).ls (iV n).rs ()))))=some ((0:Int),((0:Int),((0:Int),((0:Int),(y.1,nt n (cS n,(y.2.how,lQ n (aX n V) (cz y.2.next,(y.2.ls,(y.2.rs,())))))))))):=af er rfl;exact af e2 (ag (aA (show ¬((0:Int)<0) by decide)) (e _ _ _ (show iQ (Int.ofNat (List.length (cz y.2.next))) 0=_ from by rw[hn])))
end
theorem IK{w:Nat}{l:List Bool}{K:Nat}{p:aN}(h:p∈iW w l K):∃x,x<K/\cellAt w l x≠0/\p=((x:Int),((cellAt w l x:Int),())):=by
 unfold iW at h;obtain⟨a,ha,hm⟩:=List.mem_flatMap.1 h;have ha:=List.mem_range.1 ha;split at hm
 .cases hm
 .rename_i q;exact⟨a,ha,q,List.mem_singleton.1 hm⟩
theorem UX(w:Nat)(l:List Bool):∀K,o7 (iW w l K)
 |0=>List.Pairwise.nil|K+1=>by
  unfold o7;rw[zy,List.pairwise_append];refine⟨UX w l K,?_,fun a ha b hb=>?_⟩
  .split
   .exact List.Pairwise.nil
   .exact List.pairwise_singleton ..
  .obtain⟨x,hx,_,rfl⟩:=IK ha;split at hb
   .cases hb
   .rw[List.mem_singleton.1 hb];show(x:Int)<(K:Int);omega
theorem afz(w:Nat)(l:List Bool)(x:Nat):cellAt w l x<2^w:=by unfold cellAt;exact Nat.lt_of_lt_of_le (mg _) (Nat.pow_le_pow_right (by omega) (by rw[da];omega))
theorem agD{m:bP}{K:Nat}{c:List aN}(m1:1<=m.addr)(m2:m.addr<=62)(m3:1<=m.word)(m4:m.word<=64)(h:mf m K c)(hl:c.length<=4096):jj m.addr m.word c=true:=by
 unfold jj;rw[bg m1,bg m2,bg m3,bg m4,bg (show List.length (α:=ar.T) c<=4096 from hl)];show(List.range c.length).all (jB m.addr m.word c)=true;rw[List.all_eq_true];intro i hi;have hi:=List.mem_range.1 hi;have hp:=aT hi;obtain⟨e1,e2⟩:=tF hp;have h1:=h.at_ _ (List.getElem_mem hi);have h2:=h.wd _ (List.getElem_mem hi);have b1:decide (i7 c (i:Int)=0)=false:=bU (by rw[e2];omega);have b2:jn (eJ c (i:Int)) m.addr=true:=by rw[e1];exact DJ h1.1 h1.2
 have b3:jn (i7 c (i:Int)) m.word=true:=by rw[e2];exact DJ (by omega) h2.2
 have b4:(decide (i=0)||decide (eJ c ((i:Int)-1)<eJ c (i:Int)))=true:=by
  by_cases q:i=0
  .rw[bg q];rfl
  .have hj:i-1<c.length:=by omega
   have e3:=(tF (aT hj)).1;have ei:((i:Int)-1)=((i-1:Nat):Int):=by omega
   have hs:=List.pairwise_iff_getElem.1 h.j3 (i-1) i hj hi (by omega);rw[ei,e3,e1,bg hs,Bool.or_true]
 unfold jB;rw[b1,b2,b3,b4];rfl
section
variable{n:aD}{V:Nat}(t:iS n V)
include t
theorem IU(k:Nat):jF n 64 (bS n k).1 (bS n k).2:=by
 obtain⟨h1,h2,h3⟩:=sN t k;refine⟨h1,h2,fun i m c hm hc=>?_⟩;have hcm:c∈(bS n k).2:=dn hc;have hl:=h3 c hcm;unfold bS at hc;rw[zT t k]at hc;have hc:(gY n ((di k (wid n)).drop n.ax.length) n.aa.length)[i]?=some c:=hc;have hi:i<n.aa.length:=(List.getElem?_eq_some_iff.1 hm).1;unfold gY at hc;rw[cg,List.getElem?_range hi]at hc;have hg:n.aa.getD i mz=m:=by rw[dC,hm];rfl
 have hc:=(Option.some.inj hc).symm;dsimp only at hc;rw[hg]at hc;subst hc;refine⟨UX _ _ _,hl,fun p hp=>?_,fun p hp=>?_⟩
 .obtain⟨x,hx,_,rfl⟩:=IK hp;show(0:Int)<=(x:Int)/\(x:Int)<2^m.addr.toNat;rw[vn];omega
 .obtain⟨x,hx,h0,rfl⟩:=IK hp;have:=afz m.word.toNat (((di k (wid n)).drop n.ax.length).drop (ez n i)) x;show(0:Int)<((cellAt _ _ x:Nat):Int)/\((cellAt _ _ x:Nat):Int)<2^m.word.toNat;rw[vn];omega
theorem ahg{K:Nat}{ls:List Bool}{cs:List (List aN)}(ok:jF n K ls cs):gk (bz n) (ls,(cs,()))=true:=by
 unfold gk;show(decide (ls.length=(n.ax.map bM).length)&&decide (List.length cs=(n.aa.map av).length)&&(List.range (n.aa.map av).length).all (j6 (n.aa.map av) cs))=true;rw[aO,aO,bg ok.qx,bg ok.mG];show(List.range n.aa.length).all _=true;rw[List.all_eq_true];intro i hi;have hi:=List.mem_range.1 hi;have hx:=aT hi;have hcl:cs.length=n.aa.length:=ok.mG;have hic:i<cs.length:=by omega
 have hy:=aT hic;obtain⟨m1,m2,m3,m4,_⟩:=t.hs.aa _ (List.getElem_mem hi);have ko:=ok.ok i _ _ hx hy;have sm:=t.sm _ (List.getElem_mem hi);have g1:gt ab (n.aa.map av) (i:Int)=av n.aa[i]:=aZ (σ:=ab) (by rw[cg,hx];rfl);have g2:gt (.sl ar) cs (i:Int)=cs[i]:=aZ (σ:=.sl ar) hy;have hlen:cs[i].length<=4096:=by have h2:=sm.nat;have hw:=sm.w1;have hle:2^n.aa[i].addr.toNat<=2^n.aa[i].addr.toNat*n.aa[i].word.toNat:=Nat.le_mul_of_pos_right _ (by omega);have:=IP cs[i] 0 ((2^n.aa[i].addr.toNat:Nat):Int) (by omega) ko.j3 (fun p hp=>by have:=ko.at_ p hp;rw[vn]at this;exact this);omega
 unfold j6;rw[g1];exact(congrArg (jj (av n.aa[i]).1 (av n.aa[i]).2.1) g2).trans (agD m1 m2 m3 m4 ko hlen)
theorem ahT(k:Nat):gk (bz n) ((bS n k).1,((bS n k).2,()))=true:=ahg t (IU t k)
end
def tU(c:fb)(k:Nat)(q:Bool×List Bool)(y:Nat):Bool×List Bool:=match c.fi k y with|false=>q|true=>(q.1||decide (0<=c.bd k y),q.2.set (c.nx k y) true)
def gN(c:fb)(k:Nat)(next:List Bool)(m:Nat):Bool×List Bool:=(List.range m).foldl (tU c k) (false,next)
theorem IA(c:fb)(k:Nat)(next:List Bool)(m:Nat):gN c k next (m+1)=tU c k (gN c k next m) m:=by unfold gN;rw[List.range_succ,List.foldl_append];rfl
theorem agI(c:fb)(k:Nat)(q:Bool×List Bool)(y:Nat):(tU c k q y).2.length=q.2.length:=by
 unfold tU;cases c.fi k y
 .rfl
 .exact List.length_set
theorem vm(c:fb)(k:Nat)(next:List Bool):∀m,(gN c k next m).2.length=next.length
 |0=>rfl|m+1=>by rw[IA,agI,vm c k next m]
theorem ag2(L:List Bool):L.any (fun b=>b)=decide (0<=idx L):=by
 by_cases h:0<=idx L
 .rw[bg h];obtain⟨k,_,hk,hf⟩:=air h;have hp:=(acw _ _ _ _ hf).2.2.1;have hp:L.getD k false=true:=hp;rw[dC,aT hk]at hp;exact List.any_eq_true.2 ⟨L[k],List.getElem_mem hk,hp⟩
 .rw[bU h];have hn:=aoU _ _ _ (agj h).2;cases hb:L.any (fun b=>b)with|false=>rfl|true=>obtain⟨x,hx,hxt⟩:=List.any_eq_true.1 hb;obtain⟨i,hi,rfl⟩:=List.getElem_of_mem hx;have:=hn i (Nat.zero_le _) (by omega);rw[dC,aT hi]at this;have hxt:L[i]=true:=hxt;have this:L[i]=false:=this;rw[hxt]at this;cases this
theorem zF{L:List Bool}{i:Nat}(hi:i<L.length):gt .bool L (i:Int)=L.getD i false:=by
 have e:L[i]?=some (L.getD i false):=by rw[dC,aT hi];rfl
 exact aZ (σ:=.bool) e
section
variable{n:aD}{V:Nat}(t:iS n V)(ft:Fit n)
include t ft
theorem Um{ls:List Bool}{cs:List (List aN)}{K:Nat}(hK:K<=5000)(ok:jF n K ls cs):yU (bz n,((ls,(cs,())),()))=some (((cF (iC n ls cs).2:Nat):Int),()):=by have hw:=t.oC;have e1:=(Iy ft ls cs (VA t.hs ok) (by have:=ok.qx;have:=t.hs.lens.2.1;omega) (fun c hc=>Nat.le_trans (UF ok c hc) (by omega))).2;have hl:=qK t cs ok.qx;have e2:=OE (iC n ls cs).2 (by omega);have hlt:cF (iC n ls cs).2<2^wid n:=Nat.lt_of_lt_of_le (mg _) (Nat.pow_le_pow_right (by omega) hl);have hp:=kO t;exact af e1 (af e2 (U8 (bZ (by omega))))
theorem aio(b:Bool)(y:Int)(v next:List Bool)(L:List Bool)(hL:L.length<=100000)(ls:List Bool)(cs:List (List aN)) :
  GZ (b,(y,(v,(L,((0:Int),(next,nt n (ls,(cs,()))))))))=some ((b||decide (0<=idx L)),(y,(v,(next,nt n (ls,(cs,())))))):=by
 rw[<-ag2];unfold GZ;delta u16;refine cu (fun j:Nat=>((b||(L.take j).any (fun b=>b)),(y,(v,(L,((j:Int),(next,nt n (ls,(cs,()))))))))) L.length (by rw[List.take_zero];show _=(((b||false):Bool),_);rw[Bool.or_false];rfl) ?_ ?_ (bt (by omega))
 .intro j hj;have hx:=aT hj;have ht:(L.take (j+1)).any (fun b=>b)=((L.take j).any (fun b=>b)||L[j]):=by rw[Pl.cW hx,List.any_append];simp
  have g:gt .bool L (j:Int)=L[j]:=aZ (σ:=.bool) hx;have hj1:IntKind.wrap .i64 ((j:Int)+1)=((j+1:Nat):Int):=bG (x:=(j:Int)+1) (n:=j+1) (by omega) (by omega);have e:∀(p q:Int) (A B:Bool),p=q->A=B->(some (.inl (A,(y,(v,(L,(p,(next,nt n (ls,(cs,()))))))))):Option (TL yQ.σs⊕Out yI))=some (.inl (B,(y,(v,(L,(q,(next,nt n (ls,(cs,()))))))))):=by rintro _ _ _ _ rfl rfl;rfl
  refine ao (ak (show(j:Int)<(L.length:Int) by omega)) ?_;rw[ht];cases hb:(b||(L.take j).any (fun b=>b))with|true=>exact ao rfl (e _ _ _ _ hj1 (by rw[<-Bool.or_assoc,hb];rfl))|false=>refine ag rfl (ai (show aq (j:Int) (List.length L)=true from aK ⟨by omega,by omega⟩) (e _ _ _ _ hj1 ?_));rw[g,<-Bool.or_assoc,hb];cases L[j]<;>rfl
 .rw[dt];exact ag (aA (show ¬(L.length:Int)<(L.length:Int) by omega)) rfl
theorem ag9{k m:Nat}(hm:m=2^n.aM.length)(next:List Bool)(hl:next.length=2^wid n) :
  S1 (nt n ((bS n k).1,((bS n k).2,(next,()))))=some ((gN (bW n) k next m).1,((gN (bW n) k next m).2,())):=by
 have hp:=kO t;have hi:=t.ins;have ok:=IU t k;have hm64:m<=64:=by rw[hm];exact Nat.pow_le_pow_right (n:=2) (by omega) (show n.aM.length<=6 from hi)
 have hmi:IntKind.wrap .i64 ((1:Int)*(HPow.hPow (2:Int) (Min.min (Int.toNat (IntKind.wrap .u64 (Int.ofNat n.aM.length))) 64)))=(m:Int):=by have e:IntKind.wrap .u64 (Int.ofNat n.aM.length)=(n.aM.length:Int):=jU (by show(0:Int)<=(n.aM.length:Int)/\(n.aM.length:Int)<=_;omega);rw[e,hm];exact U5 t
 have e3:S2 (false,((0:Int),(next,nt n ((bS n k).1,((bS n k).2,())))))=some ((gN (bW n) k next m).1,((gN (bW n) k next m).2,())):=by
  unfold S2;delta gZ;refine cu (fun y:Nat=>((gN (bW n) k next y).1,((y:Int),((gN (bW n) k next y).2,nt n ((bS n k).1,((bS n k).2,())))))) m rfl ?_ ?_ (bt (by omega))
  .intro y hy;have e1:oO (IntKind.wrap .u64 (y:Int),(Int.ofNat n.aM.length,()))=some (di y n.aM.length,()):=by rw[jU (by omega)];exact DI y n.aM.length (by omega) (by omega)
   have e2:=aoW t.hs ft t.h0 t.ha (by omega) (bS n k).1 (di y n.aM.length) (bS n k).2 ok (kS _ _);have e4:=apu t.hs (ki n k y);have e5:=apA t.hs (ki n k y);have e6:=aio t ft (gN (bW n) k next y).1 (y:Int) (ki n k y) (gN (bW n) k next y).2 (mM n (ki n k y)) (by rw[Uw];have:=t.hs.lens.2.2.2.1;omega) (bS n k).1 (bS n k).2;have e7:=apr t.hs (by omega) (bS n k).1 (bS n k).2 ok (ki n k y);have ok2:=acS t.hs ok (ki n k y);have e8:=Um t ft (by omega) ok2;have hnx:=oG t k y;have hcl:(gN (bW n) k next y).2.length=2^wid n:=(vm _ _ _ _).trans hl;have hy1:IntKind.wrap .i64 ((y:Int)+1)=((y+1:Nat):Int):=bG (x:=(y:Int)+1) (n:=y+1) (by omega) (by omega);have e:∀(p q:Int) (A A':Bool) (B B':List Bool),p=q->A=A'->B=B'->(some (.inl (A,(p,(B,nt n ((bS n k).1,((bS n k).2,())))))):Option (TL yP.σs⊕Out yH))=some (.inl (A',(q,(B',nt n ((bS n k).1,((bS n k).2,())))))):=by rintro _ _ _ _ _ _ rfl rfl rfl;rfl
   rw[IA];unfold tU;refine ao (show iL (y:Int) (IntKind.wrap .i64 ((1:Int)*(HPow.hPow (2:Int) (Min.min (Int.toNat (IntKind.wrap .u64 (Int.ofNat n.aM.length))) 64))))=true from by rw[hmi];exact ak (by omega)) (af e1 (af e2 (af e4 ?_)));cases hfi:(bW n).fi k y with|false=>exact ao (fZ hfi) (e _ _ _ _ _ _ hy1 rfl rfl)|true=>refine ag (dH hfi) (af e5 (af e6 (af e7 (af e8 (ai (show aq (((bW n).nx k y:Nat):Int) (List.length (gN (bW n) k next y).2)=true from aK ⟨by omega,by omega⟩) (e _ _ _ _ _ _ hy1 rfl ?_))))));show List.set (gN (bW n) k next y).2 (Int.toNat (((bW n).nx k y:Nat):Int)) true=_;rw[Int.toNat_natCast]
  .exact ag (show iL (m:Int) (IntKind.wrap .i64 ((1:Int)*(HPow.hPow (2:Int) (Min.min (Int.toNat (IntKind.wrap .u64 (Int.ofNat n.aM.length))) 64))))=false from by rw[hmi];exact aA (by omega)) rfl
 exact af e3 rfl
end
def mark(n:aD)(L:List Nat)(b:List Bool):List Bool:=L.foldl (fun b k=>b.set (eu n k) true) b
theorem zA(n:aD):∀(L:List Nat) (b:List Bool),(mark n L b).length=b.length
 |[],_=>rfl|k::L,b=>by show(mark n L (b.set (eu n k) true)).length=_;rw[zA n L,List.length_set]
def kj(c:fb)(m:Nat)(now:List Bool)(k:Nat)(q:Bool×List Bool×List Bool):Unit⊕(Bool×List Bool×List Bool):=match now.getD k false with|false=>.inr q|true=>match q.2.1.getD k false with|true=>.inr q|false=>match(gN c k q.2.2 m).1 with|true=>.inl ()|false=>.inr (true,q.2.1.set k true,(gN c k q.2.2 m).2)
def iX(c:fb)(m W _:Nat)(q:List Bool×List Bool):(Unit⊕List Bool×List Bool)⊕(List Bool×List Bool):=match fy (kj c m q.2) 0 W (false,q.1,List.replicate W false)with|.inl _=>.inl (.inl ())|.inr r=>match r.1 with|false=>.inl (.inr (r.2.1,r.2.2))|true=>.inr (r.2.1,r.2.2)
def gr(seen:List Bool)(k:Nat):Nat:=((List.range k).filter fun j=>seen.getD j false).length
theorem afD(seen:List Bool)(k:Nat):gr seen (k+1)=gr seen k+(if seen.getD k false then 1 else 0):=by unfold gr;rw[List.range_succ,List.filter_append,aW];congr 1;rw[List.filter_cons,List.filter_nil];cases seen.getD k false<;>rfl
theorem ag6(seen:List Bool)(k:Nat):gr seen k<=k:=by have:=List.length_filter_le (fun j=>seen.getD j false) (List.range k);rw[List.length_range]at this;exact this
def ke(seen now:List Bool)(k:Nat):Bool:=(List.range k).all fun j=>!now.getD j false||seen.getD j false
theorem afB(seen now:List Bool)(k:Nat):ke seen now (k+1)=(ke seen now k&&(!now.getD k false||seen.getD k false)):=by unfold ke;rw[List.range_succ,List.all_append];simp
def Aa(W:Nat)(r:(Nat×(Unit⊕List Bool×List Bool))⊕(List Bool×List Bool)):TL so:=match r with|.inl (i,.inl _)=>(((i+1:Nat):Int),(false,((0:Int),())))|.inl (_,.inr q)=>((0:Int),(ke q.1 q.2 W,((gr q.1 W:Int),())))|.inr q=>((0:Int),(ke q.1 q.2 W,((gr q.1 W:Int),())))
theorem VG(seen now:List Bool)(W:Nat)(h1:seen.length=W)(h2:now.length=W)(hW:W<=1024) :
  Sf ((0:Int),(true,((0:Int),(seen,(now,())))))=some ((gr seen W:Int),(ke seen now W,())):=by
 unfold Sf;delta u5;refine cu (fun k:Nat=>((gr seen k:Int),(ke seen now k,((k:Int),(seen,(now,())))))) W rfl ?_ ?_ (bt (by omega))
 .intro k hk;have g1:=zF (L:=seen) (i:=k) (by omega);have g2:=zF (L:=now) (i:=k) (by omega);have hc:=ag6 seen k;have hk1:IntKind.wrap .i64 ((k:Int)+1)=((k+1:Nat):Int):=bG (x:=(k:Int)+1) (n:=k+1) (by omega) (by omega);have hc1:IntKind.wrap .i64 ((gr seen k:Int)+1)=((gr seen k+1:Nat):Int):=bG (by omega) (by omega);have i1:aq (k:Int) (List.length seen)=true:=aK ⟨by omega,by omega⟩;have i2:aq (k:Int) (List.length now)=true:=aK ⟨by omega,by omega⟩;have e:∀(p q a b:Int) (A B:Bool),p=q->a=b->A=B->(some (.inl (a,(A,(p,(seen,(now,())))))):Option (TL yw.σs⊕Out yr))=some (.inl (b,(B,(q,(seen,(now,())))))):=by rintro _ _ _ _ _ _ rfl rfl rfl;rfl
  refine ao (ak (show(k:Int)<(now.length:Int) by omega)) (ai i1 ?_);rw[afD,afB];cases hs:seen.getD k false with
  |true=>refine ao (g1.trans hs) ?_;cases hb:ke seen now k with|false=>exact ag rfl (e _ _ _ _ _ _ hk1 hc1 rfl)|true=>refine ao rfl (ai i2 ?_);cases hn:now.getD k false with|false=>exact ao (fZ (g2.trans hn)) (e _ _ _ _ _ _ hk1 hc1 rfl)|true=>exact ag (dH (g2.trans hn)) (ai i1 (e _ _ _ _ _ _ hk1 hc1 (by rw[g1,hs];rfl)))
  |false=>refine ag (g1.trans hs) ?_;cases hb:ke seen now k with|false=>exact ag rfl (e _ _ _ _ _ _ hk1 rfl rfl)|true=>refine ao rfl (ai i2 ?_);cases hn:now.getD k false with|false=>exact ao (fZ (g2.trans hn)) (e _ _ _ _ _ _ hk1 rfl rfl)|true=>exact ag (dH (g2.trans hn)) (ai i1 (e _ _ _ _ _ _ hk1 rfl (by rw[g1,hs];rfl)))
 .exact ag (aA (show ¬(W:Int)<(now.length:Int) by omega)) rfl
theorem O0{N:Nat}(h:N<=1024):both (iE (0:Int) ((N:Nat):Int)) (both (iE ((N:Nat):Int) ((N:Nat):Int)) (iE (@HMul.hMul Int Int Int _ (Int.ofNat 1) ((N:Nat):Int)) 281474976710656))=true:=by have h1:iE (0:Int) ((N:Nat):Int)=true:=ak (by omega);have h2:iE ((N:Nat):Int) ((N:Nat):Int)=true:=ak (by omega);have h3:iE (@HMul.hMul Int Int Int _ (Int.ofNat 1) ((N:Nat):Int)) 281474976710656=true:=ak (by show(1:Int)*_<=_;omega);rw[h1,h2,h3];rfl
section
variable{n:aD}{V:Nat}(t:iS n V)(ft:Fit n)
include t ft
theorem ajq(d:Int)(seen:List Bool):GA (d,(fK n (2^wid n),((0:Int),nt n (seen,(List.replicate (2^wid n) false,())))))=some (d,nt n (seen,(mark n (h9 n (2^wid n)) (List.replicate (2^wid n) false),()))):=by
 have hp:=kO t;have hL:=vj n (2^wid n);obtain⟨L,eL⟩:∃L,L=h9 n (2^wid n):=⟨_,rfl⟩;have eS:fK n (2^wid n)=L.map (gJ n):=by unfold fK;rw[eL]
 rw[eS,<-eL];rw[<-eL]at hL;unfold GA;delta gZ;refine cu (fun i:Nat=>(d,(L.map (gJ n),((i:Int),nt n (seen,(mark n (L.take i) (List.replicate (2^wid n) false),())))))) L.length rfl ?_ ?_ (bt (by omega))
 .intro i hi;have hx:=aT hi;have g:gt cr (L.map (gJ n)) (i:Int)=gJ n L[i]:=aZ (σ:=cr) (by rw[cg,hx];rfl);have e1:=Um t ft (by omega) (IU t L[i]);have e1':∀s:cr.T,s=gJ n L[i]->yU (bz n,((s.1,(s.2.1,())),()))=some (((eu n L[i]:Nat):Int),()):=by rintro _ rfl;exact e1
  have hlt:eu n L[i]<2^wid n:=Nat.lt_of_lt_of_le (mg _) (Nat.pow_le_pow_right (by omega) (qK t _ (sN t L[i]).1));have hi1:IntKind.wrap .i64 ((i:Int)+1)=((i+1:Nat):Int):=bG (x:=(i:Int)+1) (n:=i+1) (by omega) (by omega);have em:List.set (mark n (L.take i) (List.replicate (2^wid n) false)) (Int.toNat ((eu n L[i]:Nat):Int)) true=mark n (L.take (i+1)) (List.replicate (2^wid n) false):=by rw[Int.toNat_natCast,Pl.cW hx];unfold mark;rw[List.foldl_append];rfl
  have hml:(mark n (L.take i) (List.replicate (2^wid n) false)).length=2^wid n:=by rw[zA,mQ]
  have e:∀(p q:Int) (A B:List Bool),p=q->A=B->(some (.inl (d,(L.map (gJ n),(p,nt n (seen,(A,())))))):Option (TL yE.σs⊕Out yx))=some (.inl (d,(L.map (gJ n),(q,nt n (seen,(B,())))))):=by rintro _ _ _ _ rfl rfl;rfl
  exact ao (ak (show(i:Int)<((L.map (gJ n)).length:Int) by rw[aO];omega)) (ai (show aq (i:Int) (List.length (L.map (gJ n)))=true from aK ⟨by omega,by rw[aO];omega⟩) (af (e1' _ g) (ai (show aq ((eu n L[i]:Nat):Int) (List.length (mark n (L.take i) (List.replicate (2^wid n) false)))=true from aK ⟨by omega,by omega⟩) (e _ _ _ _ hi1 em))))
 .rw[dt];exact ag (aA (show ¬(L.length:Int)<((L.map (gJ n)).length:Int) by rw[aO];omega)) rfl
def O2(at_ _:Nat)(_:Unit):Out sf:=.inl ((at_:Int),(false,((0:Int),())))
def O1(n:aD)(d at_:Nat)(q:Bool×List Bool×List Bool):Out sf:=.inr ((d:Int),((at_:Int),(q.1,nt n (q.2.1,(q.2.2,())))))
theorem VJ{m W:Nat}{now:List Bool}(hm:m=2^n.aM.length){k:Nat}{q:Bool×List Bool×List Bool}(h:q.2.1.length=W/\q.2.2.length=W) :
  (∃r,kj (bW n) m now k q=.inl r)\/∃q2,kj (bW n) m now k q=.inr q2/\q2.2.1.length=W/\q2.2.2.length=W:=by
 unfold kj;cases now.getD k false with
 |false=>exact .inr ⟨q,rfl,h⟩|true=>
  try dsimp only
  cases q.2.1.getD k false with
  |true=>exact .inr ⟨q,rfl,h⟩|false=>
   try dsimp only
   cases(gN (bW n) k q.2.2 m).1 with|true=>exact .inl ⟨_,rfl⟩|false=>exact .inr ⟨_,rfl,by rw[List.length_set];exact h.1,(vm _ _ _ _).trans h.2⟩
theorem aiL{m d at_:Nat}(hm:m=2^n.aM.length){now:List Bool}(hn:now.length=2^wid n){q:Bool×List Bool×List Bool}(h:q.2.1.length=2^wid n/\q.2.2.length=2^wid n) :
  yO ((d:Int),((at_:Int),(q.1,((0:Int),nt n (q.2.1,(now,(q.2.2,())))))))=some (mh (fun r:Nat×Unit=>O2 at_ r.1 r.2) (O1 n d at_) (fy (kj (bW n) m now) 0 (2^wid n) q)):=by
 have hp:=kO t;unfold yO;delta fg;refine sM (kj (bW n) m now) (fun(k:Nat) (q:Bool×List Bool×List Bool)=>((d:Int),((at_:Int),(q.1,((k:Int),nt n (q.2.1,(now,(q.2.2,())))))))) (O2 at_) (O1 n d at_)
  (fun _ q=>q.2.1.length=2^wid n/\q.2.2.length=2^wid n) (2^wid n) ?_ ?_ ?_ (2^wid n) 0 q (by omega) h NN (bt (by omega))
 .intro k q hk h;exact VJ t ft hm h
 .intro q h;exact ag (aA (show ¬((2^wid n:Nat):Int)<(now.length:Int) by omega)) rfl
 .intro k q hk h;obtain⟨h1,h2⟩:=h;have g1:=zF (L:=now) (i:=k) (by omega);have g2:=zF (L:=q.2.1) (i:=k) (by omega);have i1:aq (k:Int) (List.length now)=true:=aK ⟨by omega,by omega⟩;have i2:aq (k:Int) (List.length q.2.1)=true:=aK ⟨by omega,by omega⟩;have hk1:IntKind.wrap .i64 ((k:Int)+1)=((k+1:Nat):Int):=bG (x:=(k:Int)+1) (n:=k+1) (by omega) (by omega);have e1:=Uv t ft (k:=k) (by omega);have e2:=ag9 t ft (k:=k) hm q.2.2 h2;have e:∀(p r:Int) (A:Bool) (B C D:List Bool),p=r->B=D->(some (.inl ((d:Int),((at_:Int),(A,(p,nt n (B,(now,(C,())))))))):Option (TL yv.σs⊕Out sf))=some (.inl ((d:Int),((at_:Int),(A,(r,nt n (D,(now,(C,())))))))):=by rintro _ _ _ _ _ _ rfl rfl;rfl
  refine ao (ak (show(k:Int)<(now.length:Int) by omega)) (ai i1 ?_);unfold kj;cases hn':now.getD k false with|false=>exact ao (fZ (g1.trans hn')) (e _ _ _ _ _ _ hk1 rfl)|true=>refine ag (dH (g1.trans hn')) (ai i2 ?_);cases hs:q.2.1.getD k false with|true=>exact ao (show aV false true (gt .bool q.2.1 (k:Int))=true from by rw[g2,hs];rfl) (e _ _ _ _ _ _ hk1 rfl)|false=>refine ag (show aV false true (gt .bool q.2.1 (k:Int))=false from by rw[g2,hs];rfl) (ai i2 (af e1 (af e2 ?_)));cases hb:(gN (bW n) k q.2.2 m).1 with|true=>exact ao rfl rfl|false=>exact ag rfl (e _ _ _ _ _ _ hk1 (congrArg (fun z=>List.set q.2.1 z true) (Int.toNat_natCast k)))
def o9(i:Nat)(r:Unit⊕List Bool×List Bool):Out uO:=match r with|.inl _=>.inl (((i+1:Nat):Int),(false,((0:Int),())))|.inr q=>.inr (q.1,(q.2,()))
theorem VH{m W:Nat}(hm:m=2^n.aM.length){i:Nat}{q:List Bool×List Bool}(h:q.1.length=W/\q.2.length=W) :
  (∃r,iX (bW n) m W i q=.inl r/\∀q,r=Sum.inr q->q.1.length=W/\q.2.length=W)\/∃q2,iX (bW n) m W i q=.inr q2/\q2.1.length=W/\q2.2.length=W:=by
 unfold iX;rcases pA (stp:=kj (bW n) m q.2) (fun _ q=>q.2.1.length=W/\q.2.2.length=W) (fun _ _=>True) W (fun i q _ h=>by
  rcases VJ t ft hm h with⟨r,e⟩|⟨q2,e,h2⟩
  .exact .inl ⟨r,e,trivial⟩
  .exact .inr ⟨q2,e,h2⟩) W 0 (false,q.1,List.replicate W false) (by omega) ⟨h.1,mQ⟩with⟨r,e,_⟩|⟨q2,e,h2⟩
 .rw[e];exact .inl ⟨_,rfl,fun q h=>by cases h⟩
 .rw[e]
  try dsimp only
  cases q2.1 with
  |false=>exact .inl ⟨_,rfl,fun q h=>by cases h;exact h2⟩
  |true=>exact .inr ⟨_,rfl,h2⟩
theorem ajr{m d:Nat}(hm:m=2^n.aM.length)(hd:d<=100000){q:List Bool×List Bool}(h:q.1.length=2^wid n/\q.2.length=2^wid n) :
  Sr ((d:Int),((1:Int),nt n (q.1,(q.2,()))))=some (mh (fun r=>o9 r.1 r.2) (fun q=>o9 0 (.inr q)) (fy (iX (bW n) m (2^wid n)) 0 d q)):=by
 have hp:=kO t;have mm:=IB t ft;unfold Sr;delta iZ;refine sM (iX (bW n) m (2^wid n)) (fun(i:Nat) (q:List Bool×List Bool)=>((d:Int),(((i+1:Nat):Int),nt n (q.1,(q.2,()))))) o9 (fun q=>o9 0 (.inr q))
  (fun _ q=>q.1.length=2^wid n/\q.2.length=2^wid n) d ?_ ?_ ?_ d 0 q (by omega) h NN (bt (by omega))
 .intro i q hi h;rcases VH t ft (i:=i) hm h with⟨r,e,_⟩|⟨q2,e,h2⟩
  .exact .inl ⟨r,e⟩
  .exact .inr ⟨q2,e,h2⟩
 .intro q h;exact ag (aA (show ¬((d+1:Nat):Int)<=(d:Int) by omega)) rfl
 .intro i q hi h;have e14:=aiL t ft (d:=d) (at_:=i+1) hm h.2 (q:=(false,q.1,List.replicate (2^wid n) false)) ⟨h.1,mQ⟩;have hz:List.replicate (Int.toNat ((2^wid n:Nat):Int)) (Sh.zero .bool)=List.replicate (2^wid n) false:=by rw[Int.toNat_natCast];rfl
  have e14':∀z:List Bool,z=List.replicate (2^wid n) false->yO ((d:Int),(((i+1:Nat):Int),(false,((0:Int),nt n (q.1,(q.2,(z,())))))))=some (mh (fun r:Nat×Unit=>O2 (i+1) r.1 r.2) (O1 n d (i+1)) (fy (kj (bW n) m q.2) 0 (2^wid n) (false,q.1,List.replicate (2^wid n) false))):=by rintro _ rfl;exact e14
  have hi1:IntKind.wrap .i64 (((i+1:Nat):Int)+1)=((i+1+1:Nat):Int):=bG (by omega) (by omega);refine ao (ak (show((i+1:Nat):Int)<=(d:Int) by omega)) (af mm (ai (O0 hp) (af (e14' _ hz) ?_)));unfold iX;generalize fy (kj (bW n) m q.2) 0 (2^wid n) (false,q.1,List.replicate (2^wid n) false)=r;rcases r with r|r
  .rfl
  .try dsimp only
   have e:∀(p q:Int) (A B:List Bool),p=q->(some (.inl ((d:Int),(p,nt n (A,(B,()))))):Option (TL yF.σs⊕Out uO))=some (.inl ((d:Int),(q,nt n (A,(B,()))))):=by rintro _ _ _ _ rfl;rfl
   cases hf:r.1 with|false=>exact ao (fZ hf) rfl|true=>exact ag (dH hf) (e _ _ _ _ hi1)
def oF(n:aD):List Bool×List Bool:=(List.replicate (2^wid n) false,mark n (h9 n (2^wid n)) (List.replicate (2^wid n) false))
theorem afj{m d:Nat}(hm:m=2^n.aM.length)(hd:d<=100000):Sq (bz n,((d:Int),()))=some (Aa (2^wid n) (fy (iX (bW n) m (2^wid n)) 0 d (oF n))):=by
 have hp:=kO t;have mm:=IB t ft;have es:=afk t ft;have e5:=ajq t ft (d:Int) (List.replicate (2^wid n) false);have hl:(oF n).1.length=2^wid n/\(oF n).2.length=2^wid n:=⟨mQ,(zA _ _ _).trans mQ⟩;have e9:=ajr t ft hm hd hl;have hz:List.replicate (Int.toNat ((2^wid n:Nat):Int)) (Sh.zero .bool)=List.replicate (2^wid n) false:=by rw[Int.toNat_natCast];rfl
 have e5':∀z:List Bool,z=List.replicate (2^wid n) false->GA ((d:Int),(fK n (2^wid n),((0:Int),nt n (z,(z,())))))=some ((d:Int),nt n (List.replicate (2^wid n) false,(mark n (h9 n (2^wid n)) (List.replicate (2^wid n) false),()))):=by rintro _ rfl;exact e5
 refine af mm (ai (O0 hp) (af mm (ai (O0 hp) (af es (af (e5' _ hz) (af e9 ?_))))));rcases pA (stp:=iX (bW n) m (2^wid n)) (fun _ q=>q.1.length=2^wid n/\q.2.length=2^wid n) (fun _ r=>∀q,r=Sum.inr q->q.1.length=2^wid n/\q.2.length=2^wid n) d (fun i q _ h=>VH t ft hm h) d 0 (oF n) (by omega) hl with⟨⟨i,x|y⟩,e,_,hJ⟩|⟨q2,e,h2⟩
 .rw[e];rfl
 .rw[e];obtain⟨a,b⟩:=hJ y rfl;exact af (VG y.1 y.2 _ a b hp) rfl
 .rw[e];exact af (VG q2.1 q2.2 _ h2.1 h2.2 hp) rfl
end
theorem IE{σ:Sh}{k x:Int}{v:σ.T}:∀(M:dp σ),dI (dR k v M) x=(decide (k=x)||dI M x)
 |[]=>by show(match decide (k=x)with|true=>true|false=>false)=(decide (k=x)||false);cases decide (k=x)<;>rfl
 |p::M=>by
  unfold dR;cases h1:decide (k<p.1)with
  |true=>show(match decide (k=x)with|true=>true|false=>dI (p::M) x)=_;cases decide (k=x)<;>rfl
  |false=>
   cases h2:decide (p.1=k)with
   |true=>have e:=of_decide_eq_true h2;show(match decide (k=x)with|true=>true|false=>dI M x)=(decide (k=x)||(match decide (p.1=x)with|true=>true|false=>dI M x));rw[e];cases decide (k=x)<;>rfl
   |false=>show(match decide (p.1=x)with|true=>true|false=>dI (dR k v M) x)=(decide (k=x)||(match decide (p.1=x)with|true=>true|false=>dI M x));rw[IE M];cases decide (p.1=x)<;>cases decide (k=x)<;>rfl
def nK(c:fb)(P:Nat->Nat->Prop)(x:Nat):Prop:=∃k y,P k y/\c.fi k y=true/\c.nx k y=x
def mr(c:fb)(k y:Nat):Prop:=c.fi k y=true/\0<=c.bd k y
structure nS(c:fb)(h0:lY)(q:Qs)(P:Nat->Nat->Prop):Prop where
 has:∀x:Nat,dI q.how (x:Int)=true↔dI h0 (x:Int)=true\/nK c P x
 fJ:∀x:Nat,x∈q.next↔dI h0 (x:Int)=false/\nK c P x
 no:∀k y,P k y->¬mr c k y
theorem nS.congr{c:fb}{h0:lY}{q:Qs}{P P':Nat->Nat->Prop}(h:nS c h0 q P)(e:∀k y,P k y↔P' k y):nS c h0 q P':=by have hc:∀x,nK c P x↔nK c P' x:=fun x=>⟨fun⟨k,y,a,b⟩=>⟨k,y,(e k y).1 a,b⟩,fun⟨k,y,a,b⟩=>⟨k,y,(e k y).2 a,b⟩⟩;exact⟨fun x=>by rw[h.has,hc],fun x=>by rw[h.fJ,hc],fun k y p=>h.no k y ((e k y).2 p)⟩
theorem zI{c:fb}{P:Nat->Nat->Prop}{k y:Nat}(hf:c.fi k y=true)(x:Nat):nK c (fun k' y'=>P k' y'\/(k'=k/\y'=y)) x↔nK c P x\/c.nx k y=x:=by
 constructor
 .rintro⟨k',y',a|⟨rfl,rfl⟩,b,d⟩
  .exact .inl ⟨k',y',a,b,d⟩
  .exact .inr d
 .rintro(⟨k',y',a,b,d⟩|d)
  .exact⟨k',y',.inl a,b,d⟩
  .exact⟨k,y,.inr ⟨rfl,rfl⟩,hf,d⟩
theorem UZ{c:fb}{P:Nat->Nat->Prop}{k y:Nat}(hf:c.fi k y=false)(x:Nat):nK c (fun k' y'=>P k' y'\/(k'=k/\y'=y)) x↔nK c P x:=by
 constructor
 .rintro⟨k',y',a|⟨rfl,rfl⟩,b,d⟩
  .exact⟨k',y',a,b,d⟩
  .rw[hf]at b;cases b
 .rintro⟨k',y',a,b,d⟩;exact⟨k',y',.inl a,b,d⟩
theorem agO{n:aD}{c:fb}{h0:lY}{P:Nat->Nat->Prop}{k y:Nat}{q:Qs}(h:nS c h0 q P) :
  (∃q2,n4 n c k y q=.inl q2/\mr c k y)\/∃q2,n4 n c k y q=.inr q2/\nS c h0 q2 (fun k' y'=>P k' y'\/(k'=k/\y'=y)):=by
 unfold n4;cases hf:c.fi k y with
 |false=>
  refine .inr ⟨_,rfl,⟨fun x=>?_,fun x=>?_,?_⟩⟩
  .rw[UZ hf];exact h.has x
  .rw[UZ hf];exact h.fJ x
  .rintro k' y' (a|⟨rfl,rfl⟩) hh
   .exact h.no k' y' a hh
   .rw[hh.1]at hf;cases hf
 |true=>
  by_cases hb:0<=c.bd k y
  .rw[bg hb];exact .inl ⟨_,rfl,hf,hb⟩
  .rw[bU hb];have hno:∀k' y',(P k' y'\/(k'=k/\y'=y))->¬mr c k' y':=by
    rintro k' y' (a|⟨rfl,rfl⟩) hh
    .exact h.no k' y' a hh
    .exact hb hh.2
   cases hm:dI q.how (c.nx k y:Int)with
   |true=>
    refine .inr ⟨_,rfl,⟨fun x=>?_,fun x=>?_,hno⟩⟩
    .rw[zI hf];show dI q.how (x:Int)=true↔_;constructor
     .intro a;rcases(h.has x).1 a with a|a
      .exact .inl a
      .exact .inr (.inl a)
     .rintro(a|a|rfl)
      .exact(h.has x).2 (.inl a)
      .exact(h.has x).2 (.inr a)
      .exact hm
    .rw[zI hf];show x∈q.next↔_;rw[h.fJ];constructor
     .rintro⟨a,b⟩;exact⟨a,.inl b⟩
     .rintro⟨a,b|rfl⟩
      .exact⟨a,b⟩
      .rcases(h.has _).1 hm with b|b
       .rw[b]at a;cases a
       .exact⟨a,b⟩
   |false=>
    refine .inr ⟨_,rfl,⟨fun x=>?_,fun x=>?_,hno⟩⟩
    .rw[zI hf];show dI (dR (σ:=gj) (c.nx k y:Int) ((k:Int),((y:Int),())) q.how) (x:Int)=true↔_;rw[show dI (dR (σ:=gj) (c.nx k y:Int) ((k:Int),((y:Int),())) q.how) (x:Int)=(decide ((c.nx k y:Int)=(x:Int))||dI q.how (x:Int))from IE (σ:=gj) _];rw[Bool.or_eq_true,h.has,decide_eq_true_iff];constructor
     .rintro(a|a|a)
      .exact .inr (.inr (by omega))
      .exact .inl a
      .exact .inr (.inl a)
     .rintro(a|a|a)
      .exact .inr (.inl a)
      .exact .inr (.inr a)
      .exact .inl (by omega)
    .rw[zI hf];show x∈q.next++[c.nx k y]↔_;rw[List.mem_append,h.fJ,List.mem_singleton];constructor
     .rintro(⟨a,b⟩|rfl)
      .exact⟨a,.inl b⟩
      .refine⟨?_,.inr rfl⟩;cases hq:dI h0 (c.nx k y:Int)with|false=>rfl|true=>rw[(h.has _).2 (.inl hq)]at hm;cases hm
     .rintro⟨a,b|rfl⟩
      .exact .inl ⟨a,b⟩
      .exact .inr rfl
theorem ahn{n:aD}{c:fb}{h0:lY}{P:Nat->Nat->Prop}{k m:Nat}{q:Qs}(h:nS c h0 q P) :
  (∃r,qw n c m k q=.inl r/\∃y,y<m/\mr c k y)\/∃q2,qw n c m k q=.inr q2/\nS c h0 q2 (fun k' y'=>P k' y'\/(k'=k/\y'<m)):=by
 rcases pA (stp:=n4 n c k) (fun i q=>nS c h0 q (fun k' y'=>P k' y'\/(k'=k/\y'<i))) (fun i _=>mr c k i) m (fun i q hi h=>by
  rcases agO (n:=n) (k:=k) (y:=i) h with⟨r,e,a⟩|⟨q2,e,a⟩
  .exact .inl ⟨r,e,a⟩
  .exact .inr ⟨q2,e,a.congr (fun k' y'=>by
    constructor
    .rintro((a|⟨a,b⟩)|⟨a,b⟩)
     .exact .inl a
     .exact .inr ⟨a,by omega⟩
     .exact .inr ⟨a,by omega⟩
    .rintro(a|⟨a,b⟩)
     .exact .inl (.inl a)
     .by_cases g:y'=i
      .exact .inr ⟨a,g⟩
      .exact .inl (.inr ⟨a,by omega⟩))⟩) m 0 q (by omega) (h.congr (fun k' y'=>⟨.inl,fun a=>a.elim id (fun b=>absurd b.2 (by omega))⟩))with⟨r,e,hi,a⟩|⟨q2,e,a⟩
 .exact .inl ⟨r,e,r.1,hi,a⟩
 .exact .inr ⟨q2,e,a⟩
theorem ahm{n:aD}{c:fb}{m:Nat}{l:List Nat}(h0:lY)(ls:List Bool)(rs:List dB) :
  (∃r,pw n c m l ⟨h0,[],ls,rs⟩=.inl r/\∃k y,k∈l/\y<m/\mr c k y)\/∃q2,pw n c m l ⟨h0,[],ls,rs⟩=.inr q2/\nS c h0 q2 (fun k y=>k∈l/\y<m):=by
 have hat:∀i,i<l.length->l[i]?=some (l.getD i 0):=fun i hi=>by rw[dC,aT hi];rfl
 rcases pA (stp:=DZ n c m l) (fun i q=>nS c h0 q (fun k y=>k∈l.take i/\y<m)) (fun i r=>∃k y,k∈l/\y<m/\mr c k y) l.length (fun i q hi h=>by
  have hm:l.take (i+1)=l.take i++[l.getD i 0]:=Pl.cW (hat i hi);rcases ahn (n:=n) (k:=l.getD i 0) (m:=m) h with⟨r,e,y,a,b⟩|⟨q2,e,a⟩
  .exact .inl ⟨r,e,l.getD i 0,y,dn (hat i hi),a,b⟩
  .exact .inr ⟨q2,e,a.congr (fun k' y'=>by
    rw[hm,List.mem_append,List.mem_singleton];constructor
    .rintro(⟨a,b⟩|⟨a,b⟩)
     .exact⟨.inl a,b⟩
     .exact⟨.inr a,b⟩
    .rintro⟨a|a,b⟩
     .exact .inl ⟨a,b⟩
     .exact .inr ⟨a,b⟩)⟩) l.length 0 ⟨h0,[],ls,rs⟩ (by omega) ⟨fun x=>⟨.inl,fun a=>a.elim id (fun⟨k,y,b,_⟩=>absurd b.1 (by rw[List.take_zero];simp))⟩,fun x=>⟨(fun a=>nomatch a),fun⟨_,k,y,b,_⟩=>absurd b.1 (by rw[List.take_zero];simp)⟩,fun k y a=>absurd a.1 (by rw[List.take_zero];simp)⟩with⟨r,e,hi,a⟩|⟨q2,e,a⟩
 .exact .inl ⟨r,e,a⟩
 .exact .inr ⟨q2,e,by rw[dt]at a;exact a⟩
def On(b:List Bool)(x:Nat):Prop:=b.getD x false=true
theorem I0{b:List Bool}{i x:Nat}(hi:i<b.length):On (b.set i true) x↔x=i\/On b x:=by
 unfold On;rw[dC,dC,List.getElem?_set];by_cases h:i=x
 .subst h;rw[if_pos rfl,if_pos hi];exact⟨fun _=>.inl rfl,fun _=>rfl⟩
 .rw[if_neg h];exact⟨.inr,fun a=>a.elim (fun a=>absurd a.symm h) id⟩
theorem vp{W x:Nat}:¬On (List.replicate W false) x:=by unfold On;rw[dC,List.getElem?_replicate];split<;>simp
theorem U0{c:fb}{W k:Nat}{next:List Bool}(hn:∀k y,c.nx k y<W)(hl:next.length=W):∀m,((gN c k next m).1=true↔∃y,y<m/\mr c k y)/\∀x,On (gN c k next m).2 x↔On next x\/∃y,y<m/\c.fi k y=true/\c.nx k y=x
 |0=>⟨⟨(fun h=>nomatch h),fun⟨y,a,_⟩=>absurd a (by omega)⟩,fun x=>⟨.inl,fun a=>a.elim id (fun⟨y,a,_⟩=>absurd a (by omega))⟩⟩
 |m+1=>by
  obtain⟨h1,h2⟩:=U0 hn hl m (k:=k);rw[IA];unfold tU;have split:∀(p:Nat->Prop),(∃y,y<m+1/\p y)↔(∃y,y<m/\p y)\/p m:=fun p=>by
   constructor
   .rintro⟨y,a,b⟩;by_cases g:y=m
    .subst g;exact .inr b
    .exact .inl ⟨y,by omega,b⟩
   .rintro(⟨y,a,b⟩|b)
    .exact⟨y,by omega,b⟩
    .exact⟨m,by omega,b⟩
  cases hf:c.fi k m with
  |false=>
   refine⟨?_,fun x=>?_⟩
   .rw[split,h1];exact⟨.inl,fun a=>a.elim id (fun b=>by rw[b.1]at hf;cases hf)⟩
   .rw[split,h2];exact⟨fun a=>a.elim .inl (fun b=>.inr (.inl b)),fun a=>a.elim .inl (fun b=>b.elim .inr (fun d=>by rw[d.1]at hf;cases hf))⟩
  |true=>
   refine⟨?_,fun x=>?_⟩
   .show((gN c k next m).1||decide (0<=c.bd k m))=true↔_;rw[split,Bool.or_eq_true,h1,decide_eq_true_iff];exact⟨fun a=>a.elim .inl (fun b=>.inr ⟨hf,b⟩),fun a=>a.elim .inl (fun b=>.inr b.2)⟩
   .show On ((gN c k next m).2.set (c.nx k m) true) x↔_;rw[split,I0 (by rw[vm,hl];exact hn k m),h2];constructor
    .rintro(rfl|a|a)
     .exact .inr (.inr ⟨hf,rfl⟩)
     .exact .inl a
     .exact .inr (.inl a)
    .rintro(a|a|a)
     .exact .inr (.inl a)
     .exact .inr (.inr a)
     .exact .inl a.2.symm
structure vJ(c:fb)(m W:Nat)(seen now:List Bool)(i:Nat)(q:Bool×List Bool×List Bool):Prop where
 l1:q.2.1.length=W
 l2:q.2.2.length=W
 s:∀x,On q.2.1 x↔On seen x\/(x<i/\On now x)
 nx:∀x,On q.2.2 x↔nK c (fun k y=>(k<i/\On now k/\¬On seen k)/\y<m) x
 fr:q.1=true↔∃k,k<i/\On now k/\¬On seen k
 no:∀k y,k<i->On now k->¬On seen k->y<m->¬mr c k y
theorem ahS{c:fb}{m W:Nat}{seen now:List Bool}(hn:∀k y,c.nx k y<W)(hl:now.length=W){i:Nat}{q:Bool×List Bool×List Bool}(hi:i<W)(h:vJ c m W seen now i q) :
  (∃r,kj c m now i q=.inl r/\On now i/\¬On seen i/\∃y,y<m/\mr c i y)\/∃q2,kj c m now i q=.inr q2/\vJ c m W seen now (i+1) q2:=by
 have split:∀(p:Nat->Prop),(∃y,y<i+1/\p y)↔(∃y,y<i/\p y)\/p i:=fun p=>by
  constructor
  .rintro⟨y,a,b⟩;by_cases g:y=i
   .subst g;exact .inr b
   .exact .inl ⟨y,by omega,b⟩
  .rintro(⟨y,a,b⟩|b)
   .exact⟨y,by omega,b⟩
   .exact⟨i,by omega,b⟩
 have skip:¬(On now i/\¬On seen i)->(On now i->On q.2.1 i)->vJ c m W seen now (i+1) q:=by
  intro g g2;refine⟨h.l1,h.l2,fun x=>?_,fun x=>?_,?_,?_⟩
  .rw[h.s];constructor
   .rintro(a|a)
    .exact .inl a
    .exact .inr ⟨by omega,a.2⟩
   .rintro(a|⟨a,b⟩)
    .exact .inl a
    .by_cases e:x=i
     .subst e;exact(h.s x).1 (g2 b)
     .exact .inr ⟨by omega,b⟩
  .rw[h.nx];constructor
   .rintro⟨k,y,⟨a,b⟩,d⟩;exact⟨k,y,⟨⟨by omega,a.2⟩,b⟩,d⟩
   .rintro⟨k,y,⟨a,b⟩,d⟩;by_cases e:k=i
    .subst e;exact absurd a.2 g
    .exact⟨k,y,⟨⟨by omega,a.2⟩,b⟩,d⟩
  .rw[h.fr,split];exact⟨.inl,fun a=>a.elim id (fun b=>absurd b g)⟩
  .intro k y hk a b;by_cases e:k=i
   .subst e;exact absurd ⟨a,b⟩ g
   .exact h.no k y (by omega) a b
 have hsi:On q.2.1 i↔On seen i:=by rw[h.s];exact⟨fun a=>a.elim id (fun b=>absurd b.1 (by omega)),.inl⟩
 unfold kj;cases hno:now.getD i false with
 |false=>
  have g:¬On now i:=by unfold On;rw[hno];simp
  exact .inr ⟨q,rfl,skip (fun a=>g a.1) (fun a=>absurd a g)⟩
 |true=>
  cases hse:q.2.1.getD i false with
  |true=>exact .inr ⟨q,by dsimp only,skip (fun a=>a.2 (hsi.1 hse)) (fun _=>hse)⟩|false=>
   have ns:¬On seen i:=fun a=>by have:=hsi.2 a;unfold On at this;rw[hse]at this;cases this
   obtain⟨c1,c2⟩:=U0 (k:=i) hn h.l2 m
   try dsimp only
   cases hb:(gN c i q.2.2 m).1 with
   |true=>exact .inl ⟨(),rfl,hno,ns,c1.1 hb⟩|false=>
    refine .inr ⟨_,rfl,⟨by rw[List.length_set];exact h.l1,(vm _ _ _ _).trans h.l2,fun x=>?_,fun x=>?_,?_,?_⟩⟩
    .show On (q.2.1.set i true) x↔_;rw[I0 (by rw[h.l1];exact hi),h.s];constructor
     .rintro(rfl|a|⟨a,b⟩)
      .exact .inr ⟨by omega,hno⟩
      .exact .inl a
      .exact .inr ⟨by omega,b⟩
     .rintro(a|⟨a,b⟩)
      .exact .inr (.inl a)
      .by_cases e:x=i
       .exact .inl e
       .exact .inr (.inr ⟨by omega,b⟩)
    .show On (gN c i q.2.2 m).2 x↔_;rw[c2,h.nx];constructor
     .rintro(⟨k,y,⟨a,b⟩,d⟩|⟨y,a,b,d⟩)
      .exact⟨k,y,⟨⟨by omega,a.2⟩,b⟩,d⟩
      .exact⟨i,y,⟨⟨by omega,hno,ns⟩,a⟩,b,d⟩
     .rintro⟨k,y,⟨a,b⟩,d⟩;by_cases e:k=i
      .subst e;exact .inr ⟨y,b,d⟩
      .exact .inl ⟨k,y,⟨⟨by omega,a.2⟩,b⟩,d⟩
    .exact⟨fun _=>⟨i,by omega,hno,ns⟩,fun _=>rfl⟩
    .intro k y hk a b hy hh;by_cases e:k=i
     .subst e;rw[c1.2 ⟨y,hy,hh⟩]at hb;cases hb
     .exact h.no k y (by omega) a b hy hh
theorem IQ{c:fb}{m W:Nat}{seen now:List Bool}(hn:∀k y,c.nx k y<W)(hs:seen.length=W)(hl:now.length=W) :
  (∃r,fy (kj c m now) 0 W (false,seen,List.replicate W false)=.inl r/\∃k y,k<W/\On now k/\¬On seen k/\y<m/\mr c k y) \/
  ∃q2,fy (kj c m now) 0 W (false,seen,List.replicate W false)=.inr q2/\vJ c m W seen now W q2:=by
 rcases pA (stp:=kj c m now) (vJ c m W seen now) (fun i _=>On now i/\¬On seen i/\∃y,y<m/\mr c i y) W (fun i q hi h=>ahS hn hl hi h) W 0 (false,seen,List.replicate W false) (by omega)
  ⟨hs,mQ,fun x=>⟨.inl,fun a=>a.elim id (fun b=>absurd b.1 (by omega))⟩,fun x=>⟨fun a=>absurd a vp,fun⟨k,y,a,_⟩=>absurd a.1.1 (by omega)⟩,⟨(fun a=>nomatch a),fun⟨k,a,_⟩=>absurd a (by omega)⟩,fun k y a=>absurd a (by omega)⟩with⟨r,e,hi,a,b,y,d,f⟩|⟨q2,e,a⟩
 .exact .inl ⟨r,e,r.1,y,hi,a,b,d,f⟩
 .exact .inr ⟨q2,e,a⟩
theorem Uz{σ:Sh}{k:Int}:∀{M:dp σ},dI M k=true->∃p∈M,p.1=k
 |[],h=>nomatch h
 |p::M,h=>by unfold dI at h;cases hd:decide (p.1=k)with|true=>exact⟨p,List.mem_cons_self ..,of_decide_eq_true hd⟩|false=>rw[hd]at h;obtain⟨q,hq,e⟩:=Uz h;exact⟨q,List.mem_cons_of_mem _ hq,e⟩
theorem afH{W:Nat}{q:Qs}(h:fe W q){seen:List Bool}(hs:∀x,x<W->(On seen x↔dI q.how (x:Int)=true)):q.how.length=gr seen W:=by
 have hp:(q.how.map fun p=>p.1.toNat).Perm ((List.range W).filter fun j=>seen.getD j false):=by
  refine(List.perm_ext_iff_of_nodup ?_ ?_).2 fun x=>?_
  .rw[List.nodup_iff_pairwise_ne,List.pairwise_map];refine List.Pairwise.imp_of_mem (fun{a b} ha hb hab=>?_) h.j3;have h1:=h.key a ha;have h2:=h.key b hb;omega
  .exact List.Pairwise.filter _ (List.nodup_range)
  .rw[List.mem_map,List.mem_filter,List.mem_range];constructor
   .rintro⟨p,hp,rfl⟩;have h1:=h.key p hp;have hx:p.1.toNat<W:=by omega
    refine⟨hx,(hs _ hx).2 ?_⟩;cases hm:dI q.how ((p.1.toNat:Nat):Int)with|true=>rfl|false=>exact absurd (by omega:p.1=((p.1.toNat:Nat):Int)) (ID hm p hp)
   .rintro⟨hx,ho⟩;obtain⟨p,hp,e⟩:=Uz ((hs x hx).1 ho);exact⟨p,hp,by omega⟩
 have:=hp.length_eq;rw[aO]at this;exact this
theorem Wd{b:List Bool}{W x:Nat}(hl:b.length=W)(h:On b x):x<W:=by
 unfold On at h;rw[dC]at h;by_cases q:x<b.length
 .omega
 .rw[List.getElem?_eq_none (by omega)]at h;cases h
theorem zH{seen now:List Bool}{W:Nat}(hn:now.length=W):ke seen now W=true↔∀x,On now x->On seen x:=by
 unfold ke;rw[List.all_eq_true];constructor
 .intro h x hx;have:=h x (List.mem_range.2 (Wd hn hx));unfold On at hx |-;rw[hx]at this;exact this
 .intro h x _;cases hx:now.getD x false with|false=>rfl|true=>rw[show seen.getD x false=true from h x hx];rfl
theorem afu{c:fb}{m W:Nat}(hn:∀k y,c.nx k y<W):∀j i seen now,seen.length=W->now.length=W->(∀x,On now x->On seen x) ->
  Aa W (fy (iX c m W) i j (seen,now))=((0:Int),(true,((gr seen W:Int),())))
 |0,i,seen,now,h1,h2,h=>by show((0:Int),(ke seen now W,((gr seen W:Int),())))=_;rw[(zH h2).2 h]|j+1,i,seen,now,h1,h2,h=>by
  rcases IQ (c:=c) (m:=m) hn h1 h2 with⟨r,e,k,y,hk,a,b,_⟩|⟨q2,e,K⟩
  .exact absurd (h k a) b
  .have hf:q2.1=false:=by cases hq:q2.1 with|false=>rfl|true=>obtain⟨k,_,a,b⟩:=K.fr.1 hq;exact absurd (h k a) b
   have es:iX c m W i (seen,now)=.inl (.inr (q2.2.1,q2.2.2)):=by unfold iX;rw[e];dsimp only;rw[hf]
   unfold fy;rw[es];show((0:Int),(ke q2.2.1 q2.2.2 W,((gr q2.2.1 W:Int),())))=_;have hc:gr q2.2.1 W=gr seen W:=by
    unfold gr;refine congrArg List.length (List.filter_congr fun x _=>?_);have hx:=K.s x;have:On q2.2.1 x↔On seen x:=by rw[hx];exact⟨fun a=>a.elim id (fun b=>h x b.2),.inl⟩
    unfold On at this;cases h1:q2.2.1.getD x false<;>cases h2:seen.getD x false<;>simp_all
   rw[hc,(zH K.l2).2 (fun x hx=>by obtain⟨k,y,⟨⟨_,a,b⟩,_⟩,_⟩:=(K.nx x).1 hx;exact absurd (h k a) b)]
structure Aj(W:Nat)(st:Int)(q:Qs)(seen now:List Bool):Prop where
 l1:seen.length=W
 l2:now.length=W
 ok:fe W q
 has:∀x:Nat,dI q.how (x:Int)=true↔On seen x\/On now x
 fJ:∀x:Nat,x∈q.next↔On now x/\¬On seen x
 st:st=(gr seen W:Int)
def toT(x:TL so):TL sB:=((iL (0:Int) x.1,(x.1,(x.2.1,(x.2.2.1,())))),((0:Int),()))
theorem UM{W:Nat}{st:Int}{q:Qs}{seen now:List Bool}(R:Aj W st q seen now):(q.next.length:Int)=0↔∀x,On now x->On seen x:=by
 constructor
 .intro h x hx;have e:q.next=[]:=List.eq_nil_of_length_eq_zero (by omega);by_cases g:On seen x
  .exact g
  .have:=(R.fJ x).2 ⟨hx,g⟩;rw[e]at this;exact nomatch this
 .intro h;cases e:q.next with|nil=>rfl|cons x l=>have:=(R.fJ x).1 (by rw[e];exact List.mem_cons_self ..);exact absurd (h x this.1) this.2
theorem Va{n:aD}{c:fb}{m W:Nat}(hn:∀k y,c.nx k y<W):∀j i st q seen now,Aj W st q seen now ->
  toT (Aa W (fy (iX c m W) i j (seen,now)))=Wh (fy (lG n c m) i j (st,q))
 |0,i,st,q,seen,now,R=>by
  show((decide ((0:Int)<0),((0:Int),(ke seen now W,((gr seen W:Int),())))),((0:Int),()))=((false,((0:Int),(decide ((q.next.length:Int)=0),(st,())))),((0:Int),()));have hc:ke seen now W=decide ((q.next.length:Int)=0):=by rw[Bool.eq_iff_iff,zH R.l2,decide_eq_true_iff,UM R]
  rw[hc,R.st];rfl
 |j+1,i,st,q,seen,now,R=>by
  have h0:fe W ⟨q.how,[],q.ls,q.rs⟩:=⟨R.ok.j3,R.ok.key,Nat.zero_le _,fun k hk=>nomatch hk⟩;rcases ahm (n:=n) (c:=c) (m:=m) (l:=q.next) q.how q.ls q.rs with⟨r,e4,k,y,hk,hy,hh⟩|⟨q2,e4,I⟩
  .rcases IQ (c:=c) (m:=m) hn R.l1 R.l2 with⟨r2,e,_⟩|⟨q2,e,K⟩
   .have es:iX c m W i (seen,now)=.inl (.inl ()):=by unfold iX;rw[e]
    have ep:lG n c m i (st,q)=.inl (.inl (r,q.next)):=by unfold lG;rw[e4]
    unfold fy;rw[es,ep];show((decide ((0:Int)<((i+1:Nat):Int)),(((i+1:Nat):Int),(false,((0:Int),())))),((0:Int),()))=((true,(((i+1:Nat):Int),(false,((0:Int),())))),((0:Int),()));rw[bg (by omega)]
   .have hx:=(R.fJ k).1 hk;exact absurd hh (K.no k y (R.ok.fJ k hk) hx.1 hx.2 hy)
  .have hq2:fe W q2:=by
    rcases zL (n:=n) (c:=c) (m:=m) (fun k y _ _=>hn k y) R.ok.fJ h0 with⟨r,e,_⟩|⟨q3,e,h⟩
    .rw[e4]at e;cases e
    .rw[e4]at e;cases e;exact h
   rcases IQ (c:=c) (m:=m) hn R.l1 R.l2 with⟨r2,e,k,y,hk,a,b,hy,hh⟩|⟨p,e,K⟩
   .exact absurd hh (I.no k y ⟨(R.fJ k).2 ⟨a,b⟩,hy⟩)
   .have hcm:∀x,nK c (fun k y=>k∈q.next/\y<m) x↔On p.2.2 x:=by
     intro x;rw[K.nx];constructor
     .rintro⟨k,y,⟨a,b⟩,d⟩;have:=(R.fJ k).1 a;exact⟨k,y,⟨⟨R.ok.fJ k a,this.1,this.2⟩,b⟩,d⟩
     .rintro⟨k,y,⟨⟨_,a,b⟩,g⟩,d⟩;exact⟨k,y,⟨(R.fJ k).2 ⟨a,b⟩,g⟩,d⟩
    have hsn:∀x,On p.2.1 x↔dI q.how (x:Int)=true:=by intro x;rw[K.s,R.has];exact⟨fun a=>a.elim .inl (fun b=>.inr b.2),fun a=>a.elim .inl (fun b=>.inr ⟨Wd R.l2 b,b⟩)⟩
    have hct:(q.how.length:Int)=(gr p.2.1 W:Int):=congrArg (fun z:Nat=>(z:Int)) (afH R.ok (fun x _=>hsn x));have R2:Aj W (q.how.length:Int) q2 p.2.1 p.2.2:=by
     refine⟨K.l1,K.l2,hq2,fun x=>?_,fun x=>?_,hct⟩
     .rw[I.has,hcm,hsn]
     .rw[I.fJ,hcm,hsn];constructor
      .rintro⟨a,b⟩;exact⟨b,by rw[a];simp⟩
      .rintro⟨a,b⟩;exact⟨by simpa using b,a⟩
    by_cases hz:(q2.next.length:Int)=0
    .have ep:lG n c m i (st,q)=.inl (.inr ((q.how.length:Int),q2)):=by unfold lG;rw[e4];dsimp only;rw[bg hz]
     have hcl:=(UM R2).1 hz;have er:Aa W (fy (iX c m W) i (j+1) (seen,now))=((0:Int),(true,((gr p.2.1 W:Int),()))):=by
      cases hf:p.1 with
      |false=>
       have es:iX c m W i (seen,now)=.inl (.inr (p.2.1,p.2.2)):=by unfold iX;rw[e];dsimp only;rw[hf]
       unfold fy;rw[es];show((0:Int),(ke p.2.1 p.2.2 W,((gr p.2.1 W:Int),())))=_;rw[(zH K.l2).2 hcl]
      |true=>
       have es:iX c m W i (seen,now)=.inr (p.2.1,p.2.2):=by unfold iX;rw[e];dsimp only;rw[hf]
       unfold fy;rw[es];exact afu hn j (i+1) p.2.1 p.2.2 K.l1 K.l2 hcl
     rw[er];unfold fy;rw[ep];show((decide ((0:Int)<0),((0:Int),(true,((gr p.2.1 W:Int),())))),((0:Int),()))=((false,((0:Int),(decide ((q2.next.length:Int)=0),((q.how.length:Int),())))),((0:Int),()));rw[bg hz,hct];rfl
    .have ep:lG n c m i (st,q)=.inr ((q.how.length:Int),q2):=by unfold lG;rw[e4];dsimp only;rw[bU hz]
     have hf:p.1=true:=by rw[K.fr];cases hq:q2.next with|nil=>rw[hq]at hz;exact absurd rfl hz|cons x l=>obtain⟨_,k,y,⟨a,_⟩,_⟩:=(I.fJ x).1 (by rw[hq];exact List.mem_cons_self ..);have:=(R.fJ k).1 a;exact⟨k,R.ok.fJ k a,this.1,this.2⟩
     have es:iX c m W i (seen,now)=.inr (p.2.1,p.2.2):=by unfold iX;rw[e];dsimp only;rw[hf]
     unfold fy;rw[es,ep];exact Va hn j (i+1) (q.how.length:Int) q2 p.2.1 p.2.2 R2
section
variable{n:aD}{V:Nat}(t:iS n V)
include t
theorem U6{W:Nat}:∀(L:List Nat) (b:List Bool),b.length=W->(∀k∈L,eu n k<W)->∀x,On (mark n L b) x↔On b x\/∃k∈L,eu n k=x
 |[],b,hl,h,x=>⟨.inl,fun a=>a.elim id (fun⟨k,hk,_⟩=>nomatch hk)⟩
 |k::L,b,hl,h,x=>by
  show On (mark n L (b.set (eu n k) true)) x↔_;rw[U6 L (b.set (eu n k) true) (by rw[List.length_set];exact hl) (fun j hj=>h j (List.mem_cons_of_mem _ hj)) x,I0 (by rw[hl];exact h k (List.mem_cons_self ..))];constructor
  .rintro((rfl|a)|⟨j,a,b⟩)
   .exact .inr ⟨k,List.mem_cons_self ..,rfl⟩
   .exact .inl a
   .exact .inr ⟨j,List.mem_cons_of_mem _ a,b⟩
  .rintro(a|⟨j,a,b⟩)
   .exact .inl (.inr a)
   .rcases List.mem_cons.1 a with rfl|a
    .exact .inl (.inl b.symm)
    .exact .inr ⟨j,a,b⟩
theorem UK:∀(L:List Nat) (H:lY) (x:Nat),dI (L.foldl (fun h k=>dR (σ:=gj) ((eu n k:Nat):Int) ((-1:Int),((0:Int),())) h) H) (x:Int)=true↔dI H (x:Int)=true\/∃k∈L,eu n k=x
 |[],H,x=>⟨.inl,fun a=>a.elim id (fun⟨k,hk,_⟩=>nomatch hk)⟩
 |k::L,H,x=>by
  refine(UK L _ x).trans ?_;rw[show dI (dR (σ:=gj) ((eu n k:Nat):Int) ((-1:Int),((0:Int),())) H) (x:Int)=(decide (((eu n k:Nat):Int)=(x:Int))||dI H (x:Int))from IE (σ:=gj) _];rw[Bool.or_eq_true,decide_eq_true_iff];constructor
  .rintro((a|a)|⟨j,a,b⟩)
   .exact .inr ⟨k,List.mem_cons_self ..,by omega⟩
   .exact .inl a
   .exact .inr ⟨j,List.mem_cons_of_mem _ a,b⟩
  .rintro(a|⟨j,a,b⟩)
   .exact .inl (.inr a)
   .rcases List.mem_cons.1 a with rfl|a
    .exact .inl (.inl (by omega))
    .exact .inr ⟨j,a,b⟩
theorem ag4:Aj (2^wid n) 0 (iV n) (oF n).1 (oF n).2:=by
 have hn:∀k,eu n k<2^wid n:=fun k=>Nat.lt_of_lt_of_le (mg _) (Nat.pow_le_pow_right (by omega) (qK t _ (sN t k).1));have h2:∀x,On (oF n).2 x↔∃k∈h9 n (2^wid n),eu n k=x:=by intro x;have:=U6 t (h9 n (2^wid n)) (List.replicate (2^wid n) false) mQ (fun k _=>hn k) x;exact this.trans ⟨fun a=>a.elim (fun b=>absurd b vp) id,.inr⟩
 refine⟨mQ,(zA _ _ _).trans mQ,acX t,fun x=>?_,fun x=>?_,?_⟩
 .rw[h2];refine(UK t (h9 n (2^wid n)) [] x).trans ?_;exact⟨fun a=>a.elim (fun b=>nomatch b) .inr,fun a=>a.elim (fun b=>absurd b vp) .inr⟩
 .rw[h2];show x∈(h9 n (2^wid n)).map (eu n)↔_;rw[List.mem_map];exact⟨fun a=>⟨a,vp⟩,fun a=>a.1⟩
 .have:gr (List.replicate (2^wid n) false) (2^wid n)=0:=by unfold gr;rw[List.filter_eq_nil_iff.2 (fun x _=>by have:=vp (W:=2^wid n) (x:=x);unfold On at this;exact this)];rfl
  show(0:Int)=((gr (List.replicate (2^wid n) false) (2^wid n):Nat):Int);rw[this];rfl
variable(ft:Fit n)
include ft
theorem ae9{d:Nat}(hd:d<=2000):∃x:TL so,Sq (bz n,((d:Int),()))=some x/\zn (bz n,((d:Int),()))=some (toT x):=by have e1:=afj t ft (m:=2^n.aM.length) (d:=d) rfl (by omega);have e2:=afM t ft (fun k _=>ahT t k) (m:=2^n.aM.length) rfl hd;refine⟨_,e1,?_⟩;rw[e2];exact congrArg some (Va (n:=n) (fun k y=>oG t k y) d 0 0 (iV n) (oF n).1 (oF n).2 (ag4 t)).symm
end
set_option maxRecDepth 1000000
abbrev R9:List Sh:=[ba,(.int .i64)]
abbrev Gs:List Sh:=[.bool]
abbrev adB:=TL R9->Option (TL Gs)
abbrev Sa:=Kd 4 R9 Gs
def adz(F0:SS)(F1:Tj)(F2:H8)(F3:Td)(F4:YQ)(a0:Sh.T ba)(a1:Int):Option (TL Gs):=
 aj (F4 (a0,())) fun x0=>
 br (Bool.not x0.1)
 (
  aj (F3 ()) fun x1=>
  some (x1.1,()))
 (
  br (aV false true (iL (40:Int) a1))
  (
   aj (F3 ()) fun x1=>
   some (x1.1,()))
  (
   aj (F2 (a0,(a1,()))) fun x1=>
   aj (F1 (a0,())) fun x2=>
   br (Bool.not (iQ x2.1 (0:Int)))
   (
    br (iQ x1.2.1 x2.1)
    (
     br (aV true (both (@decide _ (Bool.decEq x1.1.1 false)) (both (iQ x1.1.2.1 (0:Int)) (both (@decide _ (Bool.decEq x1.1.2.2.1 false)) (both (iQ x1.1.2.2.2.1 (0:Int)) true)))) false)
     (
      aj (F3 ()) fun x3=>
      some ((aV true x3.1 false),()))
     (
      some (false,())))
    (
     some (false,())))
   (
    br (iL a1 (0:Int))
    (
     br (iQ x1.2.1 (1:Int))
     (
      br (aV true (both (@decide _ (Bool.decEq x1.1.1 false)) (both (iQ x1.1.2.1 (0:Int)) (both (@decide _ (Bool.decEq x1.1.2.2.1 false)) (both (iQ x1.1.2.2.2.1 (0:Int)) true)))) false)
      (
       aj (F3 ()) fun x3=>
       some ((aV true x3.1 false),()))
      (
       some (false,())))
     (
      some (false,())))
    (
     aj (F0 (a0,(a1,()))) fun x3=>
     br (iQ x1.2.1 (0:Int))
     (
      br (aV true (both (@decide _ (Bool.decEq x1.1.1 (iL (0:Int) x3.1))) (both (iQ x1.1.2.1 x3.1) (both (@decide _ (Bool.decEq x1.1.2.2.1 x3.2.1)) (both (iQ x1.1.2.2.2.1 x3.2.2.1) true)))) false)
      (
       aj (F3 ()) fun x4=>
       some ((aV true x4.1 false),()))
      (
       some (false,())))
     (
      some (false,()))))))
def adA(c0:GU)(c1:He)(c2:zq)(c3:Ha)(c4:Ky) :Sa:=⟨u2 (adz c0.F c1.F c2.F c3.F c4.F),pD Tryz.func4 74 (kD c0 (kD c1 (kD c2 (kD c3 (kD c4 k0))))) e0 1 (sS l0) fun d=>by kernel_rfl⟩
def Sb:Sa:=adA SR Ti H7 Tc YR
def ady:adB:=Sb.F
