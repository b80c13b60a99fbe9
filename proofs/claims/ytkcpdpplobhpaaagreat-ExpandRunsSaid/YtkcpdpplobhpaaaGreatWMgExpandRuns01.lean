import Derived.Test.YtkcpdpplobhpaaaGreatWMgExpandRuns00
set_option linter.unusedSectionVars false
set_option linter.unusedVariables false
set_option linter.unusedSimpArgs false
set_option linter.unnecessarySimpa false
section
namespace Go.Proofs.YtkcpdpplobhpaaaGreat.V
open Go Go.RowKit Go.Proofs.YtkcpdpplobhpaaaGreat.Pl
set_option maxRecDepth 10000
section
variable{n:aB}{V:Nat}(hs:cr n V)
include hs
theorem afC{M:aV}(hM:M∈n.aa):∀l∈kP M,cQ V l:=fun l hl=>hs.lits l (by unfold cD;simp only[List.mem_append,List.mem_flatMap];exact .inl (.inr ⟨M,hM,hl⟩))
theorem ahF{M:aV}(hM:M∈n.aa)(sm:Small M):so V M:=by
 obtain⟨a1,a2,w1,w2,hr,hw,rl,wl⟩:=hs.aa M hM;have L:=afC hs hM;unfold kP at L;refine⟨sm,rl,wl,?_,?_,?_,?_,?_,?_⟩
 .intro r h;refine⟨by have:=hr r h;omega,fun x hx=>L x (List.mem_append_left _ (List.mem_flatMap.2 ⟨r,h,hx⟩)),?_⟩;have:=hs.jB r.var (by unfold bX iJ;simp only[List.mem_append,List.mem_flatMap];refine .inl (.inr ⟨M,hM,r,h,?_⟩);unfold bU;exact List.mem_map.2 ⟨0,List.mem_range.2 (by omega),by omega⟩);have v2:=hs.v2;omega
 .intro w h;have:=(hw w h).1;omega
 .intro w h;have:=(hw w h).2;omega
 .intro w h;exact L _ (List.mem_append_right _ (List.mem_flatMap.2 ⟨w,h,by unfold mV;simp⟩))
 .intro w h x hx;exact L _ (List.mem_append_right _ (List.mem_flatMap.2 ⟨w,h,by unfold mV;simp[hx]⟩))
 .intro w h x hx;exact L _ (List.mem_append_right _ (List.mem_flatMap.2 ⟨w,h,by unfold mV;simp[hx]⟩))
theorem afu:∀p,p<n.aj.length->cQ V (la n.aj p).next:=by
 intro p hp;have e:=aN hp;have e2:la n.aj p=n.aj[p]:=by unfold la;rw[bM,e];rfl
 rw[e2];refine hs.lits _ ?_;unfold cD;simp only[List.mem_append,List.mem_map];exact .inl (.inl (.inl (.inl (.inl ⟨_,dk hp,rfl⟩))))
end
theorem vf(n:aB):∀{i k:Nat},i<=k->cj n i<=cj n k:=by
 intro i k h
 induction h with
 |refl=>exact aS _|step h ih=>
  rename_i m;show cj n i<=cj n (m+1);rcases de m n.aa.length with q|q
  .rw[lZ n (aN q)];omega
  .have:cj n (m+1)=cj n m:=by unfold cj;rw[fR q,fR (by omega)]
   omega
theorem aeh(L:List aV)(m:aV):lx (L++[m])=lx L+(cq m+10*cq m*(m.reads.length+m.writes.length)):=by unfold lx;exact TG _ L m 0
theorem aeg(n:aB):∀k,lx (n.aa.take k)<=lx n.aa:=by
 intro k;have:∀(L M:List aV) (a:Nat),L.foldl (fun a m=>a+(cq m+10*cq m*(m.reads.length+m.writes.length))) a<=(L++M).foldl (fun a m=>a+(cq m+10*cq m*(m.reads.length+m.writes.length))) a:=by
  intro L M a;rw[List.foldl_append];generalize List.foldl _ a L=b
  induction M generalizing b with|nil=>exact aS _|cons x M ih=>rw[List.foldl_cons];exact dK (by omega) (ih _)
 have h:=this (n.aa.take k) (n.aa.drop k) 0;rw[List.take_append_drop]at h;exact h
theorem ago{n:aB}{V k:Nat}{M:aV}(hMk:n.aa[k]?=some M)(sm:Small M){s t1 t2:Mk}{L L2:List cu}{cv:Nat->Nat}(P:lH n V k s L cv)
  (R:Bb ⟨s.v+cq M,s.a⟩ t1 M (ia s.v M.word.toNat (2^M.addr.toNat)) M.reads.length)
  (Q:vK t1 t2 M.writes (ia s.v M.word.toNat (2^M.addr.toNat)) (L++dC s.v (cq M) (if M.any then 2 else 0)) L2 L.length M.addr.toNat M.word.toNat (2^M.addr.toNat))
  (Q2:Sp t1 t2 (10*(2^M.addr.toNat*M.word.toNat)*M.writes.length) []) (hok:so V M) :
  lH n V (k+1) t2 L2 (fun i=>if i=k then s.v else cv i):=by
 obtain⟨Z,eZ⟩:∃Z,Z=cq M:=⟨_,rfl⟩;obtain⟨W,eW⟩:∃W,W=M.word.toNat:=⟨_,rfl⟩;obtain⟨N0,eN⟩:∃N0,N0=2^M.addr.toNat:=⟨_,rfl⟩;obtain⟨st,est⟩:∃st:Int,st=(if M.any then 2 else 0):=⟨_,rfl⟩;have hZ:Z=N0*W:=by rw[eZ,eN,eW];rfl
 rw[<-est]at Q;have S:=R.sp.trans Q2;rw[dB,dS]at S;have S1:=R.sp.lo;have S2:=Q2.lo;have Shi:=S.hi;have S1':s.v+cq M<=t1.v:=S1;have P1:=P.lo;have P2:=P.hi;have hlo:s.v<=t2.v:=by omega
 have hsat:∀val,Sat val t2.a->Sat val s.a:=fun val h=>S.sat h;have hclo:∀G,k8 G t2.a->k8 G s.a:=fun G h=>S.dO h;have hL1:(L++dC s.v (cq M) st).length=L.length+Z:=by rw[aU,Ah,eZ]
 have hlen:=P.len;have hoff:=lZ n hMk;have htk:n.aa.take (k+1)=n.aa.take k++[M]:=Pl.dy hMk;have hvar2:L2.map (·.var)=L.map (·.var)++fr s.v (s.v+Z):=by rw[ahw Q.len (fun p=>(Q.vi p).1),eJ,aft,eZ]
 have lowv:∀p,p<L.length->(la L2 p).var=(la L p).var/\(la L2 p).init=(la L p).init/\(la L2 p).next=(la L p).next:=by intro p hp;obtain⟨h1,h2⟩:=Q.vi p;have h3:=Q.out p (.inl hp);rw[afr hp]at h1 h2 h3;exact⟨h1,h2,h3⟩
 have hcell:∀(i:Nat) (M':aV),i<k->n.aa[i]?=some M'->n.aj.length+cj n i+cq M'<=L.length:=by intro i M' hi hM';have h1:=lZ n hM';have h2:=vf n (show i+1<=k from hi);omega
 have lt_of:∀{M':aV}{a j:Nat},a<2^M'.addr.toNat->j<M'.word.toNat->a*M'.word.toNat+j<cq M':=by intro M' a j ha hj;have:=Nat.mul_le_mul_right M'.word.toNat (show a+1<=2^M'.addr.toNat from ha);rw[Nat.succ_mul a]at this;unfold cq;omega
 have wlt:∀(val:Int->Bool) (r:jb),r∈M.reads->cd (r.addr.map (aZ val))<2^M.addr.toNat:=by intro val r hr;have:=pH (r.addr.map (aZ val));rw[aI,(hok.ra r hr).1]at this;exact this
 refine⟨by omega,?_,?_,?_,?_,?_,?_,?_,?_,?_⟩
 .rw[htk,aeh];have:10*(2^M.addr.toNat*M.word.toNat)*M.reads.length+10*(2^M.addr.toNat*M.word.toNat)*M.writes.length=10*cq M*(M.reads.length+M.writes.length):=by rw[Nat.mul_add];rfl
  rw[this]at Shi;have Shi:t2.v<=s.v+cq M+10*cq M*(M.reads.length+M.writes.length):=Shi;omega
 .obtain⟨N,e1,p1,l1⟩:=P.new;obtain⟨N',e2,p2,l2⟩:=S.new;refine⟨N++N',by rw[e2];show s.a++N'=_;rw[e1,cz],?_,?_⟩
  .rw[hvar2,htk,List.flatMap_append];simp only[List.flatMap_cons,List.flatMap_nil,dB,eJ];have f1:fr V t2.v=fr V s.v++(fr s.v (s.v+Z)++fr (s.v+Z) t2.v):=by rw[Je (by omega) (by omega),Je P1 (by omega)]
   rw[f1];rw[<-eZ]at p2;rw[List.perm_iff_count];intro x;have c1:=p1.count_eq x;have c2:=p2.count_eq x;have c2:List.count x (N'.map (·.var))=List.count x ((M.reads.flatMap fun r=>bU r.var M.word.toNat)++fr (s.v+Z) t2.v):=c2;have c3:List.count x (iJ M)=List.count x (M.reads.flatMap fun r=>bU r.var M.word.toNat):=rfl;simp only[List.count_append]at c1 c2 |-;omega
  .intro x hx;rw[htk,List.flatMap_append];rcases List.mem_append.1 hx with hx|hx
   .obtain⟨⟨q1,q2⟩,q3⟩:=l1 x hx;exact⟨⟨q1.up hlo,q2.up hlo⟩,q3.imp (fun h=>List.mem_append_left _ h) id⟩
   .obtain⟨q1,q3⟩:=l2 x hx;refine⟨q1,q3.imp (fun h=>List.mem_append_right _ ?_) id⟩;simp only[List.flatMap_cons,List.flatMap_nil,dB];exact h
 .rw[Q.len,hL1,hlen,hoff,eZ];omega
 .intro p hp;obtain⟨h1,h2,h3⟩:=lowv p (by omega);have h4:=P.old p hp;rw[<-h4];generalize la L2 p=x at h1 h2 h3;generalize la L p=y at h1 h2 h3;obtain⟨_,_,_⟩:=x;obtain⟨_,_,_⟩:=y;simp only at h1 h2 h3;rw[h1,h2,h3]
 .intro p hp;rw[Q.len,hL1]at hp;by_cases q:p<L.length
  .rw[(lowv p q).2.2];exact(P.nx p q).up hlo
  .have w1:0<W:=by have:=sm.w1;omega
   have hp2:p-L.length<N0*W:=by omega
   have ha:(p-L.length) / W<N0:=by rw[Nat.div_lt_iff_lt_mul w1];exact hp2
   have hj:=Nat.mod_lt (p-L.length) w1;have hpe:L.length+(p-L.length) / W*W+(p-L.length) % W=p:=by have:=Nat.div_add_mod (p-L.length) W;rw[Nat.mul_comm]at this;omega
   have:=(Q.uz ((p-L.length) / W) (by rw[<-eN];exact ha) ((p-L.length) % W) (by rw[<-eW];exact hj)).1;rw[<-eW,hpe]at this;exact this
 .intro i M' hi hM';by_cases q:i<k
  .obtain⟨h1,h2,h3⟩:=P.cell i M' q hM';have hb:=hcell i M' q hM';simp only[if_neg (show ¬i=k by omega)];refine⟨h1,by omega,fun q hq=>?_⟩;obtain⟨g1,g2,_⟩:=lowv (n.aj.length+cj n i+q) (by omega);rw[g1,g2];exact h3 q hq
  .obtain rfl:i=k:=by omega
   rw[hMk]at hM';cases hM';simp only[if_pos];refine⟨P1,by omega,fun q hq=>?_⟩;obtain⟨g1,g2⟩:=Q.vi (n.aj.length+cj n i+q);rw[<-hlen,afs,agI hq]at g1 g2;rw[<-hlen];exact⟨g1,g2.trans est⟩
 .intro val hsa i M' hi hM' r hr j hj;by_cases q:i<k
  .simp only[if_neg (show ¬i=k by omega)];exact P.rd val (hsat val hsa) i M' q hM' r hr j hj
  .obtain rfl:i=k:=by omega
   rw[hMk]at hM';cases hM';simp only[if_pos];obtain⟨p,hp⟩:=List.getElem?_of_mem hr;have:=R.val val (Q2.sat hsa) p r (dz hp) hp j hj;rw[this,TR (wlt val r hr) hj,show s.v+cd (r.addr.map (aZ val))*M.word.toNat+1+j=(s.v+cd (r.addr.map (aZ val))*M.word.toNat+j)+1 by omega,T6];congr 2;omega
 .intro val hsa i M' hi hM' a ha j hj;have hlt:=lt_of ha hj;by_cases q:i<k
  .simp only[if_neg (show ¬i=k by omega)];have hb:=hcell i M' q hM';rw[(lowv (n.aj.length+cj n i+(a*M'.word.toNat+j)) (by omega)).2.2];exact P.wr val (hsat val hsa) i M' q hM' a ha j hj
  .obtain rfl:i=k:=by omega
   rw[hMk]at hM';cases hM';simp only[if_pos];have:=(Q.uz a ha j hj).2 val hsa;rw[TR ha hj,show s.v+a*M.word.toNat+1+j=(s.v+a*M.word.toNat+j)+1 by omega,T6]at this;rw[<-hlen,show L.length+(a*M.word.toNat+j)=L.length+a*M.word.toNat+j by omega,this];congr 3;omega
 .intro G hc hg i M' hi hM' r hr hx j hj;by_cases q:i<k
  .refine P.dO G (hclo G hc) (fun i' M'' hi' hM'' q' hq'=>?_) i M' q hM' r hr hx j hj;have:=hg i' M'' (by omega) hM'' q' hq';simp only[if_neg (show ¬i'=k by omega)]at this;exact this
  .obtain rfl:i=k:=by omega
   rw[hMk]at hM';cases hM';obtain⟨p,hp⟩:=List.getElem?_of_mem hr;refine R.dO G (Q2.dO hc) ?_ p r (dz hp) hp hx j hj;intro row hrow x hx2;obtain⟨a,ha,rfl⟩:=List.mem_map.1 hrow;obtain⟨j',hj',rfl⟩:=List.mem_map.1 hx2;have ha:=List.mem_range.1 ha;have hj':=List.mem_range.1 hj';refine .inr ?_;rw[show(2:Int)*((s.v+a*M.word.toNat+1+j':Nat):Int) / 2=((s.v+1+(a*M.word.toNat+j'):Nat):Int) by omega];have:=hg i M (by omega) hMk (a*M.word.toNat+j') (lt_of ha hj');simp only[if_pos]at this;exact this
section
variable{n:aB}{V:Nat}(hs:cr n V)
include hs
theorem aii(hsm:∀m∈n.aa,Small m)(hneed:V+lx n.aa<=10000) :
  ∃(s:Mk) (L:List cu) (cv:Nat->Nat),zF ((((n.aa.map af).length:Nat):Int),((0:Int),((0:Int),cF n.aL (n.aj.map bf) n.bz n.bc n.constraints [] ⟨V,n.aC⟩ (n.aa.map af,()))))
   = some ((0:Int),dw n.aL (L.map bf) n.bz n.bc n.constraints [] s)/\lH n V n.aa.length s L cv:=by
 have hM:=hs.lens.2.2.2.2;have hla:=hs.lens.2.1;have han:=hs.lens.2.2.1;have key:∃q,zF ((((n.aa.map af).length:Nat):Int),((0:Int),((0:Int),cF n.aL (n.aj.map bf) n.bz n.bc n.constraints [] ⟨V,n.aC⟩ (n.aa.map af,()))))=some q /\
   ∃(s:Mk) (L:List cu) (cv:Nat->Nat),q=((0:Int),dw n.aL (L.map bf) n.bz n.bc n.constraints [] s)/\lH n V n.aa.length s L cv:=by
  unfold zF;delta mO;refine oD n.aa.length (fun k d=>∃(s:Mk) (L:List cu) (cv:Nat->Nat),d=((((n.aa.map af).length:Nat):Int),((k:Int),((0:Int),cF n.aL (L.map bf) n.bz n.bc n.constraints [] s (n.aa.map af,()))))/\lH n V k s L cv) ?_ ?_
   ⟨⟨V,n.aC⟩,n.aj,fun _=>0,rfl,?_⟩ (bL (by omega))
  .rintro k d hk ⟨s,L,cv,rfl,P⟩;obtain⟨M,hMk⟩:∃M,n.aa[k]?=some M:=⟨_,aN hk⟩;have hMm:=dc hMk;have sm:=hsm M hMm;have ok:=ahF hs hMm sm;obtain⟨hsz,hone⟩:=sm.nat;have hlo:=P.lo;have hhi:=P.hi;have hnm:=aeg n k;have hlen:=P.len;have hoff:=I7 n k;have hoL:ir n.aa<=4*64:=by
    have:∀(Q:List aV) (a:Nat),(∀m∈Q,Small m)->Q.foldl (fun a m=>a+cq m) a<=a+Q.length*64:=by
     intro Q
     induction Q with|nil=>intro a _;simp|cons x Q ih=>intro a h;have h1:=ih (a+cq x) (fun m hm=>h m (eK _ hm));have h2:=(h x (List.mem_cons_self ..)).nat.1;have h2:cq x<=64:=h2;rw[List.foldl_cons,cp,Nat.succ_mul];omega
    have:=this n.aa 0 hsm;have h4:n.aa.length*64<=4*64:=Nat.mul_le_mul_right _ hM;unfold ir;omega
   have hal:s.a.length<=20000:=by
    obtain⟨N,e,p,_⟩:=P.new;have h1:=p.length_eq;simp only[aU,aI]at h1;have h2:(fr V s.v).length=s.v-V:=by simp[fr]
    have h3:((n.aa.take k).flatMap iJ).length<=4*256:=by
     have:∀(Q:List aV),(∀m∈Q,Small m/\m.reads.length<=4)->(Q.flatMap iJ).length<=Q.length*256:=by
      intro Q
      induction Q with
      |nil=>intro _;simp|cons x Q ih=>
       intro h;have h1:=ih (fun m hm=>h m (eK _ hm));obtain⟨h2,h5⟩:=h x (List.mem_cons_self ..);have h3:∀(R:List jb),(R.flatMap fun r=>bU r.var x.word.toNat).length=R.length*x.word.toNat:=by
        intro R
        induction R with|nil=>simp|cons y R ih2=>rw[List.flatMap_cons,aU,ih2,nZ,cp,Nat.succ_mul,Nat.add_comm]
       have h4:(iJ x).length<=4*64:=by unfold iJ;rw[h3];exact Nat.mul_le_mul h5 (by have:=h2.w2;omega)
       rw[List.flatMap_cons,aU,cp,Nat.succ_mul];omega
     have h5:=this (n.aa.take k) (fun m hm=>⟨hsm m (List.mem_of_mem_take hm),(hs.aa m (List.mem_of_mem_take hm)).2.2.2.2.2.2.1⟩);have h6:(n.aa.take k).length<=4:=by rw[dx];omega
     have h7:=Nat.mul_le_mul_right 256 h6;omega
    rw[e,aU];omega
   have okV:=ok.up hlo;have g:gt ab (n.aa.map af) (k:Int)=af M:=bF (σ:=ab) (by rw[bT,hMk];rfl);have i1:av (k:Int) (List.length (n.aa.map af))=true:=aK ⟨by omega,by rw[aI];omega⟩;have e5:=aeF n.aL n.bz n.bc n.constraints L [] (M:=M) sm (s:=s) (by omega) (by omega);have hszM:cq M=2^M.addr.toNat*M.word.toNat:=rfl;rw[<-hszM]at e5;have C0:ph M (s.v+cq M) (ia s.v M.word.toNat (2^M.addr.toNat)):=aes s.v;obtain⟨t1,e18,R⟩:=aij n.aL n.bz n.bc n.constraints ((L++dC s.v (cq M) (if M.any then 2 else 0)).map bf) [] (s:=⟨s.v+cq M,s.a⟩) (((L.map bf).length:Nat):Int) (((n.aa.map af).length:Nat):Int) (k:Int) 0 (n.aa.map af)
    (M:=M) (okV.up (by show s.v<=s.v+cq M;omega)) C0 (by show s.v+cq M<=_;rw[hszM];omega) (by show s.a.length<=_;omega)
   have S1:=R.sp.lo;have S1:s.v+cq M<=t1.v:=S1;have H1:=R.sp.hi;have H1:t1.v<=s.v+cq M+10*(2^M.addr.toNat*M.word.toNat)*M.reads.length:=H1;have hrl:=ok.rl;have hb1:10*(2^M.addr.toNat*M.word.toNat)*M.reads.length<=640*4:=Nat.mul_le_mul (by omega) hrl;have A1:=R.sp.len;have A1:t1.a.length<=s.a.length+((M.reads.take M.reads.length).flatMap fun r=>bU r.var M.word.toNat).length+10*(2^M.addr.toNat*M.word.toNat)*M.reads.length:=A1;have hD:((M.reads.take M.reads.length).flatMap fun r=>bU r.var M.word.toNat).length<=4*64:=by
    have h3:∀(R:List jb),(R.flatMap fun r=>bU r.var M.word.toNat).length=R.length*M.word.toNat:=by
     intro R
     induction R with|nil=>simp|cons y R ih2=>rw[List.flatMap_cons,aU,ih2,nZ,cp,Nat.succ_mul,Nat.add_comm]
    rw[dS,h3];exact Nat.mul_le_mul hrl (by have:=sm.w2;omega)
   have hLl:(L++dC s.v (cq M) (if M.any then 2 else 0)).length=L.length+cq M:=by rw[aU,Ah]
   obtain⟨t2,L2,e3,Q,Q2⟩:=aeG n.aL n.bz n.bc n.constraints [] (s:=t1) (M:=M) sm (L++dC s.v (cq M) (if M.any then 2 else 0)) L.length (C0.up S1) (okV.ws.up (by omega)) ok.wl (by omega) (by rw[hLl,hszM];exact aS _) (by rw[hLl,hszM];omega) (by omega) (by omega);have e5':Gy ((gt ab (n.aa.map af) (k:Int)).1,((gt ab (n.aa.map af) (k:Int)).2.1,((gt ab (n.aa.map af) (k:Int)).2.2.1,((gt ab (n.aa.map af) (k:Int)).2.2.2.1,((gt ab (n.aa.map af) (k:Int)).2.2.2.2.1,dw n.aL (L.map bf) n.bz n.bc n.constraints [] s)))))
     = some (ia s.v M.word.toNat (2^M.addr.toNat),mL _ n.aL n.bz n.bc n.constraints [] (s.a.map cG) (s.v+cq M) (L++dC s.v (cq M) (if M.any then 2 else 0)) ()):=by rw[g];exact e5
   have e18':uV ((((L.map bf).length:Nat):Int),(ia s.v M.word.toNat (2^M.addr.toNat),((((n.aa.map af).length:Nat):Int),((k:Int),(((List.length (gt ab (n.aa.map af) (k:Int)).2.2.2.1:Nat):Int),((0:Int),((0:Int),cF n.aL ((L++dC s.v (cq M) (if M.any then 2 else 0)).map bf) n.bz n.bc n.constraints [] ⟨s.v+cq M,s.a⟩ ((gt ab (n.aa.map af) (k:Int)).1,((gt ab (n.aa.map af) (k:Int)).2.1,((gt ab (n.aa.map af) (k:Int)).2.2.1,((gt ab (n.aa.map af) (k:Int)).2.2.2.1,((gt ab (n.aa.map af) (k:Int)).2.2.2.2.1,(n.aa.map af,())))))))))))))
     = some ((((L.map bf).length:Nat):Int),(ia s.v M.word.toNat (2^M.addr.toNat),((((n.aa.map af).length:Nat):Int),((k:Int),((0:Int),cF n.aL ((L++dC s.v (cq M) (if M.any then 2 else 0)).map bf) n.bz n.bc n.constraints [] t1 (M.addr,(M.word,(M.any,(M.reads.map bW,(M.writes.map bH,(n.aa.map af,()))))))))))):=by rw[g];exact e18
   have e3':GC (M.addr,(M.word,(M.any,(M.reads.map bW,(M.writes.map bH,(ia s.v M.word.toNat (2^M.addr.toNat),((((L.map bf).length:Nat):Int),dw n.aL ((L++dC s.v (cq M) (if M.any then 2 else 0)).map bf) n.bz n.bc n.constraints [] t1)))))))=some (dw n.aL (L2.map bf) n.bz n.bc n.constraints [] t2):=by rw[aI];exact e3
   have ek:∀u v:Int,u=v->(some (.inl ((((n.aa.map af).length:Nat):Int),(u,((0:Int),cF n.aL (L2.map bf) n.bz n.bc n.constraints [] t2 (n.aa.map af,()))))):Option (TL zt.σs⊕Out zn))
     = some (.inl ((((n.aa.map af).length:Nat):Int),(v,((0:Int),cF n.aL (L2.map bf) n.bz n.bc n.constraints [] t2 (n.aa.map af,()))))):=by rintro _ _ rfl;rfl
   exact⟨_,ax (ar (show(k:Int)<(((n.aa.map af).length:Nat):Int) by rw[aI];omega)) (ak i1 (ah e5' (ah e18' (ah e3' (ek _ _ (bR (show(k:Int)+1=((k+1:Nat):Int) by omega) (by omega))))))),t2,L2,_,rfl,ago hMk sm P R Q Q2 ok⟩
  .rintro d ⟨s,L,cv,rfl,P⟩;exact⟨_,ag (au (show ¬(n.aa.length:Int)<(((n.aa.map af).length:Nat):Int) by rw[aI];omega)) rfl,s,L,cv,rfl,P⟩
  .refine⟨aS _,Nat.le_add_right _ _,⟨[],by simp,?_,fun x h=>by cases h⟩,by show _=_+cj n 0;rfl,fun p _=>rfl,afu hs,fun i M h=>absurd h (Nat.not_lt_zero _),fun _ _ i M h=>absurd h (Nat.not_lt_zero _),fun _ _ i M h=>absurd h (Nat.not_lt_zero _),fun _ _ _ i M h=>absurd h (Nat.not_lt_zero _)⟩;show(n.aj.map (fun x:cu=>x.var)++[]).Perm (n.aj.map (fun x:cu=>x.var)++(([]:List aV).flatMap iJ++fr V V));rw[I5];exact List.Perm.refl _
 obtain⟨q,e,s,L,cv,rfl,P⟩:=key;exact⟨s,L,cv,e,P⟩
end
def bC(n:aB)(s:Mk)(L:List cu):aB:=⟨(s.v:Int),n.aL,L,n.bz,n.bc,n.constraints,[],s.a⟩
theorem AB{lo hi:Nat}{x:Int}:x∈fr lo hi↔(lo:Int)<x/\x<=(hi:Int):=by
 unfold fr;constructor
 .intro h;obtain⟨i,hi,rfl⟩:=List.mem_map.1 h;have:=List.mem_range.1 hi;omega
 .intro h;exact List.mem_map.2 ⟨(x-lo-1).toNat,List.mem_range.2 (by omega),by omega⟩
theorem aff(lo hi:Nat):(fr lo hi).Nodup:=by unfold fr;unfold List.Nodup;rw[List.pairwise_map];exact List.Pairwise.imp (fun h e=>h (by omega)) (List.nodup_range (n:=hi-lo))
theorem ahs(lo hi:Nat):(fr lo hi).length=hi-lo:=by simp[fr]
section
variable{n:aB}{V:Nat}(h0:dv n=0)(ha:eO (aR n) V=true){s:Mk}{L:List cu}{cv:Nat->Nat}(P:lH n V n.aa.length s L cv)(hv:s.v<=2000)
include P
theorem T7:(bX (bC n s L)).Perm (bX n++fr V s.v):=by obtain⟨N,e,p,_⟩:=P.new;rw[dS]at p;unfold bX bC;simp only[e,List.flatMap_nil,dB,eJ];rw[List.perm_iff_count];intro x;have c:=p.count_eq x;simp only[List.count_append]at c |-;omega
end
section
variable{n:aB}{V:Nat}(hs:cr n V)(h0:dv n=0)(ha:eO (aR n) V=true){s:Mk}{L:List cu}{cv:Nat->Nat}(P:lH n V n.aa.length s L cv)(hv:s.v<=2000)
include hs P
include hv
theorem oA:cr (bC n s L) s.v:=by
 have hp:=T7 P;have hlo:=P.lo;have hlen:(bX (bC n s L)).length<=2000/\(bX (bC n s L)).Nodup/\∀x∈bX (bC n s L),1<=x/\x<=(s.v:Int):=by
  have hn:(bX n++fr V s.v).Nodup:=by rw[List.nodup_append];refine⟨hs.nodup,aff _ _,fun a h b h2 e=>?_⟩;have h3:=(hs.jB a h).2;have h4:=(AB.1 h2).1;omega
  have hr:∀x∈bX n++fr V s.v,1<=x/\x<=(s.v:Int):=by
   intro x hx;rcases List.mem_append.1 hx with h|h
   .have:=hs.jB x h;omega
   .have:=AB.1 h;omega
  refine⟨?_,hp.nodup_iff.2 hn,fun x hx=>hr x (hp.mem_iff.1 hx)⟩;have:=(I1 s.v _ (hp.nodup_iff.2 hn) (fun x hx=>hr x (hp.mem_iff.1 hx))).1;omega
 obtain⟨h1,h2,h3⟩:=hlen;obtain⟨l1,l2,l3,l4,l5⟩:=hs.lens;have hd:(bX (bC n s L)).length=n.aL.length+L.length+s.a.length:=by unfold bX bC;simp;omega
 have hup:∀l,cQ V l->cQ s.v l:=fun l h=>h.up hlo;obtain⟨N,e,p,lN⟩:=P.new;refine⟨rfl,hv,h2,h3,?_,(fun m hm=>by cases hm),?_,⟨l1,by show L.length<=_;omega,by show s.a.length<=_;omega,l4,dq _⟩⟩
 .intro l hl;unfold cD bC at hl;simp only[List.flatMap_nil,dB,List.mem_append,List.mem_map,List.mem_flatMap]at hl;have hold:l∈n.bz\/l∈n.bc\/l∈n.constraints->cQ s.v l:=by
   intro q;refine hup l (hs.lits l ?_);unfold cD;simp only[List.mem_append];rcases q with q|q|q
   .exact .inl (.inl (.inl (.inl (.inr q))))
   .exact .inl (.inl (.inl (.inr q)))
   .exact .inl (.inl (.inr q))
  rcases hl with(((⟨x,hx,rfl⟩|h)|h)|h)|⟨x,hx,h⟩
  .obtain⟨p,hp⟩:=List.getElem?_of_mem hx;have hpl:=dz hp;have:=P.nx p hpl;have e2:la L p=x:=by unfold la;rw[bM,hp];rfl
   rw[e2]at this;exact this
  .exact hold (.inl h)
  .exact hold (.inr (.inl h))
  .exact hold (.inr (.inr h))
  .rw[e]at hx;unfold kj at h;simp only[List.mem_cons,List.not_mem_nil,or_false]at h;have key:cQ s.v x.a/\cQ s.v x.b:=by
    rcases List.mem_append.1 hx with q|q
    .have hm:∀y∈kj x,cQ V y:=fun y hy=>hs.lits y (by unfold cD;simp only[List.mem_append,List.mem_flatMap];exact .inr ⟨x,q,hy⟩);unfold kj at hm;exact⟨(hm x.a (by simp)).up hlo,(hm x.b (by simp)).up hlo⟩
    .exact(lN x q).1
   rcases h with rfl|rfl
   .exact key.1
   .exact key.2
 .intro l hl;obtain⟨p,hp⟩:=List.getElem?_of_mem (show l∈L from hl);have hpl:=dz hp;have e2:la L p=l:=by unfold la;rw[bM,hp];rfl
  have hlen2:=P.len;by_cases q:p<n.aj.length
  .have h4:=P.old p q;rw[e2]at h4;have e3:=aN q;have e4:la n.aj p=n.aj[p]:=by unfold la;rw[bM,e3];rfl
   rw[h4,e4];exact hs.init _ (dk q)
  .-- a cell's latch
   have hfind:∀k,k<=n.aa.length->p-n.aj.length<cj n k->∃(i:Nat) (M:aV),i<k/\n.aa[i]?=some M/\cj n i<=p-n.aj.length/\p-n.aj.length<cj n i+cq M:=by
    intro k
    induction k with
    |zero=>intro _ h;exact absurd h (by show ¬_<0;omega)|succ k ih=>
     intro hk h;have hM:=aN (show k<n.aa.length by omega);by_cases r:p-n.aj.length<cj n k
     .obtain⟨i,M,a,b⟩:=ih (by omega) r;exact⟨i,M,by omega,b⟩
     .rw[lZ n hM]at h;exact⟨k,_,by omega,hM,by omega,h⟩
   obtain⟨i,M,hi,hM,a1,a2⟩:=hfind n.aa.length (aS _) (by omega);have:=((P.cell i M hi hM).2.2 (p-n.aj.length-cj n i) (by omega)).2;rw[show n.aj.length+cj n i+(p-n.aj.length-cj n i)=p by omega,e2]at this;rw[this];split<;>omega
include h0
theorem aez:dv (bC n s L)=0:=by refine afS (oA hs P hv) ?_;have hp:=(T7 P).length_eq;rw[aU,ahs]at hp;have:=(Us hs h0).1;have:=P.lo;omega
include ha
theorem TN:Pl.dF (bC n s L)=0:=by
 have hs':=oA hs P hv;have h0':=aez hs h0 P hv;have hlo:=P.lo;refine aeZ hs' h0' ?_;obtain⟨N,e,p,lN⟩:=P.new;rw[dS]at p lN;obtain⟨G,eG⟩:∃G:Nat->Prop,G=Good (aR (bC n s L)):=⟨_,rfl⟩;have g0:G 0:=by rw[eG];exact aeB hs'
 have hclo:k8 (fun v=>G v.toNat) s.a:=by
  intro x hx h1 h2;have f:∀l,GL (fun v=>G v.toNat) l->G (l / 2).toNat:=by
   intro l h;rcases h with h|h
   .rw[h];exact g0
   .exact h
  have:=afk (n:=bC n s L) (a:=x) hx;rw[<-eG]at this;exact this (f _ h1) (f _ h2)
 have gsrc:∀v:Int,v∈n.aL\/v∈L.map (·.var)->G v.toNat:=fun v h=>by rw[eG];exact afl hs' h
 have gcell:∀(i:Nat) (M:aV),i<n.aa.length->n.aa[i]?=some M->∀q,q<cq M->G ((cv i+1+q:Nat):Int).toNat:=by
  intro i M hi hM q hq;refine gsrc _ (.inr ?_);have h1:=((P.cell i M hi hM).2.2 q hq).1;have h2:=lZ n hM;have h3:=vf n (show i+1<=n.aa.length from hi);have hlen:=P.len;have hp:n.aj.length+cj n i+q<L.length:=by omega
  have e1:=aN hp;have e2:la L (n.aj.length+cj n i+q)=L[n.aj.length+cj n i+q]:=by unfold la;rw[bM,e1];rfl
  rw[<-h1,e2];exact List.mem_map_of_mem (dk hp)
 have glat:∀v:Int,v∈n.aj.map (·.var)->v∈L.map (·.var):=by
  intro v h;obtain⟨x,hx,rfl⟩:=List.mem_map.1 h;obtain⟨p,hp⟩:=List.getElem?_of_mem hx;have hpl:=dz hp;have h1:=P.old p hpl;have e2:la n.aj p=x:=by unfold la;rw[bM,hp];rfl
  have hlen:=P.len;have hp2:p<L.length:=by omega
  have e1:=aN hp2;have e3:la L p=L[p]:=by unfold la;rw[bM,e1];rfl
  rw[<-e2,<-h1,e3];exact List.mem_map_of_mem (dk hp2)
 have old:∀v,v<=V->G v:=by
  intro v hvV;obtain⟨k,hk⟩:=(qJ hs.apart V).1 ha v hvV
  induction hk with
  |free v h=>
   rcases Nat.eq_zero_or_pos v with q|q
   .rw[q];exact g0
   .have hd:=(Us hs h0).2 v q hvV;have hnode:(v:Int)∉(fm n).flatMap bq.to:=by intro hm;obtain⟨y,hy,hvy⟩:=List.mem_flatMap.1 hm;exact h y.nd (by unfold aR;exact List.mem_map_of_mem hy) (List.mem_map.2 ⟨(v:Int),hvy,eD v⟩)
    rw[Bg]at hnode;simp only[List.mem_append,not_or]at hnode;unfold bX at hd;simp only[List.mem_append]at hd;have:(v:Int)∈n.aL\/(v:Int)∈n.aj.map (·.var):=by
     rcases hd with((q|q)|q)|q
     .exact .inl q
     .exact .inr q
     .exact absurd q hnode.2
     .exact absurd q hnode.1
    have:=gsrc (v:Int) (this.imp id (glat _));rw[eD]at this;exact this
  |node x v f hx hvx h ih=>
   obtain⟨y,hy,rfl⟩:=vW hx;obtain⟨u,hu,rfl⟩:=List.mem_map.1 hvx;have hfrm:∀l∈y.aQ,GL (fun v=>G v.toNat) l:=by intro l hl;have hr:=hs.Br hy hl;exact .inr (ih (l / 2).toNat (List.mem_map.2 ⟨l,hl,rfl⟩) (by omega))
   unfold fm at hy;rcases List.mem_append.1 hy with q|q
   .obtain⟨a,haa,rfl⟩:=List.mem_map.1 q;have hu:u=a.var:=by simpa[ij]using hu
    subst hu;exact hclo a (by rw[e];exact List.mem_append_left _ haa) (hfrm a.a (by simp[ij])) (hfrm a.b (by simp[ij]))
   .obtain⟨M,hM,q⟩:=List.mem_flatMap.1 q;obtain⟨r,hr,rfl⟩:=List.mem_map.1 q;obtain⟨i,hi⟩:=List.getElem?_of_mem hM;have hu:u∈bU r.var M.word.toNat:=hu;unfold bU at hu;obtain⟨j,hj,rfl⟩:=List.mem_map.1 hu;exact P.dO (fun v=>G v.toNat) hclo (fun i' M' h1 h2 q hq=>gcell i' M' h1 h2 q hq) i M (dz hi) hi r hr hfrm j (List.mem_range.1 hj)
 intro v hv2;rw[<-eG]
 induction v using Nat.strongRecOn with
 |_ v ih=>
  rcases de V v with q|q
  .have hm:(v:Int)∈L.map (·.var)++N.map (·.var):=p.mem_iff.2 (List.mem_append_right _ (List.mem_append_right _ (AB.2 (by omega))));rcases List.mem_append.1 hm with r|r
   .have:=gsrc (v:Int) (.inr r);rw[eD]at this;exact this
   .obtain⟨x,hx,ex⟩:=List.mem_map.1 r;obtain⟨⟨x1,x2⟩,hd|⟨h1,h2⟩⟩:=lN x hx
    .have:=hs.jB x.var (by unfold bX;simp only[List.mem_append];exact .inl (.inr hd));omega
    .have f:∀l,cQ s.v l->l / 2<x.var->GL (fun v=>G v.toNat) l:=fun l h3 h4=>.inr (ih (l / 2).toNat (by have:=h3.1;omega) (by have:=h3.2;omega));have:=hclo x (by rw[e];exact List.mem_append_right _ hx) (f _ x1 h1) (f _ x2 h2);rw[ex]at this;rw[eD]at this;exact this
  .exact old v q
end
def gB(L:List aV):Nat:=L.foldl (fun a m=>a+(m.reads.length+m.writes.length)) 0
theorem Uh(L:List aV)(m:aV):gB (L++[m])=gB L+(m.reads.length+m.writes.length):=TG _ L m 0
theorem vj(f:aV->Nat):∀(L:List aV) (a:Nat),L.foldl (fun a m=>a+f m) a=a+L.foldl (fun a m=>a+f m) 0
 |[],a=>rfl|x::L,a=>by rw[List.foldl_cons,List.foldl_cons,vj f L (a+f x),vj f L (0+f x)];omega
theorem UD:∀L:List aV,lx L<=ir L+10*ir L*gB L
 |[]=>aS _|x::L=>by
  have ih:=UD L;have e1:lx (x::L)=(cq x+10*cq x*(x.reads.length+x.writes.length))+lx L:=by unfold lx;rw[List.foldl_cons,vj];omega
  have e2:ir (x::L)=cq x+ir L:=by unfold ir;rw[List.foldl_cons,vj];omega
  have e3:gB (x::L)=(x.reads.length+x.writes.length)+gB L:=by unfold gB;rw[List.foldl_cons,vj];omega
  rw[e1,e2,e3];generalize cq x=a at *
  generalize x.reads.length+x.writes.length=b at *
  generalize ir L=c at *
  generalize gB L=d at *
  generalize lx L=q at *
  have h1:10*(a+c)*(b+d)=10*a*b+10*c*d+(10*a*d+10*c*b):=by rw[Nat.mul_add 10,Nat.add_mul,Nat.mul_add,Nat.mul_add];omega
  omega
section
variable{n:aB}{V:Nat}(hs:cr n V)
include hs
theorem Vd:∀k,gB (n.aa.take k)<=8*k:=by
 intro k
 induction k with
 |zero=>exact aS _|succ k ih=>
  rcases de k n.aa.length with q|q
  .have hx:=aN q;obtain⟨_,_,_,_,_,_,h1,h2⟩:=hs.aa _ (dk q);rw[Pl.dy hx,Uh];omega
  .rw[fR (by omega)];rw[fR q]at ih;omega
theorem Tj:adU (cH n,())=some ((gB n.aa:Int),()):=by
 have hM:=hs.lens.2.2.2.2;have hL:((n.aa.map af).length:Int)=(n.aa.length:Int):=by rw[aI]
 have e2:TB ((0:Int),(n.aa.map af,(((n.aa.map af).length:Int),((0:Int),()))))=some ((gB n.aa:Int),()):=by
  unfold TB;delta u4;refine dn (fun k:Nat=>((gB (n.aa.take k):Int),(n.aa.map af,(((n.aa.map af).length:Int),((k:Int),()))))) n.aa.length rfl ?_ ?_ (bL (by omega))
  .intro k hk;have hx:=aN hk;obtain⟨_,_,_,_,_,_,h1,h2⟩:=hs.aa _ (dk hk);have hx':(n.aa.map af)[k]?=some (af n.aa[k]):=by rw[bT,hx];rfl
   have g:gt ab (n.aa.map af) (k:Int)=af n.aa[k]:=bF (σ:=ab) hx';have hw:IntKind.wrap .i64 (Int.ofNat (List.length (n.aa[k].reads.map bW))+Int.ofNat (List.length (n.aa[k].writes.map bH)))=((n.aa[k].reads.length+n.aa[k].writes.length:Nat):Int):=by rw[aI,aI];exact cf (x:=((n.aa[k].reads.length:Nat):Int)+((n.aa[k].writes.length:Nat):Int)) (by omega)
   have eb:Ih (af n.aa[k],())=some (((n.aa[k].reads.length+n.aa[k].writes.length:Nat):Int),()):=Jk hw;have eb':Ih (((gt ab (n.aa.map af) (k:Int)).1,((gt ab (n.aa.map af) (k:Int)).2.1,((gt ab (n.aa.map af) (k:Int)).2.2.1,((gt ab (n.aa.map af) (k:Int)).2.2.2.1,((gt ab (n.aa.map af) (k:Int)).2.2.2.2.1,()))))),())=some (((n.aa[k].reads.length+n.aa[k].writes.length:Nat):Int),()):=by rw[g];exact eb
   have hp:=Vd hs k;have hst:gB (n.aa.take (k+1))=gB (n.aa.take k)+(n.aa[k].reads.length+n.aa[k].writes.length):=by rw[Pl.dy hx,Uh]
   have e:∀(a b p q:Int),a=b->p=q->(some (.inl (a,(n.aa.map af,(((n.aa.map af).length:Int),(p,()))))):Option (TL uZ.σs⊕Out uX))=some (.inl (b,(n.aa.map af,(((n.aa.map af).length:Int),(q,()))))):=by rintro _ _ _ _ rfl rfl;rfl
   refine ax (ar (show(k:Int)<((n.aa.map af).length:Int) by omega)) (ak (show av (k:Int) (List.length (n.aa.map af))=true from aK ⟨by omega,by omega⟩) (ah eb' (e _ _ _ _ ?_ (bR (show(k:Int)+1=((k+1:Nat):Int) by omega) (by omega)))));rw[hst];exact bR (x:=((gB (n.aa.take k):Nat):Int)+((n.aa[k].reads.length+n.aa[k].writes.length:Nat):Int)) (by omega) (by omega)
  .have e:∀(a b:Int),a=b->(some (.inr (a,())):Option (TL uZ.σs⊕Out uX))=some (.inr (b,())):=by rintro _ _ rfl;rfl
   rw[dS];exact ag (au (show ¬(n.aa.length:Int)<((n.aa.map af).length:Int) by omega)) rfl
 have e3:ad7 (n.vars,(n.aL,(n.aj.map bf,(n.bz,(n.bc,(n.constraints,(n.aa.map af,(n.aC.map cG,()))))))))=some ((gB n.aa:Int),()):=ah e2 rfl;exact ah e3 rfl
end
abbrev JE:ca.T:=((0:Int),([],([],([],([],([],([],([],()))))))))
def JD(n:aB):Bool:=decide (2000<n.vars+dA n+10*dA n*(gB n.aa:Int))
section
variable{n:aB}
theorem aeY{V:Nat}(hs:cr n V)(hc:Pl.dF n=0)(h:¬64<dA n):(∀m∈n.aa,Small m)/\((ir n.aa:Nat):Int)=dA n:=by
 have hcl:dA n=iT (fy n.aa):=by unfold dA;rw[if_neg (fun q=>q hc)]
 have hsm:=Aq hs (by rw[<-hcl];omega);have hsum:((ir n.aa:Nat):Int)=fy n.aa:=I2 n.aa 0 hsm;refine⟨hsm,?_⟩;rw[hsum,hcl];unfold iT;rw[hcl]at h;unfold iT at h;split at h
 .omega
 .rename_i q;rw[if_neg q]
end
section
variable{n:aB}
theorem U8{V:Nat}(hs:cr n V)(h:¬64<dA n)(hc0:0<=dA n):IntKind.wrap .i64 ((IntKind.wrap .i64 (n.vars+dA n))+(IntKind.wrap .i64 ((IntKind.wrap .i64 (10*dA n))*(gB n.aa:Int))))=n.vars+dA n+10*dA n*(gB n.aa:Int):=by
 have hv:=hs.vars;have hv2:=hs.v2;have hp:=Vd hs n.aa.length;rw[dS]at hp;have hM:=hs.lens.2.2.2.2;obtain⟨c,hc⟩:=ie hc0;have hcp:c*gB n.aa<=64*32:=Nat.mul_le_mul (by omega) (by omega);rw[hc];have e1:IntKind.wrap .i64 (10*(c:Int))=10*(c:Int):=cf (by omega);have e2:10*(c:Int)*(gB n.aa:Int)=((10*(c*gB n.aa):Nat):Int):=by rw[Int.natCast_mul,Int.natCast_mul,Int.mul_assoc];rfl
 rw[e1,e2,cf (x:=n.vars+(c:Int)) (by omega),cf (x:=((10*(c*gB n.aa):Nat):Int)) (by omega)];exact cf (by omega)
end
section
variable{n:aB}
theorem aeX:0<=dA n:=by
 unfold dA;by_cases hc:Pl.dF n=0
 .rw[if_neg (fun q=>q hc)];obtain⟨V,hs,_⟩:=IM hc;have:=(Au n.aa 0 (fun m hm=>mS hs m hm)).1;have this:0<=fy n.aa:=this;unfold iT;split<;>omega
 .rw[if_pos hc];omega
end
section
variable{n:aB}(ft:Fit n)
include ft
theorem adG :
  (Pl.dF n≠0->zK (cH n,())=some (JE,(Pl.dF n,()))) /\
  (Pl.dF n=0->64<dA n->zK (cH n,())=some (JE,((17:Int),()))) /\
  (Pl.dF n=0->¬64<dA n->JD n=true->zK (cH n,())=some (JE,((10:Int),()))) /\
  (Pl.dF n=0->¬64<dA n->JD n=false->∃(V:Nat) (s:Mk) (L:List cu) (cv:Nat->Nat),zK (cH n,())=some (cH (bC n s L),((0:Int),()))/\cr n V/\dv n=0/\eO (aR n) V=true/\(∀m∈n.aa,Small m)/\lH n V n.aa.length s L cv/\s.v<=2000):=by
 have c1:=xZ ft;have d1:=I0 ft;have nn:=aeX (n:=n);refine⟨fun h=>?_,fun h h2=>?_,fun h h2 h3=>?_,fun h h2 h3=>?_⟩
 .exact ah c1 (ax (ke (au h)) rfl)
 .exact ah c1 (ag (fQ (ar h)) (ah d1 (ax (ar h2) rfl)))
 .obtain⟨V,hs,h0,ha⟩:=IM h;have p1:=Tj hs;have hm:=of_decide_eq_true h3;exact ah c1 (ag (fQ (ar h)) (ah d1 (ag (au h2) (ah p1 (ax (ar (show(2000:Int)<IntKind.wrap .i64 ((IntKind.wrap .i64 (n.vars+dA n))+(IntKind.wrap .i64 ((IntKind.wrap .i64 (10*dA n))*(gB n.aa:Int)))) by rw[U8 hs h2 nn];exact hm)) rfl)))))
 .obtain⟨V,hs,h0,ha⟩:=IM h;have p1:=Tj hs;have hm:=of_decide_eq_false h3;obtain⟨hsm,hoff⟩:=aeY hs h h2;have hneed:V+lx n.aa<=2000:=by
   have h4:=UD n.aa;have hv:=hs.vars;rw[hv,<-hoff]at hm;have e2:10*((ir n.aa:Nat):Int)*(gB n.aa:Int)=((10*ir n.aa*gB n.aa:Nat):Int):=by rw[Int.natCast_mul,Int.natCast_mul];rfl
   rw[e2]at hm;omega
  obtain⟨s,L,cv,e13,P⟩:=aii hs hsm (by omega);have hsv:s.v<=2000:=by have:=P.hi;rw[dS]at this;omega
  refine⟨V,s,L,cv,?_,hs,h0,ha,hsm,P,hsv⟩;have ec:=aet ft;have e13':zF (Int.ofNat (List.length (n.aa.map af)),((0:Int),((0:Int),(n.vars,(n.aL,(n.aj.map bf,(n.bz,(n.bc,(n.constraints,([],(n.aC.map cG,(n.aa.map af,()))))))))))))=some ((0:Int),dw n.aL (L.map bf) n.bz n.bc n.constraints [] s):=by rw[hs.vars];exact e13
  exact ah c1 (ag (fQ (ar h)) (ah d1 (ag (au h2) (ah p1 (ag (au (show ¬(2000:Int)<IntKind.wrap .i64 ((IntKind.wrap .i64 (n.vars+dA n))+(IntKind.wrap .i64 ((IntKind.wrap .i64 (10*dA n))*(gB n.aa:Int)))) by rw[U8 hs h2 nn];exact hm)) (ah ec (ah e13' rfl)))))))
end
theorem agK{v:Nat}{l:Int}(h:cQ v l)(hv:v<=2000):cS l:=by obtain⟨h1,h2⟩:=h;unfold cS;omega
theorem Ux{n:aB}{V:Nat}(ft:Fit n)(hs:cr n V){s:Mk}{L:List cu}{cv:Nat->Nat}(P:lH n V n.aa.length s L cv)(hv:s.v<=2000):Fit (bC n s L):=by
 have S:=oA hs P hv;have hr:∀x∈bX (bC n s L),cS x:=fun x hx=>by have:=S.jB x hx;unfold cS;omega
 have hl:∀x∈cD (bC n s L),cS x:=fun x hx=>agK (S.lits x hx) hv;obtain⟨_,l2,l3,_,_⟩:=S.lens;refine⟨by show cS (s.v:Int);unfold cS;omega,ft.ins,⟨by omega,fun l h=>⟨hr _ ?_,hl _ ?_,?_⟩⟩,ft.out,ft.bad,ft.mJ,⟨dq _,(fun m hm=>by cases hm)⟩,⟨by omega,fun a h=>⟨hr _ ?_,hl _ ?_,hl _ ?_⟩⟩⟩
 .unfold bX;simp only[List.mem_append,List.mem_map];exact .inl (.inl (.inr ⟨l,h,rfl⟩))
 .unfold cD;simp only[List.mem_append,List.mem_map];exact .inl (.inl (.inl (.inl (.inl ⟨l,h,rfl⟩))))
 .have:=S.init l h;unfold cS;omega
 .unfold bX;simp only[List.mem_append,List.mem_map];exact .inr ⟨a,h,rfl⟩
 .unfold cD;simp only[List.mem_append,List.mem_flatMap];exact .inr ⟨a,h,by simp[kj]⟩
 .unfold cD;simp only[List.mem_append,List.mem_flatMap];exact .inr ⟨a,h,by simp[kj]⟩
theorem Oi{A B:List Bool}{p:Nat}(h:p<A.length):(A++B).getD p false=A.getD p false:=by rw[bM,bM,List.getElem?_append_left h]
theorem abI{A B:List Bool}{p:Nat}:(A++B).getD (A.length+p) false=B.getD p false:=by rw[bM,bM,List.getElem?_append_right (by omega),Nat.add_sub_cancel_left]
theorem af6(m:aV)(c:List aJ)(a:Nat){j:Nat}(h:j<m.word.toNat):(nL m c a).getD j false=decide ((rd c (a:Int)).toNat / 2^j % 2=1):=by unfold nL gG;rw[bM,bT,List.getElem?_range h];rfl
theorem UC(m:aV)(c:List aJ):∀(N a j:Nat),a<N->j<m.word.toNat->(j3 m c N).getD (a*m.word.toNat+j) false=decide ((rd c (a:Int)).toNat / 2^j % 2=1)
 |0,a,j,h,_=>by omega|N+1,a,j,h,hj=>by
  rw[IZ];have hl:=Aj m c N;by_cases q:a<N
  .have:a*m.word.toNat+j<(j3 m c N).length:=by have:=Nat.mul_le_mul_right m.word.toNat (show a+1<=N from q);rw[Nat.succ_mul a]at this;omega
   rw[Oi this];exact UC m c N a j q hj
  .obtain rfl:a=N:=by omega
   rw[<-hl,abI];exact af6 m c a hj
section
variable{n:aB}(ls:List Bool)(cs:List (List aJ))(hcs:cs.length=n.aa.length)
include hcs
theorem vh:∀k,k<=n.aa.length->(bS n ls cs k).length=ls.length+cj n k
 |0,_=>by
  have:bS n ls cs 0=ls:=by unfold bS;simp
  rw[this];rfl
 |k+1,h=>by have hm:=aN (show k<n.aa.length by omega);have hc:=aN (show k<cs.length by omega);rw[Ar n ls cs hm hc,aU,vh k (by omega),Aj,lZ n hm];unfold cq;omega
end
section
variable{n:aB}(ls:List Bool)(cs:List (List aJ))
theorem ag1(k:Nat)(h:k<=n.aa.length){p:Nat}(hp:p<ls.length):(bS n ls cs k).getD p false=ls.getD p false:=by unfold bS;exact Oi hp
end
section
variable{n:aB}(ls:List Bool)(cs:List (List aJ))(hcs:cs.length=n.aa.length)
include hcs
theorem vn:∀k,k<=n.aa.length->∀(i:Nat) (M:aV) (c:List aJ),i<k->n.aa[i]?=some M->cs[i]?=some c->∀a j,a<2^M.addr.toNat->j<M.word.toNat ->
  (bS n ls cs k).getD (ls.length+cj n i+(a*M.word.toNat+j)) false=decide ((rd c (a:Int)).toNat / 2^j % 2=1)
 |0,_,i,M,c,hi,_,_,_,_,_,_=>by omega|k+1,hk,i,M,c,hi,hM,hc,a,j,ha,hj=>by
  have hk1:k<n.aa.length:=hk;have hk2:k<cs.length:=by rw[hcs];exact hk
  have hm:=aN hk1;have hc':=aN hk2;rw[Ar n ls cs hm hc'];have hl:=vh ls cs hcs k (by omega);have hlt:a*M.word.toNat+j<cq M:=by have:=Nat.mul_le_mul_right M.word.toNat (show a+1<=2^M.addr.toNat from ha);rw[Nat.succ_mul a]at this;unfold cq;omega
  by_cases q:i<k
  .have h1:=lZ n hM;have h2:=vf n (show i+1<=k from q);rw[Oi (by omega)];exact vn k (by omega) i M c q hM hc a j ha hj
  .obtain rfl:i=k:=by omega
   have hM:=Option.some.inj (hm.symm.trans hM);have hc:=Option.some.inj (hc'.symm.trans hc);subst hM;subst hc;rw[<-hl,abI];exact UC _ _ _ a j ha hj
end
theorem vg(k:Nat):(2:Int)^k=((2^k:Nat):Int):=by push_cast;rfl
theorem Dw{x k:Int}(h0:0<=x)(h:x<2^k.toNat):jD x k=true:=by unfold jD;rw[bG (Int.ediv_eq_zero_of_lt h0 h)]
theorem ann{m:aV}{a w:Nat}{M:List aJ}(m1:1<=m.addr/\m.addr<=62)(m2:1<=m.word/\m.word<=64)(ha:(a:Int)<2^m.addr.toNat)(hw:(w:Int)<2^m.word.toNat) :
  Qs ((a:Int),((w:Int),(m.addr,(m.word,(M,())))))=some (true,(m.addr,(m.word,(wr M a w,())))):=by
 have f1:=uo (v:=(a:Int)) (w:=m.addr) ⟨by omega,by omega⟩;have f2:=uo (v:=(w:Int)) (w:=m.word) ⟨by omega,by omega⟩;rw[Dw (by omega) ha]at f1;rw[Dw (by omega) hw]at f2;show P3 Fh (a:Int) (w:Int) m.addr m.word M=_;unfold P3;have e:∀A B:List aJ,A=B->(some (true,(m.addr,(m.word,(A,())))):Option (Out Fi))=some (true,(m.addr,(m.word,(B,())))):=by rintro _ _ rfl;rfl
 refine ah f1 (ag rfl (ah f2 (ag rfl ?_)));unfold wr;by_cases h0:(w:Int)=0
 .rw[if_pos h0];exact ax (ar h0) (e _ _ (N5 _ _))
 .rw[if_neg h0];exact ag (au h0) (e _ _ (N4 _ _ _))
section
variable{n:aB}{V:Nat}(hs:cr n V)
include hs
theorem af8(ord:List (bE×bq))(ls:List Bool)(rs:List eu)(v:List Bool){i K:Nat}{m:aV}{c:List aJ}(hm:n.aa[i]?=some m)(hc:nP m K c)(hK:K<=5000)(hr:i<rs.length) :
  Mq ((i:Int),(m.writes.map bH,((m.writes.length:Int),((0:Int),mc n ord ls (rs.set i (m.addr,(m.word,(c,())))) (v,())))))=some (mc n ord ls (rs.set i (m.addr,(m.word,(nK v m c,())))) (v,())):=by
 have hmm:=dc hm;obtain⟨m1,m2,m3,m4,_,h6,_,h8⟩:=hs.aa m hmm;unfold Mq;delta u16;refine dn (fun k:Nat=>((i:Int),(m.writes.map bH,((m.writes.length:Int),((k:Int),mc n ord ls (rs.set i (m.addr,(m.word,((m.writes.take k).foldl (jk v) c,())))) (v,())))))) m.writes.length rfl ?_ ?_ (bL (by omega))
 .intro k hk;have hx:=aN hk;have hwm:=dk hk;have hst:(m.writes.take (k+1)).foldl (jk v) c=jk v ((m.writes.take k).foldl (jk v) c) m.writes[k]:=by rw[Pl.dy hx,List.foldl_append];rfl
  rw[hst];generalize (m.writes.take k).foldl (jk v) c=u;obtain⟨l1,l2,l3⟩:=ane hs hmm hwm;obtain⟨a1,a2⟩:=h6 _ hwm;have hw':(m.writes.map bH)[k]?=some (bH m.writes[k]):=by rw[bT,hx];rfl
  have hwl:=dz hw';generalize m.writes[k]=w at l1 l2 l3 a1 a2 hw';have gW:gt aH (m.writes.map bH) (k:Int)=bH w:=bF (σ:=aH) hw';have e0:kh ((gt aH (m.writes.map bH) (k:Int)).1,(v,()))=some (bt w.on v,()):=by rw[gW];exact qV w.on v l1
  have e1:qM ((gt aH (m.writes.map bH) (k:Int)).2.1,(v,()))=some ((cd (w.addr.map (bt · v)):Int),()):=by rw[gW];exact NR w.addr v (by omega) l2
  have e2:qM ((gt aH (m.writes.map bH) (k:Int)).2.2.1,(v,()))=some ((cd (w.data.map (bt · v)):Int),()):=by rw[gW];exact NR w.data v (by omega) l3
  have hg:List.getD (rs.set i (m.addr,(m.word,(u,())))) (Int.toNat (i:Int)) zR=(m.addr,(m.word,(u,()))):=by rw[bM,eD,List.getElem?_set_self hr];rfl
  have e3:Qs ((cd (w.addr.map (bt · v)):Int),((cd (w.data.map (bt · v)):Int),((List.getD (rs.set i (m.addr,(m.word,(u,())))) (Int.toNat (i:Int)) zR).1,((List.getD (rs.set i (m.addr,(m.word,(u,())))) (Int.toNat (i:Int)) zR).2.1,((List.getD (rs.set i (m.addr,(m.word,(u,())))) (Int.toNat (i:Int)) zR).2.2.1,())))))=some (true,(m.addr,(m.word,(wr u (cd (w.addr.map (bt · v))) (cd (w.data.map (bt · v))),())))):=by rw[hg];exact ann ⟨m1,m2⟩ ⟨m3,m4⟩ (Dr (by rw[aI];exact a1)) (Dr (by rw[aI];exact a2))
  have e:∀(A B:List eu) (p q:Int),A=B->p=q->(some (.inl ((i:Int),(m.writes.map bH,((m.writes.length:Int),(p,mc n ord ls A (v,())))))):Option (TL Cv.σs⊕Out Ck))=some (.inl ((i:Int),(m.writes.map bH,((m.writes.length:Int),(q,mc n ord ls B (v,())))))):=by rintro _ _ _ _ rfl rfl;rfl
  unfold mc nt
  try dsimp only
  unfold CI;refine ax (ar (show(k:Int)<(m.writes.length:Int) by omega)) (ak (aK ⟨by omega,by omega⟩) (ah e0 ?_));unfold jk;cases hon:bt w.on v with|true=>rw[if_pos rfl];refine ax rfl (ah e1 (ah e2 (ah e3 (e _ _ _ _ ?_ (bR (by omega) (by omega))))));exact List.set_set _|false=>rw[if_neg (by simp)];exact ag rfl (e _ _ _ _ rfl (bR (by omega) (by omega)))
 .unfold mc nt
  try dsimp only
  unfold CI;rw[dS];exact ag (au (show ¬(m.writes.length:Int)<(m.writes.length:Int) by omega)) rfl
theorem anG(ord:List (bE×bq))(ls:List Bool)(rs:List eu)(v:List Bool){i K:Nat}{m:aV}{c:List aJ}(hm:n.aa[i]?=some m)(hc:nP m K c)(hK:K<=5000)(hr:rs[i]?=some (m.addr,(m.word,(c,())))) :
  ZT ((i:Int),mc n ord ls rs (v,()))=some (mc n ord ls (rs.set i (m.addr,(m.word,(nK v m c,())))) (v,())):=by
 have hm':(n.aa.map af)[i]?=some (af m):=by rw[bT,hm];rfl
 have hi:=dz hm';have hri:=dz hr;have hset:rs.set i (m.addr,(m.word,(c,())))=rs:=by rw[aN hri]at hr;injection hr with hr;rw[<-hr];exact List.set_getElem_self hri
 have e2:=af8 hs ord ls rs v hm hc hK hri;rw[hset]at e2;have gM:gt ab (n.aa.map af) (i:Int)=af m:=bF (σ:=ab) hm';have hwl:((gt ab (n.aa.map af) (i:Int)).2.2.2.2.1)=m.writes.map bH:=by rw[gM];rfl
 have ee:∀(L:List aH.T),L=m.writes.map bH->Mq ((Int.ofNat (Int.toNat (i:Int))),(L,((Int.ofNat L.length),((0:Int),mc n ord ls rs (v,())))))=some (mc n ord ls (rs.set i (m.addr,(m.word,(nK v m c,())))) (v,())):=by
  rintro _ rfl;have hl:Int.ofNat (m.writes.map bH).length=(m.writes.length:Int):=by rw[aI];rfl
  rw[hl];exact e2
 exact ak (show av (i:Int) (List.length rs)=true from aK ⟨by omega,by omega⟩) (ak (show av (i:Int) (List.length (n.aa.map af))=true from aK ⟨by omega,by omega⟩) (ah (ee _ hwl) rfl))
theorem ag5(ord:List (bE×bq))(ls:List Bool)(rs:List eu)(v:List Bool) :
  Z9 (n.constraints,((n.constraints.length:Int),((0:Int),mc n ord ls rs (true,(v,())))))=some (mc n ord ls rs (qA n v,(v,()))):=by
 have hl:=hs.lens.2.2.2.1;unfold Z9;delta u16;refine dn (fun k:Nat=>(n.constraints,((n.constraints.length:Int),((k:Int),mc n ord ls rs ((n.constraints.take k).all (bt · v),(v,())))))) n.constraints.length rfl ?_ ?_ (bL (by omega))
 .intro k hk;have hx:=aN hk;have hm:n.constraints[k]∈cD n:=by unfold cD;simp only[List.mem_append];exact .inl (.inl (.inr (dk hk)))
  have e1:kh (gt (.int .i64) n.constraints (k:Int),(v,()))=some (bt n.constraints[k] v,()):=by rw[bF (σ:=.int .i64) hx];exact qV _ _ (tc hs hm)
  have ht:(n.constraints.take (k+1)).all (bt · v)=((n.constraints.take k).all (bt · v)&&bt n.constraints[k] v):=by rw[Pl.dy hx,List.all_append];simp
  have e:∀(a b:Bool) (p q:Int),a=b->p=q->(some (.inl (n.constraints,((n.constraints.length:Int),(p,mc n ord ls rs (a,(v,())))))):Option (TL CG.σs⊕Out Cz))=some (.inl (n.constraints,((n.constraints.length:Int),(q,mc n ord ls rs (b,(v,())))))):=by rintro _ _ _ _ rfl rfl;rfl
  rw[ht];unfold mc nt
  try dsimp only
  unfold CP;refine ax (ar (show(k:Int)<(n.constraints.length:Int) by omega)) (ak (aK ⟨by omega,by omega⟩) ?_);cases(n.constraints.take k).all (bt · v)with
  |true=>exact ax rfl (ah e1 (e _ _ _ _ (by cases bt n.constraints[k] v<;>rfl) (bR (by omega) (by omega))))
  |false=>exact ag rfl (e _ _ _ _ rfl (bR (by omega) (by omega)))
 .unfold mc nt
  try dsimp only
  unfold CP;rw[dS];exact ag (au (show ¬(n.constraints.length:Int)<(n.constraints.length:Int) by omega)) rfl
theorem afV(ord:List (bE×bq))(ls:List Bool)(rs:List eu)(f:Bool)(v:List Bool) :
  Z0 (n.bc,((n.bc.length:Int),((0:Int),mc n ord ls rs (f,([],(v,()))))))=some (mc n ord ls rs (f,(sw n v,(v,())))):=by
 have hl:=hs.lens.2.2.2.1;unfold Z0;delta ka;refine dn (fun k:Nat=>(n.bc,((n.bc.length:Int),((k:Int),mc n ord ls rs (f,((n.bc.take k).map (bt · v),(v,()))))))) n.bc.length rfl ?_ ?_ (bL (by omega))
 .intro k hk;have hx:=aN hk;have hm:n.bc[k]∈cD n:=by unfold cD;simp only[List.mem_append];exact .inl (.inl (.inl (.inr (dk hk))))
  have e1:kh (gt (.int .i64) n.bc (k:Int),(v,()))=some (bt n.bc[k] v,()):=by rw[bF (σ:=.int .i64) hx];exact qV _ _ (tc hs hm)
  have ht:(n.bc.take (k+1)).map (bt · v)=(n.bc.take k).map (bt · v)++[bt n.bc[k] v]:=by rw[Pl.dy hx,eJ];rfl
  have e:∀(a b:List Bool) (p q:Int),a=b->p=q->(some (.inl (n.bc,((n.bc.length:Int),(p,mc n ord ls rs (f,(a,(v,()))))))):Option (TL CC.σs⊕Out Co))=some (.inl (n.bc,((n.bc.length:Int),(q,mc n ord ls rs (f,(b,(v,()))))))):=by rintro _ _ _ _ rfl rfl;rfl
  unfold mc nt
  try dsimp only
  unfold CL;exact ax (ar (show(k:Int)<(n.bc.length:Int) by omega)) (ak (aK ⟨by omega,by omega⟩) (ah e1 (ak (VK _ _ (by rw[aI,dx];omega)) (e _ _ _ _ ht.symm (bR (by omega) (by omega))))))
 .unfold mc nt
  try dsimp only
  unfold CL;rw[dS];exact ag (au (show ¬(n.bc.length:Int)<(n.bc.length:Int) by omega)) rfl
theorem abr{α:Type}{A B:List α}{k:Nat}{x:α}(hA:A[k]?=some x)(hB:k<B.length):(A.take k++B.drop k).set k x=A.take (k+1)++B.drop (k+1):=by have hk:=(List.getElem?_eq_some_iff.1 hA).1;rw[sZ hB,tE (by rw[dx];omega),Pl.dy hA];simp
theorem afW(ord:List (bE×bq))(ls:List Bool)(rs:List eu)(f:Bool)(bs v:List Bool)(hls:ls.length=n.aj.length) :
  ZZ (n.aj.map bf,(((n.aj.map bf).length:Int),((0:Int),mc n ord ls rs (f,(bs,(v,()))))))=some (mc n ord (dY n v) rs (f,(bs,(v,())))):=by
 have hl:=hs.lens.2.1;have hL:((n.aj.map bf).length:Int)=(n.aj.length:Int):=by rw[aI]
 have hnl:(dY n v).length=n.aj.length:=by unfold dY;rw[aI]
 unfold ZZ;delta ka;refine dn (fun k:Nat=>(n.aj.map bf,(((n.aj.map bf).length:Int),((k:Int),mc n ord ((dY n v).take k++ls.drop k) rs (f,(bs,(v,()))))))) n.aj.length rfl ?_ ?_ (bL (by omega))
 .intro k hk;have hx:=aN hk;have hx':(n.aj.map bf)[k]?=some (bf n.aj[k]):=by rw[bT,hx];rfl
  have hn:(dY n v)[k]?=some (bt n.aj[k].next v):=by unfold dY;rw[bT,hx];rfl
  have hm:n.aj[k].next∈cD n:=by unfold cD;simp only[List.mem_append];exact .inl (.inl (.inl (.inl (.inl (List.mem_map.2 ⟨_,dk hk,rfl⟩)))))
  have e1:kh ((gt ae (n.aj.map bf) (k:Int)).2.1,(v,()))=some (bt n.aj[k].next v,()):=by rw[bF (σ:=ae) hx'];exact qV n.aj[k].next v (tc hs hm)
  have hmix:((dY n v).take k++ls.drop k).set k (bt n.aj[k].next v)=(dY n v).take (k+1)++ls.drop (k+1):=abr hs hn (by omega);have hml:((dY n v).take k++ls.drop k).length=n.aj.length:=by rw[aU,dx,List.length_drop];omega
  have e:∀(a b:List Bool) (p q:Int),a=b->p=q->(some (.inl (n.aj.map bf,(((n.aj.map bf).length:Int),(p,mc n ord a rs (f,(bs,(v,()))))))):Option (TL CB.σs⊕Out Cn))=some (.inl (n.aj.map bf,(((n.aj.map bf).length:Int),(q,mc n ord b rs (f,(bs,(v,()))))))):=by rintro _ _ _ _ rfl rfl;rfl
  unfold mc nt
  try dsimp only
  unfold CK;exact ax (ar (show(k:Int)<((n.aj.map bf).length:Int) by omega)) (ak (aK ⟨by omega,by omega⟩) (ah e1 (ak (aK ⟨by omega,by omega⟩) (e _ _ _ _ hmix (bR (by omega) (by omega))))))
 .have hfin:(dY n v).take n.aj.length++ls.drop n.aj.length=dY n v:=by rw[List.drop_eq_nil_of_le (by omega),dB,fR (by omega)]
  rw[hfin];unfold mc nt
  try dsimp only
  unfold CK;exact ag (au (show ¬(n.aj.length:Int)<((n.aj.map bf).length:Int) by omega)) rfl
theorem afX(ord:List (bE×bq))(ls nl:List Bool)(cs:List (List aJ)){K:Nat}(hK:K<=5000)(ok:jG n K ls cs)(f:Bool)(bs v:List Bool) :
  ZY (((bJ n cs).length:Int),((0:Int),mc n ord nl (bJ n cs) (f,(bs,(v,())))))=some (mc n ord nl (bJ n (eI n cs v)) (f,(bs,()))):=by
 have hM:=hs.lens.2.2.2.2;have hcl:=ok.jU;have hz:(eI n cs v).length=n.aa.length:=by unfold eI;rw[List.length_zipWith];omega
 have hr1:=wV hcl;have hr2:=wV hz;unfold ZY;delta u16;refine dn (fun k:Nat=>(((bJ n cs).length:Int),((k:Int),mc n ord nl ((bJ n (eI n cs v)).take k++(bJ n cs).drop k) (f,(bs,(v,())))))) n.aa.length rfl ?_ ?_ (bL (by omega))
 .intro k hk;have hx:=aN hk;have hkc:k<cs.length:=by omega
  have hy:=aN hkc;have hn:(eI n cs v)[k]?=some (nK v n.aa[k] cs[k]):=by unfold eI;rw[List.getElem?_zipWith,hx,hy]
  have ha:=wY hx hy;have hb:=wY hx hn;have hmid:((bJ n (eI n cs v)).take k++(bJ n cs).drop k)[k]?=some (n.aa[k].addr,(n.aa[k].word,(cs[k],()))):=by rw[List.getElem?_append_right (by rw[dx];omega),dx,Nat.min_eq_left (by omega),Nat.sub_self,List.getElem?_drop];exact ha
  have ew:=anG hs ord nl ((bJ n (eI n cs v)).take k++(bJ n cs).drop k) v hx (ok.ok k _ _ hx hy) hK hmid;rw[abr hs hb (by omega)]at ew;have e:∀(p q:Int) (R:List eu),p=q->(some (.inl (((bJ n cs).length:Int),(p,mc n ord nl R (f,(bs,(v,())))))):Option (TL CA.σs⊕Out Cm))=some (.inl (((bJ n cs).length:Int),(q,mc n ord nl R (f,(bs,(v,())))))):=by rintro _ _ _ rfl;rfl
  unfold mc nt
  try dsimp only
  unfold CJ;exact ax (ar (show(k:Int)<((bJ n cs).length:Int) by omega)) (ah ew (e _ _ _ (bR (by omega) (by omega))))
 .have hfin:(bJ n (eI n cs v)).take n.aa.length++(bJ n cs).drop n.aa.length=bJ n (eI n cs v):=by rw[List.drop_eq_nil_of_le (by omega),dB,fR (by omega)]
  rw[hfin];unfold mc nt
  try dsimp only
  unfold CJ;exact ag (au (show ¬(n.aa.length:Int)<((bJ n cs).length:Int) by omega)) rfl
theorem Un(ft:Fit n){K:Nat}(hK:K<=5000)(ls ins:List Bool)(cs:List (List aJ))(ok:jG n K ls cs)(hi:ins.length=n.aL.length) :
  Bs (ins,mc n (bK n V) ls (bJ n cs) ())=some (qA n (ct n ls cs ins),((0:Int),mc n (bK n V) (dY n (ct n ls cs ins)) (bJ n (eI n cs (ct n ls cs ins))) (sw n (ct n ls cs ins),()))):=by
 have ev:=N3 hs ft hK ls ins cs ok hi;generalize ct n ls cs ins=v at ev;exact ah ev (ag rfl (ah (ag5 hs (bK n V) ls (bJ n cs) v) (ah (afV hs (bK n V) ls (bJ n cs) (qA n v) v) (ah (afW hs (bK n V) ls (bJ n cs) (qA n v) (sw n v) v ok.kS) (ah (afX hs (bK n V) ls (dY n v) cs hK ok (qA n v) (sw n v) v) rfl)))))
theorem abg(ord:List (bE×bq))(ls ins:List Bool)(rs:List eu)(hi:ins.length≠n.aL.length) :
  qQ (ins,mc n ord ls rs ())=some ((1:Int),mc n ord ls rs ([],())):=by
 have q1:(iQ (Int.ofNat (List.length ins)) (Int.ofNat (List.length n.aL)))=false:=au (fun h=>hi (Int.ofNat.inj h));exact ax (show bn false true (Bool.not (iQ (Int.ofNat (List.length ins)) (Int.ofNat (List.length n.aL))))=true by rw[q1];rfl) rfl
end
theorem rL{L:List Int}(h:L.length<=1000000):sN (L,())=some (L,()):=ak (lE (by decide) (by show L.length<=_;omega)) rfl
theorem clL{L:List ae.T}(h:L.length<=1000000):ak9 (L,())=some (L,()):=ak (lE (by decide) (by show L.length<=_;omega)) rfl
theorem clA{L:List ae.T}(h:L.length<=1000000):alD (L,())=some (L,()):=ak (lE (by decide) (by show L.length<=_;omega)) rfl
theorem clM{L:List ab.T}(h:L.length<=1000000):Zr (L,())=some (L,()):=ak (lE (by decide) (by show([]++L).length<=_;rw[List.nil_append];omega)) rfl
theorem clR{L:List bg.T}(h:L.length<=1000000):sQ (L,())=some (L,()):=ak (lE (by decide) (by show([]++L).length<=_;rw[List.nil_append];omega)) rfl
theorem clW{L:List aH.T}(h:L.length<=1000000):sP (L,())=some (L,()):=ak (lE (by decide) (by show([]++L).length<=_;rw[List.nil_append];omega)) rfl
theorem clB{L:List Bool}(h:L.length<=1000000):LH (L,())=some (L,()):=ak (lE (by decide) (by show([]++L).length<=_;rw[List.nil_append];omega)) rfl
section
variable(i:Nat)(t41 t42 b00:Int)(b01:List Int)(b02:List ae.T)(b03 b04 b05:List Int)(b07:List ae.T)(b1:List ab.T)(m0 m1:Int)(m2:Bool)(rs:List bg.T)(ws:List aH.T)(z:Int)
theorem an7(hr:rs.length<=1000)(hrr:∀r∈rs,r.2.1.length<=100000) :
  Nu ((i:Int),(t41,(t42,((rs.length:Int),((0:Int),(b00,(b01,(b02,(b03,(b04,(b05,(b07,((i:Int),(b1,(m0,(m1,(m2,(rs,(ws,(z,()))))))))))))))))))))=some ((i:Int),(t41,(t42,(b00,(b01,(b02,(b03,(b04,(b05,(b07,((i:Int),(b1,(m0,(m1,(m2,(rs,(ws,(z,())))))))))))))))))):=by
 unfold Nu;delta ku;refine dn (fun k:Nat=>((i:Int),(t41,(t42,((rs.length:Int),((k:Int),(b00,(b01,(b02,(b03,(b04,(b05,(b07,((i:Int),(b1,(m0,(m1,(m2,(rs,(ws,(z,()))))))))))))))))))))) rs.length rfl ?_ ?_ (bL (by omega))
 .intro k hk;have hx:=aN hk;have hg:gt bg rs (k:Int)=rs[k]:=bF (σ:=bg) hx;have e1:sN ((gt bg rs (k:Int)).2.1,())=some ((gt bg rs (k:Int)).2.1,()):=rL (by rw[hg];exact dK (hrr _ (dk hk)) (by decide));have e:∀(p q:Int) (A:List bg.T),p=q->A=rs->(some (.inl ((i:Int),(t41,(t42,((rs.length:Int),(p,(b00,(b01,(b02,(b03,(b04,(b05,(b07,((i:Int),(b1,(m0,(m1,(m2,(A,(ws,(z,()))))))))))))))))))))):Option (TL C8.σs⊕Out C2))=some (.inl ((i:Int),(t41,(t42,((rs.length:Int),(q,(b00,(b01,(b02,(b03,(b04,(b05,(b07,((i:Int),(b1,(m0,(m1,(m2,(rs,(ws,(z,()))))))))))))))))))))):=by rintro _ _ _ rfl rfl;rfl
  have hi:av (k:Int) (List.length rs)=true:=aK ⟨by omega,by omega⟩
  try dsimp only
  unfold Di;exact ax (ar (show(k:Int)<(rs.length:Int) by omega)) (ak (by show Nat.beq i i=true;simp) (ak (by show Nat.beq i i=true;simp) (ak hi (ah e1 (ak hi (e _ _ _ (bR (by omega) (by omega)) (tg (σ:=bg) hk rfl rfl)))))))
 .try dsimp only
  unfold Di;exact ag (au (show ¬(rs.length:Int)<(rs.length:Int) by omega)) rfl
theorem an8(hr:ws.length<=1000)(hrr:∀r∈ws,r.2.1.length<=100000/\r.2.2.1.length<=100000) :
  Nt ((i:Int),(t41,(t42,((ws.length:Int),((0:Int),(b00,(b01,(b02,(b03,(b04,(b05,(b07,((i:Int),(b1,(m0,(m1,(m2,(rs,(ws,(z,()))))))))))))))))))))=some (t41,(t42,(b00,(b01,(b02,(b03,(b04,(b05,(b07,((i:Int),(b1,(m0,(m1,(m2,(rs,(ws,(z,())))))))))))))))) ):=by
 unfold Nt;delta ku;refine dn (fun k:Nat=>((i:Int),(t41,(t42,((ws.length:Int),((k:Int),(b00,(b01,(b02,(b03,(b04,(b05,(b07,((i:Int),(b1,(m0,(m1,(m2,(rs,(ws,(z,()))))))))))))))))))))) ws.length rfl ?_ ?_ (bL (by omega))
 .intro k hk;have hx:=aN hk;have hg:gt aH ws (k:Int)=ws[k]:=bF (σ:=aH) hx;have hb:=hrr _ (dk hk);have e1:sN ((gt aH ws (k:Int)).2.1,())=some ((gt aH ws (k:Int)).2.1,()):=rL (by rw[hg];exact dK hb.1 (by decide));have e2:sN ((gt aH ws (k:Int)).2.2.1,())=some ((gt aH ws (k:Int)).2.2.1,()):=rL (by rw[hg];exact dK hb.2 (by decide));have e:∀(p q:Int) (A:List aH.T),p=q->A=ws->(some (.inl ((i:Int),(t41,(t42,((ws.length:Int),(p,(b00,(b01,(b02,(b03,(b04,(b05,(b07,((i:Int),(b1,(m0,(m1,(m2,(rs,(A,(z,()))))))))))))))))))))):Option (TL C7.σs⊕Out C1))=some (.inl ((i:Int),(t41,(t42,((ws.length:Int),(q,(b00,(b01,(b02,(b03,(b04,(b05,(b07,((i:Int),(b1,(m0,(m1,(m2,(rs,(ws,(z,()))))))))))))))))))))):=by rintro _ _ _ rfl rfl;rfl
  have hi:av (k:Int) (List.length ws)=true:=aK ⟨by omega,by omega⟩;have hs1:List.set ws (Int.toNat (k:Int)) ((gt aH ws (k:Int)).1,((gt aH ws (k:Int)).2.1,((gt aH ws (k:Int)).2.2.1,())))=ws:=tg (σ:=aH) hk rfl rfl;have hs2:∀A:List aH.T,A=ws->List.set A (Int.toNat (k:Int)) ((gt aH A (k:Int)).1,((gt aH A (k:Int)).2.1,((gt aH ws (k:Int)).2.2.1,())))=ws:=by rintro _ rfl;exact hs1
  try dsimp only
  unfold Dh;exact ax (ar (show(k:Int)<(ws.length:Int) by omega)) (ak (by show Nat.beq i i=true;simp) (ak hi (ah e1 (ah e2 (ak (ar rfl) (e _ _ _ (bR (by omega) (by omega)) (hs2 _ hs1)))))))
 .try dsimp only
  unfold Dh;exact ag (au (show ¬(ws.length:Int)<(ws.length:Int) by omega)) rfl
end
theorem cl8{n:aB}(ft:Fit n)(b00:Int)(b01:List Int)(b02:List ae.T)(b03 b04 b05:List Int)(b07:List ae.T)(z:Int) :
  aaO (((n.aa.map af).length:Int),((0:Int),(b00,(b01,(b02,(b03,(b04,(b05,(b07,(n.aa.map af,(z,())))))))))))=some (b00,(b01,(b02,(b03,(b04,(b05,(b07,(n.aa.map af,(z,()))))))))):=by
 have hL:(n.aa.map af).length=n.aa.length:=aI ..;have hM:=ft.aa.1;unfold aaO;delta kV;refine dn (fun k:Nat=>(((n.aa.map af).length:Int),((k:Int),(b00,(b01,(b02,(b03,(b04,(b05,(b07,(n.aa.map af,(z,()))))))))))) ) n.aa.length rfl ?_ ?_ (bL (by omega))
 .intro k hk;have hx:=aN hk;have hx':(n.aa.map af)[k]?=some (af n.aa[k]):=by rw[bT,hx];rfl
  have hf:=ft.aa.2 _ (dk hk);generalize n.aa[k]=m at hx' hf;have hg:gt ab (n.aa.map af) (k:Int)=af m:=bF (σ:=ab) hx';have e1:sQ ((gt ab (n.aa.map af) (k:Int)).2.2.2.1,())=some (m.reads.map bW,()):=by rw[hg];exact clR (by show(m.reads.map bW).length<=_;rw[aI];have:=hf.oi;omega)
  have e2:sP ((gt ab (n.aa.map af) (k:Int)).2.2.2.2.1,())=some (m.writes.map bH,()):=by rw[hg];exact clW (by show(m.writes.map bH).length<=_;rw[aI];have:=hf.qp;omega)
  have e13:=an7 k ((n.aa.map af).length:Int) (k:Int) b00 b01 b02 b03 b04 b05 b07 (n.aa.map af) (gt ab (n.aa.map af) (k:Int)).1 (gt ab (n.aa.map af) (k:Int)).2.1 (gt ab (n.aa.map af) (k:Int)).2.2.1 (m.reads.map bW) (m.writes.map bH) z (by rw[aI];have:=hf.oi;omega) (fun r hr=>by obtain⟨r2,hr2,rfl⟩:=List.mem_map.1 hr;have:=(hf.ks r2 hr2).1;show r2.addr.length<=_;omega);have e18:=an8 k ((n.aa.map af).length:Int) (k:Int) b00 b01 b02 b03 b04 b05 b07 (n.aa.map af) (gt ab (n.aa.map af) (k:Int)).1 (gt ab (n.aa.map af) (k:Int)).2.1 (gt ab (n.aa.map af) (k:Int)).2.2.1 (m.reads.map bW) (m.writes.map bH) z (by rw[aI];have:=hf.qp;omega) (fun r hr=>by obtain⟨r2,hr2,rfl⟩:=List.mem_map.1 hr;have:=hf.pg r2 hr2;exact⟨by show r2.addr.length<=_;omega,by show r2.data.length<=_;omega⟩);have e:∀(p q:Int) (A:List ab.T),p=q->A=n.aa.map af->(some (.inl (((n.aa.map af).length:Int),(p,(b00,(b01,(b02,(b03,(b04,(b05,(b07,(A,(z,())))))))))))) :Option (TL Dc.σs⊕Out C6))=some (.inl (((n.aa.map af).length:Int),(q,(b00,(b01,(b02,(b03,(b04,(b05,(b07,(n.aa.map af,(z,())))))))))))) :=by rintro _ _ _ rfl rfl;rfl
  have hst:List.set (n.aa.map af) (Int.toNat (k:Int)) ((gt ab (n.aa.map af) (k:Int)).1,((gt ab (n.aa.map af) (k:Int)).2.1,((gt ab (n.aa.map af) (k:Int)).2.2.1,(m.reads.map bW,(m.writes.map bH,())))))=n.aa.map af:=tg (σ:=ab) (by omega) (by rw[hg];rfl) rfl;have hi:av (k:Int) (List.length (n.aa.map af))=true:=aK ⟨by omega,by omega⟩;have nn:nQ (Int.toNat (k:Int)) (Int.toNat (k:Int))=true:=ar rfl;have nb:Nat.beq (Int.toNat (k:Int)) (Int.toNat (k:Int))=true:=by simp
  try dsimp only
  unfold Dm;refine ax (ar (show(k:Int)<((n.aa.map af).length:Int) by omega)) (ak hi (ah e1 (ak nn (ak nn (ak nn (ak nn (ak nn (ak (jX (fun x=>Sh.jY x) _) (ah e2 (ak nn (ak nn (ak nn (ak nb (ak nb (ah e13 (ak nb (ah e18 (e _ _ _ (bR (show(k:Int)+1=((k+1:Nat):Int) by omega) (by omega)) hst))))))))))))))))))
 .try dsimp only
  unfold Dm;exact ag (au (show ¬(n.aa.length:Int)<((n.aa.map af).length:Int) by omega)) rfl
theorem ae0{n:aB}(ft:Fit n):ani (cH n,())=some (cH n,()):=by have e1:=rL (L:=n.aL) (by have:=ft.ins.1;omega);have e2:=rL (L:=n.bz) (by have:=ft.out.1;omega);have e3:=rL (L:=n.bc) (by have:=ft.bad.1;omega);have e4:=rL (L:=n.constraints) (by have:=ft.mJ.1;omega);have e5:=clL (L:=n.aj.map bf) (by rw[aI];have:=ft.aE.1;omega);have e6:=clA (L:=n.aC.map cG) (by rw[aI];have:=ft.aC.1;omega);have e7:=clM (L:=n.aa.map af) (by rw[aI];have:=ft.aa.1;omega);have e8:=cl8 ft n.vars n.aL (n.aj.map bf) n.bz n.bc n.constraints (n.aC.map cG) (0:Int);exact ah e1 (ah e2 (ah e3 (ah e4 (ah e5 (ah e6 (ah e7 (ah e8 rfl)))))))
theorem ahS(n:aB)(cs:List (List aJ))(h:cs.length=n.aa.length):kZ (n.aa.map af) cs (n.aa.map af).length=bJ n cs:=by
 refine List.ext_getElem? fun i=>?_;rcases de i n.aa.length with q|q
 .have hm:=aN q;have hc:=List.getElem?_eq_getElem (l:=cs) (i:=i) (by omega);have hm':(n.aa.map af)[i]?=some (af n.aa[i]):=by rw[bT,hm];rfl
  rw[wY hm hc];unfold kZ;rw[bT,List.getElem?_range (by rw[aI];exact q)];have g1:gt ab (n.aa.map af) (i:Int)=af n.aa[i]:=bF (σ:=ab) hm';have g2:gt (.sl aA) cs (i:Int)=cs[i]:=bF (σ:=.sl aA) hc;show some (nJ (gt ab (n.aa.map af) (i:Int)).1 (gt ab (n.aa.map af) (i:Int)).2.1 (gt (.sl aA) cs (i:Int)))=_;rw[g1,g2];rfl
 .have h1:(bJ n cs)[i]?=none:=ep (by rw[wV h];exact q);have h2:(kZ (n.aa.map af) cs (n.aa.map af).length)[i]?=none:=ep (by unfold kZ;rw[aI,List.length_range,aI];exact q);exact h2.trans h1.symm
theorem abu{x k:Int}(h0:0<=x)(h:jD x k=true):x<2^k.toNat:=by unfold jD at h;have h:=of_decide_eq_true h;have hp:(0:Int)<2^k.toNat:=Int.pow_pos (by decide);have e:=Int.emod_def x (2^k.toNat);rw[h,Int.mul_zero,Int.sub_zero]at e;have:=Int.emod_lt_of_pos x hp;omega
theorem tf{c:List aJ}{i:Nat}{p:aJ}(h:c[i]?=some p):ez c (i:Int)=p.1/\ib c (i:Int)=p.2.1:=by have g:gt aA c (i:Int)=p:=bF (σ:=aA) h;unfold ez ib;rw[g];exact⟨rfl,rfl⟩
theorem anU{m:aV}{c:List aJ}(h:jT m.addr m.word c=true)(ok:oh c):nP m 4096 c:=by
 unfold jT at h;simp only[Bool.and_eq_true,decide_eq_true_eq]at h;obtain⟨⟨⟨⟨⟨h1,h2⟩,h3⟩,h4⟩,h5⟩,h6⟩:=h;have hs:=Ww h6;have h6':∀i,i<c.length->jC m.addr m.word c i=true:=fun i hi=>List.all_eq_true.1 h6 i (List.mem_range.2 hi);have hc:∀p∈c,(0<=p.1/\p.1<2^m.addr.toNat)/\0<p.2.1/\p.2.1<2^m.word.toNat:=by intro p hp;obtain⟨i,hi⟩:=List.getElem?_of_mem hp;have hil:=dz hi;obtain⟨e1,e2⟩:=tf hi;have hb:=h6' i hil;obtain⟨o1,o2⟩:=ok i hil;unfold jC at hb;simp only[Bool.and_eq_true,Bool.not_eq_true',decide_eq_false_iff_not]at hb;obtain⟨⟨⟨b1,b2⟩,b3⟩,_⟩:=hb;rw[e1]at o1 b2;rw[e2]at o2 b1 b3;exact⟨⟨o1.1,abu o1.1 b2⟩,by omega,abu o2.1 b3⟩
 refine⟨?_,h5,fun p hp=>(hc p hp).1,fun p hp=>(hc p hp).2⟩;refine List.pairwise_iff_getElem.2 fun i j hi hj hij=>?_;have:=hs j hj i hij;rw[(tf (aN hi)).1,(tf (aN hj)).1]at this;exact this
theorem anK{n:aB}{ls:List Bool}{cs:List (List aJ)}(h:iN (cH n) (ls,(cs,()))=true)(ok:pb cs):jG n 4096 ls cs:=by
 unfold iN at h;simp only[Bool.and_eq_true,decide_eq_true_eq]at h;obtain⟨⟨h1,h2⟩,h3⟩:=h;have h1':ls.length=n.aj.length:=h1.trans (aI ..);have h2':cs.length=n.aa.length:=h2.trans (aI ..);refine⟨h1',h2',fun i m c hm hc=>?_⟩;have hil:=dz hm;have h3':∀i,i<(n.aa.map af).length->kY (n.aa.map af) cs i=true:=by have h3:(List.range (n.aa.map af).length).all (kY (n.aa.map af) cs)=true:=h3;exact fun i hi=>List.all_eq_true.1 h3 i (List.mem_range.2 hi)
 have hp:=h3' i (by rw[aI];exact hil);unfold kY at hp;have hm':(n.aa.map af)[i]?=some (af m):=by rw[bT,hm];rfl
 have g1:gt ab (n.aa.map af) (i:Int)=af m:=bF (σ:=ab) hm';have g2:gt (.sl aA) cs (i:Int)=c:=bF (σ:=.sl aA) hc;rw[g1,g2]at hp;exact anU hp (ok c (dc hc))
theorem aa3{n:aB}(h:Pl.dF n=0):∃V,cr n V/\dv n=0/\n.vars.toNat=V/\eO (aR n) V=true:=by
 unfold Pl.dF at h;by_cases h0:dv n=0
 .obtain⟨V,hs⟩:=qK h0;have hV:n.vars.toNat=V:=by rw[hs.vars];rfl
  rw[if_neg (by simpa using h0),hV]at h;refine⟨V,hs,h0,hV,?_⟩;cases q:eO (aR n) V
  .rw[q]at h;simp at h
  .rfl
 .rw[if_pos h0]at h;exact absurd h h0
section
variable{n:aB}(ft:Fit n)(ls:List Bool)(cs:List (List aJ))
include ft
theorem anO:Zq8 (nt n (ls,(cs,())))=some (match iN (cH n) (ls,(cs,()))with|true=>((0:Int),(kZ (n.aa.map af) cs (n.aa.map af).length,()))|false=>((14:Int),([],()))):=abx (cH n) (ls,(cs,())) (by show(n.aa.map af).length<=_;rw[aI];have:=ft.aa.1;omega)
theorem Vb(h:Pl.dF n=0)(hf:iN (cH n) (ls,(cs,()))=true)(hb:ls.length<=1000000):amM (nt n (ls,(cs,())))=some (.inr ((0:Int),mc n (bK n n.vars.toNat) ls (bJ n cs) ())):=by
 obtain⟨V,hs,h0,hV,ha⟩:=aa3 h;have eo:=amZ hs ft h0;rw[if_pos ha]at eo;rw[hV];have el:=anO ft ls cs;rw[hf]at el;have hcs:cs.length=n.aa.length:=by unfold iN at hf;simp only[Bool.and_eq_true,decide_eq_true_eq]at hf;exact hf.1.2.trans (aI ..)
 have hr:=ahS n cs hcs;have e:∀R R':List eu,R=R'->(some (.inr ((0:Int),mc n (bK n V) ls R ())):Option (Out Dl))=some (.inr ((0:Int),mc n (bK n V) ls R' ())):=by rintro _ _ rfl;rfl
 exact ah (xZ ft) (ag (by rw[h];rfl) (ah el (ag rfl (ah eo (ah (ae0 ft) (ah (clB (L:=ls) hb) (ak (jX (fun x=>Sh.jY x) _) (e _ _ hr))))))))
end
section
variable{n:aB}(ft:Fit n)
include ft
theorem am4:List.length (cH n).2.2.1<=100000/\List.length (cH n).2.2.2.2.2.2.1<=100000:=⟨by show(n.aj.map bf).length<=_;rw[aI];have:=ft.aE.1;omega,by show(n.aa.map af).length<=_;rw[aI];have:=ft.aa.1;omega⟩
theorem qj:Fit (js (cH n)):=by rw[o9];exact ft
end
theorem I3:∀(l:List (Int×Bool)) (v w:List Bool) (p:Nat),p<v.length->p<w.length->v.getD p false=w.getD p false->(eH v l).getD p false=(eH w l).getD p false
 |[],v,w,p,_,_,h=>h|q::l,v,w,p,h1,h2,h=>by
  show(eH (v.set q.1.toNat q.2) l).getD p false=(eH (w.set q.1.toNat q.2) l).getD p false;refine I3 l _ _ p (by rw[List.length_set];exact h1) (by rw[List.length_set];exact h2) ?_;by_cases e:p=q.1.toNat
  .subst e;rw[bM,bM,List.getElem?_set_self h1,List.getElem?_set_self h2]
  .rw[getD_set_ne e,getD_set_ne e];exact h
theorem afR(v:List Bool)(A B:List (Int×Bool)):eH v (A++B)=eH (eH v A) B:=by unfold eH;rw[List.foldl_append]
theorem qt{v:List Bool}{l:Int}(hl:0<=l):bt l v=aZ (mM v) l:=by unfold bt aZ mM;rw[if_neg (by omega)]
theorem aeT{l:List Bool}{j:Nat}(hj:j<l.length):decide (((cd l:Nat):Int).toNat / 2^j % 2=1)=l.getD j false:=by rw[eD];exact(Ae l j hj).symm
section
variable{n:aB}{V:Nat}(hs:cr n V)
include hs
theorem Vi{q:Int}(hq:q∈n.aL++n.aj.map (·.var)):∀x∈n6 n,q.toNat∉x.2.nd.to:=by
 intro x hx hm;have hnd:=hs.nodup;have hdef:bX n=(n.aL++n.aj.map (·.var))++(n.aa.flatMap iJ++n.aC.map (·.var)):=by unfold bX;simp
 rw[hdef,List.nodup_append]at hnd;have rq:=hs.jB q (by rw[hdef];exact List.mem_append_left _ hq);obtain⟨r,hr,hrq⟩:=List.mem_map.1 (show q.toNat∈x.2.to.map Int.toNat from hm);have hr2:r∈n.aa.flatMap iJ++n.aC.map (·.var):=by
  rcases qC n hx with⟨_,a,h1,h2⟩|⟨_,m,rr,h1,h2,h3⟩
  .rw[h2]at hr;have hr:r∈[a.var]:=hr;rw[List.mem_singleton.1 hr];exact List.mem_append_right _ (List.mem_map_of_mem (dc h1))
  .rw[h3]at hr;refine List.mem_append_left _ (List.mem_flatMap.2 ⟨m,dc h1,?_⟩);exact List.mem_flatMap.2 ⟨rr,dc h2,hr⟩
 have rr2:=hs.jB r (by rw[hdef];exact List.mem_append_right _ hr2);exact hnd.2.2 q hq r hr2 (by omega)
theorem aeE:(n.aj.map fun l=>l.var.toNat).Nodup:=by
 have hnd:=hs.nodup;have hdef:bX n=n.aL++(n.aj.map (·.var)++(n.aa.flatMap iJ++n.aC.map (·.var))):=by unfold bX;simp
 rw[hdef,List.nodup_append]at hnd;have h2:=hnd.2.1;rw[List.nodup_append]at h2;have h3:=h2.1;rw[List.nodup_iff_pairwise_ne,List.pairwise_map]at h3 |-;refine List.Pairwise.imp_of_mem (fun{a b} ha hb hab=>?_) h3;have ra:=hs.jB a.var (by rw[hdef];exact List.mem_append_right _ (List.mem_append_left _ (List.mem_map_of_mem ha)));have rb:=hs.jB b.var (by rw[hdef];exact List.mem_append_right _ (List.mem_append_left _ (List.mem_map_of_mem hb)));omega
variable(ha:eO (aR n) V=true)
include ha
theorem aeQ{ls:List Bool}(hl:ls.length=n.aj.length)(cs:List (List aJ))(ins:List Bool){p:Nat}(hp:p<n.aj.length):(ct n ls cs ins).getD (la n.aj p).var.toNat false=ls.getD p false:=by
 have hV:n.vars.toNat=V:=by rw[hs.vars];rfl
 have hx:=aN hp;have hla:la n.aj p=n.aj[p]:=by unfold la;rw[bM,hx];rfl
 rw[hla];have hmem:n.aj[p].var∈n.aL++n.aj.map (·.var):=List.mem_append_right _ (List.mem_map_of_mem (dk hp));rw[Up hs ha ls cs ins (Vi hs hmem)];unfold kQ;have hy:=aN (show p<ls.length by omega);have hz:((n.aj.map (·.var)).zip ls)[p]?=some (n.aj[p].var,ls.getD p false):=by rw[List.getElem?_zip_eq_some];exact⟨by rw[bT,hx];rfl,by rw[bM,hy];rfl⟩
 have hr:=hs.jB n.aj[p].var (by unfold bX;simp only[List.mem_append];exact .inl (.inl (.inr (List.mem_map_of_mem (dk hp)))));refine I9 _ _ (n.aj[p].var,ls.getD p false) ?_ (dc hz) (by rw[nO,sF,hV];show n.aj[p].var.toNat<_;omega);have e1:(((n.aj.map (·.var)).zip ls).map fun p=>p.1.toNat)=n.aj.map fun l=>l.var.toNat:=by rw[show(fun p:Int×Bool=>p.1.toNat)=Int.toNat∘Prod.fst from rfl,<-List.map_map,List.map_fst_zip (by rw[aI];omega),List.map_map];rfl
 rw[e1];exact aeE hs
end
section
variable{n:aB}{V:Nat}(hs:cr n V)(h0:dv n=0)(ha:eO (aR n) V=true){s:Mk}{L:List cu}{cv:Nat->Nat}(P:lH n V n.aa.length s L cv)(hv:s.v<=2000)
include hs P
theorem TE{p:Nat}(h1:n.aj.length<=p)(h2:p<L.length):∃(i:Nat) (M:aV) (a j:Nat),i<n.aa.length/\n.aa[i]?=some M/\a<2^M.addr.toNat/\j<M.word.toNat/\p=n.aj.length+cj n i+(a*M.word.toNat+j)/\a*M.word.toNat+j<cq M:=by
 have hlen:=P.len;have hfind:∀k,k<=n.aa.length->p-n.aj.length<cj n k->∃(i:Nat) (M:aV),i<k/\n.aa[i]?=some M/\cj n i<=p-n.aj.length/\p-n.aj.length<cj n i+cq M:=by
  intro k
  induction k with
  |zero=>intro _ h;exact absurd h (by show ¬_<0;omega)|succ k ih=>
   intro hk h;have hM:=aN (show k<n.aa.length by omega);by_cases r:p-n.aj.length<cj n k
   .obtain⟨i,M,a,b⟩:=ih (by omega) r;exact⟨i,M,by omega,b⟩
   .rw[lZ n hM]at h;exact⟨k,_,by omega,hM,by omega,h⟩
 obtain⟨i,M,hi,hM,a1,a2⟩:=hfind n.aa.length (aS _) (by omega);have hw:0<M.word.toNat:=by have:=(mS hs M (dc hM)).2.1;omega
 obtain⟨q,eq⟩:∃q,q=p-n.aj.length-cj n i:=⟨_,rfl⟩;have hq:q<2^M.addr.toNat*M.word.toNat:=by unfold cq at a2;omega
 have hdm:q / M.word.toNat*M.word.toNat+q % M.word.toNat=q:=by rw[Nat.mul_comm];exact Nat.div_add_mod q _
 exact⟨i,M,q / M.word.toNat,q % M.word.toNat,hi,hM,by rw[Nat.div_lt_iff_lt_mul hw];exact hq,Nat.mod_lt q hw,by rw[hdm];omega,by rw[hdm];unfold cq;exact hq⟩
theorem Uc:L.map (·.var)=n.aj.map (·.var)++(L.drop n.aj.length).map (·.var):=by
 have hlen:=P.len;have e:L.take n.aj.length=n.aj:=by
  refine List.ext_getElem? fun p=>?_;by_cases hp:p<n.aj.length
  .have:=P.old p hp;unfold la at this;rw[bM,bM,aN (show p<L.length by omega),aN hp]at this;have this:L[p]'(by omega)=n.aj[p]:=this;rw[List.getElem?_take,if_pos hp,aN (show p<L.length by omega),aN hp,this]
  .rw[List.getElem?_take,if_neg hp,ep (by omega)]
 conv=>lhs;rw[<-List.take_append_drop n.aj.length L,eJ,e]
include h0 ha hv
theorem Ay:eO (aR (bC n s L)) s.v=true:=by
 have hc:=TN hs h0 ha P hv;obtain⟨V',h1,h2,h3,h4⟩:=aa3 hc;have:V'=s.v:=by rw[<-h3];show((s.v:Int)).toNat=_;omega
 rw[this]at h4;exact h4
variable{ls:List Bool}{cs:List (List aJ)}{K:Nat}(ok:jG n K ls cs)(ins:List Bool)
include ok
theorem Uy:Sat (mM (ct (bC n s L) (bS n ls cs n.aa.length) [] ins)) s.a:=by
 intro x hx;have hs':=oA hs P hv;have ha':=Ay hs h0 ha P hv;have h:=Uo hs' ha' (bS n ls cs n.aa.length) [] ins (a:=x) hx;have l1:x.a∈cD (bC n s L):=by unfold cD;simp only[List.mem_append,List.mem_flatMap];exact .inr ⟨x,hx,by show x.a∈[x.a,x.b];simp⟩
 have l2:x.b∈cD (bC n s L):=by unfold cD;simp only[List.mem_append,List.mem_flatMap];exact .inr ⟨x,hx,by show x.b∈[x.a,x.b];simp⟩
 rw[qt (hs'.lits _ l1).1,qt (hs'.lits _ l2).1]at h;exact h
theorem VO:(bS n ls cs n.aa.length).length=L.length:=by rw[vh ls cs ok.jU _ (aS _),P.len,ok.kS]
theorem TO{p:Nat}(hp:p<L.length):mM (ct (bC n s L) (bS n ls cs n.aa.length) [] ins) (la L p).var=(bS n ls cs n.aa.length).getD p false:=aeQ (oA hs P hv) (Ay hs h0 ha P hv) (VO hs h0 ha P hv ok) [] ins hp
theorem aex:Vq n V ls cs ins (ct (bC n s L) (bS n ls cs n.aa.length) [] ins):=by
 have hs':=oA hs P hv;have ha':=Ay hs h0 ha P hv;have hV:n.vars.toNat=V:=by rw[hs.vars];rfl
 have hlo:=P.lo;have hlen:=P.len;obtain⟨N,eN,pN,_⟩:=P.new;refine⟨fun p hp h=>?_,fun a h=>?_,fun i m r hm hr j hj=>?_⟩
 .-- no node's variable
  have hsrc:∀x∈n6 (bC n s L),p∉x.2.nd.to:=by
   intro x hx hpx;rcases qC _ hx with⟨_,a,h1,h2⟩|⟨_,m,r,h1,_⟩
   .rw[h2]at hpx;have hpa:p=a.var.toNat:=List.mem_singleton.1 (show p∈[a.var.toNat]from hpx);have hm:a∈s.a:=dc h1;have node:∀y∈fm n,p∉y.nd.to:=by
     intro y hy;obtain⟨x',hx',e⟩:∃x'∈n6 n,x'.2=y:=by rw[<-pG]at hy;obtain⟨x',hx',e⟩:=List.mem_map.1 hy;exact⟨x',hx',e⟩
     rw[<-e];exact h x' hx'
    have hands:a.var∉n.aC.map (·.var):=by intro hq;obtain⟨b,hb,e⟩:=List.mem_map.1 hq;refine node (ij b) (List.mem_append_left _ (List.mem_map_of_mem hb)) ?_;rw[hpa];show a.var.toNat∈[b.var.toNat];rw[show b.var=a.var from e];simp
    have ra:=hs'.jB a.var (by unfold bX;simp only[List.mem_append];exact .inr (List.mem_map_of_mem hm));rw[eN]at hm;rcases List.mem_append.1 hm with hm|hm
    .exact hands (List.mem_map_of_mem hm)
    .have aY:=pN.subset (List.mem_append_right _ (List.mem_map_of_mem hm));rcases List.mem_append.1 aY with q|q
     .-- a latch's variable is no and's
      have hq:a.var∈L.map (·.var):=by rw[Uc hs P];exact List.mem_append_left _ q
      have:=Vi hs' (q:=a.var) (List.mem_append_right _ hq) x hx;rw[h2]at this;exact this (by show a.var.toNat∈[a.var.toNat];simp)
     .rcases List.mem_append.1 q with q|q
      .rw[dS]at q;obtain⟨m,hm,q⟩:=List.mem_flatMap.1 q;obtain⟨r,hr,q⟩:=List.mem_flatMap.1 q;refine node (oI m.word r) (List.mem_append_right _ (List.mem_flatMap.2 ⟨m,hm,List.mem_map_of_mem hr⟩)) ?_;rw[hpa];exact List.mem_map_of_mem (f:=Int.toNat) q
      .have:=AB.1 q;omega
   .have h1:([]:List aV)[x.1.mem]?=some m:=h1;simp at h1
  rw[Up hs' ha' _ _ _ hsrc];have hv':(bC n s L).vars.toNat=s.v:=by show((s.v:Int)).toNat=_;omega
  unfold kQ;rw[hv',hV];show(eH (eH (List.replicate (V+1) false) (n.aL.zip ins)) ((n.aj.map (·.var)).zip ls)).getD p false=(eH (eH (List.replicate (s.v+1) false) (n.aL.zip ins)) ((L.map (·.var)).zip (bS n ls cs n.aa.length))).getD p false;have hst:bS n ls cs n.aa.length=ls++(bS n ls cs n.aa.length).drop n.aj.length:=by
   have e1:(bS n ls cs n.aa.length).take n.aj.length=ls:=by rw[<-ok.kS];unfold bS;exact List.take_left
   conv=>lhs;rw[<-List.take_append_drop n.aj.length (bS n ls cs n.aa.length),e1]
  rw[Uc hs P,hst,List.zip_append (by rw[aI,ok.kS]),afR,Ad ((List.map (·.var) (L.drop n.aj.length)).zip _)]
  .refine I3 _ _ _ p (by rw[nO,sF];omega) (by rw[nO,sF];omega) ?_;refine I3 _ _ _ p (by rw[sF];omega) (by rw[sF];omega) ?_;rw[bM,bM,List.getElem?_replicate,List.getElem?_replicate,if_pos (by omega),if_pos (by omega)]
  .intro q hq;have hq1:q.1∈(L.drop n.aj.length).map (·.var):=(List.of_mem_zip (show(q.1,q.2)∈_ from hq)).1;obtain⟨l,hl,el⟩:=List.mem_map.1 hq1;obtain⟨k,hk⟩:=List.getElem?_of_mem hl;rw[List.getElem?_drop]at hk;have hkL:=dz hk;obtain⟨i,M,a,j,hi,hM,_,_,e,hlt⟩:=TE hs P (p:=n.aj.length+k) (by omega) hkL;have hc:=P.cell i M hi hM;have hvar:=(hc.2.2 _ hlt).1;have hl2:la L (n.aj.length+k)=l:=by unfold la;rw[bM,hk];rfl
   rw[<-e,hl2]at hvar;rw[<-el,hvar];have:=hc.1;omega
 .exact Uo hs' ha' _ _ _ (show a∈s.a by rw[eN];exact List.mem_append_left _ h)
 .have hi:=dz hm;obtain⟨c,hc⟩:∃c,cs[i]?=some c:=⟨_,aN (by have:=ok.jU;omega)⟩;have hmm:=dc hm;have hsat:=Uy hs h0 ha P hv ok ins;have h1:=P.rd _ hsat i m hi hm r hr j hj;obtain⟨m1,m2,m3,m4,hra,_⟩:=hs.aa m hmm;have hal:r.addr.length=m.addr.toNat:=by have:=hra r hr;omega
  have hlit:∀l∈r.addr,0<=l:=by intro l hl;refine(hs.lits l ?_).1;unfold cD;simp only[List.mem_append,List.mem_flatMap];refine .inl (.inr ⟨m,hmm,?_⟩);unfold kP;simp only[List.mem_append,List.mem_flatMap];exact .inl ⟨r,hr,hl⟩
  have hmap:r.addr.map (aZ (mM (ct (bC n s L) (bS n ls cs n.aa.length) [] ins)))=r.addr.map (bt · (ct (bC n s L) (bS n ls cs n.aa.length) [] ins)):=List.map_congr_left fun l hl=>(qt (hlit l hl)).symm;rw[hmap]at h1;obtain⟨x,hx⟩:∃x,x=cd (r.addr.map (bt · (ct (bC n s L) (bS n ls cs n.aa.length) [] ins))):=⟨_,rfl⟩;rw[<-hx]at h1;have hxl:x<2^m.addr.toNat:=by have:=pH (r.addr.map (bt · (ct (bC n s L) (bS n ls cs n.aa.length) [] ins)));rw[aI,hal]at this;rw[hx];exact this
  have hlt:x*m.word.toNat+j<cq m:=by have:=Nat.mul_le_mul_right m.word.toNat (show x+1<=2^m.addr.toNat from hxl);rw[Nat.succ_mul x]at this;unfold cq;omega
  have hof:=lZ n hm;have hom:=vf n (show i+1<=n.aa.length from hi);have hc2:=(P.cell i m hi hm).2.2 _ hlt;have hlat:=TO hs h0 ha P hv ok ins (p:=n.aj.length+cj n i+(x*m.word.toNat+j)) (by omega);have hbit:=vn ls cs ok.jU n.aa.length (aS _) i m c hi hm hc x j hxl hj;rw[ok.kS]at hbit;show mM _ (r.var+(j:Int))=_;rw[h1,show((cv i+1+(x*m.word.toNat+j):Nat):Int)=(la L (n.aj.length+cj n i+(x*m.word.toNat+j))).var from hc2.1.symm,hlat,hbit];unfold vv;have hgc:cs.getD i []=c:=by rw[bM,hc];rfl
  rw[hgc,<-hx];unfold gG;rw[bM,bT,List.getElem?_range hj];rfl
theorem T8{p:Nat}(hp:p<=V):(ct n ls cs ins).getD p false=(ct (bC n s L) (bS n ls cs n.aa.length) [] ins).getD p false:=uniq hs ha (aex hs h0 ha P hv ok ins) hp
end
theorem UG(x y a:Int):∀c:List aJ,rd (oN x y c) a=if x=a then y else rd c a
 |[]=>by show rd [(x,y,())] a=_;rw[mh]|p::c=>by
  rw[Ni,mh];by_cases h1:x<p.1
  .rw[if_pos h1,mh,mh]
  .rw[if_neg h1];by_cases h2:p.1=x
   .rw[if_pos h2,mh];show(if x=a then y else rd c a)=_;by_cases h3:x=a
    .rw[if_pos h3,if_pos h3]
    .rw[if_neg h3,if_neg h3,if_neg (by omega)]
   .rw[if_neg h2,mh,UG x y a c];by_cases h3:p.1=a
    .rw[if_pos h3,if_neg (by omega),if_pos h3]
    .rw[if_neg h3,if_neg h3]
theorem Ve{a:Int}:∀{c:List aJ},(∀p∈c,p.1≠a)->rd c a=0
 |[],_=>rfl|p::c,h=>by rw[mh,if_neg (h p (List.mem_cons_self ..))];exact Ve fun q hq=>h q (eK _ hq)
theorem UF(x a:Int):∀c:List aJ,kq c->rd (nf x c) a=if x=a then 0 else rd c a
 |[],_=>by show(0:Int)=_;split<;>rfl|p::c,h=>by
  have hp:=List.pairwise_cons.1 h;unfold nf;by_cases h1:p.1=x
  .rw[bG h1,mh];show rd c a=_;by_cases h2:x=a
   .rw[if_pos h2];exact Ve fun q hq=>by have:=hp.1 q hq;omega
   .rw[if_neg h2,if_neg (by omega)]
  .rw[cw h1];show rd (p::nf x c) a=_;rw[mh,UF x a c hp.2,mh];by_cases h2:p.1=a
   .rw[if_pos h2,if_neg (by omega),if_pos h2]
   .rw[if_neg h2,if_neg h2]
theorem aiw{c:List aJ}(h:kq c)(x y a:Int):rd (wr c x y) a=if x=a then y else rd c a:=by
 unfold wr;by_cases hy:y=0
 .rw[if_pos hy,UF x a c h,hy]
 .rw[if_neg hy,UG]
theorem ahj{v:List Bool}{c:List aJ}{w:iw}(h:kq c):kq (jk v c w):=by
 unfold jk;split
 .exact Vo h
 .exact h
theorem UL{v:List Bool}{a j W:Nat}(hj:j<W):∀(ws:List iw) (c:List aJ),kq c->(∀w∈ws,0<=w.on/\(∀l∈w.addr,0<=l)/\(∀l∈w.data,0<=l)/\w.data.length=W) ->
  qo (mM v) ws a j (decide ((rd c (a:Int)).toNat / 2^j % 2=1))=decide ((rd (ws.foldl (jk v) c) (a:Int)).toNat / 2^j % 2=1)
 |[],c,_,_=>rfl|w::ws,c,hs,h=>by
  obtain⟨h1,h2,h3,h4⟩:=h w (List.mem_cons_self ..);have ih:=UL (v:=v) (a:=a) hj ws (jk v c w) (ahj hs) (fun x hx=>h x (eK _ hx));rw[List.foldl_cons,<-ih];show qo (mM v) ws a j (if aZ (mM v) w.on=true/\cd (w.addr.map (aZ (mM v)))=a then aZ (mM v) (li w.data j)else decide ((rd c (a:Int)).toNat / 2^j % 2=1))=_;congr 1;have ea:w.addr.map (aZ (mM v))=w.addr.map (bt · v):=List.map_congr_left fun l hl=>(qt (h2 l hl)).symm;rw[ea,<-qt h1];unfold jk;by_cases ho:bt w.on v=true
  .rw[if_pos ho,aiw hs];by_cases hq:cd (w.addr.map (bt · v))=a
   .rw[if_pos ⟨ho,hq⟩,if_pos (by omega)];have hd:(w.data.map (bt · v)).length=W:=by rw[aI];exact h4
    rw[aeT (by rw[hd];exact hj)];have hx:=aN (show j<w.data.length by omega);have e1:li w.data j=w.data[j]'(by omega):=by unfold li;rw[bM,hx];rfl
    rw[e1,<-qt (h3 _ (dk _)),bM,bT,hx];rfl
   .rw[if_neg (fun q=>hq q.2),if_neg (by omega)]
  .rw[if_neg ho,if_neg (fun q=>ho q.1)]
section
variable{n:aB}{V:Nat}(hs:cr n V)(h0:dv n=0)(ha:eO (aR n) V=true){s:Mk}{L:List cu}{cv:Nat->Nat}(P:lH n V n.aa.length s L cv)(hv:s.v<=2000)
variable{ls:List Bool}{cs:List (List aJ)}{K:Nat}(ok:jG n K ls cs)(ins:List Bool)
include hs h0 ha P hv ok
theorem Az{l:Int}(hl:l∈cD n):bt l (ct n ls cs ins)=bt l (ct (bC n s L) (bS n ls cs n.aa.length) [] ins):=by have:=hs.lits l hl;exact z8 (T8 hs h0 ha P hv ok ins (by omega))
theorem TK{M:aV}(hM:M∈n.aa){w:iw}(hw:w∈M.writes):w.on∈cD n/\(∀l∈w.addr,l∈cD n)/\∀l∈w.data,l∈cD n:=by
 have key:∀l∈w.on::(w.addr++w.data),l∈cD n:=by intro l hl;unfold cD;simp only[List.mem_append,List.mem_flatMap];refine .inl (.inr ⟨M,hM,?_⟩);unfold kP;simp only[List.mem_append,List.mem_flatMap];exact .inr ⟨w,hw,hl⟩
 exact⟨key _ (List.mem_cons_self ..),fun l hl=>key l (eK _ (List.mem_append_left _ hl)),fun l hl=>key l (eK _ (List.mem_append_right _ hl))⟩
theorem aey{M:aV}(hM:M∈n.aa)(c:List aJ):nK (ct n ls cs ins) M c=nK (ct (bC n s L) (bS n ls cs n.aa.length) [] ins) M c:=by
 unfold nK;have gen:∀(ws:List iw) (c:List aJ),(∀w∈ws,w∈M.writes)->ws.foldl (jk (ct n ls cs ins)) c=ws.foldl (jk (ct (bC n s L) (bS n ls cs n.aa.length) [] ins)) c:=by
  intro ws
  induction ws with
  |nil=>exact fun c _=>rfl|cons w ws ih=>
   intro c hw;obtain⟨l1,l2,l3⟩:=TK hs h0 ha P hv ok hM (hw w (List.mem_cons_self ..));have e:jk (ct n ls cs ins) c w=jk (ct (bC n s L) (bS n ls cs n.aa.length) [] ins) c w:=by unfold jk;rw[Az hs h0 ha P hv ok ins l1,show w.addr.map (bt · (ct n ls cs ins))=w.addr.map (bt · (ct (bC n s L) (bS n ls cs n.aa.length) [] ins))from List.map_congr_left fun l hl=>Az hs h0 ha P hv ok ins (l2 l hl),show w.data.map (bt · (ct n ls cs ins))=w.data.map (bt · (ct (bC n s L) (bS n ls cs n.aa.length) [] ins))from List.map_congr_left fun l hl=>Az hs h0 ha P hv ok ins (l3 l hl)]
   rw[List.foldl_cons,List.foldl_cons,e];exact ih _ fun x hx=>hw x (eK _ hx)
 exact gen M.writes c fun w hw=>hw
theorem afb:dY (bC n s L) (ct (bC n s L) (bS n ls cs n.aa.length) [] ins)=bS n (dY n (ct n ls cs ins)) (eI n cs (ct n ls cs ins)) n.aa.length:=by
 have ok2:=abw hs ok (ct n ls cs ins);have hcl:=ok2.jU;have hll:=ok2.kS;have hlen:=P.len;have hs':=oA hs P hv;have l1:(dY (bC n s L) (ct (bC n s L) (bS n ls cs n.aa.length) [] ins)).length=L.length:=by unfold dY;rw[aI];rfl
 have l2:(bS n (dY n (ct n ls cs ins)) (eI n cs (ct n ls cs ins)) n.aa.length).length=L.length:=by rw[vh _ _ hcl _ (aS _),hll,hlen]
 have ext:∀{A B:List Bool},A.length=B.length->(∀p,p<A.length->A.getD p false=B.getD p false)->A=B:=by
  intro A B h1 h2;refine List.ext_getElem? fun p=>?_;by_cases hp:p<A.length
  .have:=h2 p hp;rw[bM,bM,aN hp,aN (show p<B.length by omega)]at this;rw[aN hp,aN (show p<B.length by omega)];exact congrArg some this
  .rw[ep (by omega),ep (by omega)]
 refine ext (l1.trans l2.symm) fun p hp=>?_;rw[l1]at hp;have hx:=aN hp;have hla:la L p=L[p]:=by unfold la;rw[bM,hx];rfl
 have e1:(dY (bC n s L) (ct (bC n s L) (bS n ls cs n.aa.length) [] ins)).getD p false=bt (la L p).next (ct (bC n s L) (bS n ls cs n.aa.length) [] ins):=by unfold dY;show(L.map fun l=>bt l.next (ct (bC n s L) (bS n ls cs n.aa.length) [] ins)).getD p false=_;rw[bM,bT,hx,hla];rfl
 rw[e1];by_cases hq:p<n.aj.length
 .rw[ag1 _ _ _ (aS _) (by omega),P.old p hq];have hy:=aN hq;have hlb:la n.aj p=n.aj[p]:=by unfold la;rw[bM,hy];rfl
  have hlit:n.aj[p].next∈cD n:=by unfold cD;simp only[List.mem_append];exact .inl (.inl (.inl (.inl (.inl (List.mem_map.2 ⟨_,dk hq,rfl⟩)))))
  rw[hlb,<-Az hs h0 ha P hv ok ins hlit];unfold dY;rw[bM,bT,hy];rfl
 .obtain⟨i,M,a,j,hi,hM,ha1,hj1,e,hlt⟩:=TE hs P (by omega) hp;obtain⟨c,hc⟩:∃c,cs[i]?=some c:=⟨_,aN (by have:=ok.jU;omega)⟩;have hMm:=dc hM;have hsat:=Uy hs h0 ha P hv ok ins;have hw:=P.wr _ hsat i M hi hM a ha1 j hj1;rw[<-e]at hw;rw[qt (P.nx p hp).1,hw];have hc2:=(P.cell i M hi hM).2.2 _ hlt;have hlat:=TO hs h0 ha P hv ok ins (p:=n.aj.length+cj n i+(a*M.word.toNat+j)) (by omega);have hbit:=vn ls cs ok.jU n.aa.length (aS _) i M c hi hM hc a j ha1 hj1;rw[ok.kS]at hbit;rw[show((cv i+1+(a*M.word.toNat+j):Nat):Int)=(la L (n.aj.length+cj n i+(a*M.word.toNat+j))).var from hc2.1.symm,hlat,hbit];have hnc:(eI n cs (ct n ls cs ins))[i]?=some (nK (ct n ls cs ins) M c):=by unfold eI;rw[List.getElem?_zipWith,hM,hc]
  have hbit2:=vn (dY n (ct n ls cs ins)) (eI n cs (ct n ls cs ins)) hcl n.aa.length (aS _) i M _ hi hM hnc a j ha1 hj1;rw[hll,<-e]at hbit2;rw[hbit2,aey hs h0 ha P hv ok ins hMm];obtain⟨_,_,_,_,_,hwl,_⟩:=hs.aa M hMm;refine UL hj1 M.writes c (ok.ok i M c hM hc).rO fun w hw=>?_;obtain⟨k1,k2,k3⟩:=TK hs h0 ha P hv ok hMm hw;exact⟨(hs.lits _ k1).1,fun l hl=>(hs.lits l (k2 l hl)).1,fun l hl=>(hs.lits l (k3 l hl)).1,by have:=(hwl w hw).2;omega⟩
theorem afc(hV:V<=s.v):(ct (bC n s L) (bS n ls cs n.aa.length) [] ins).take (ct n ls cs ins).length=ct n ls cs ins:=by
 have l1:(ct n ls cs ins).length=V+1:=by rw[zU,hs.vars];rfl
 have l2:(ct (bC n s L) (bS n ls cs n.aa.length) [] ins).length=s.v+1:=by rw[zU];show((s.v:Int)).toNat+1=_;omega
 refine List.ext_getElem? fun p=>?_;rw[List.getElem?_take,l1];by_cases hp:p<V+1
 .rw[if_pos hp];have h:=T8 hs h0 ha P hv ok ins (p:=p) (by omega);rw[bM,bM,aN (by omega),aN (show p<(ct (bC n s L) (bS n ls cs n.aa.length) [] ins).length by omega)]at h;rw[aN (by omega),aN (by omega)];exact congrArg some h.symm
 .rw[if_neg hp,ep (by omega)]
end
theorem aob{L:List Bool}(h:L.length<=1000000):amQ (L,())=some (L,(L,())):=ah (clB h) rfl
theorem aer(a w:Int)(c:List aJ)(h:c.length<=1000000):HA (a,(w,(c,())))=some (c,(a,(w,(c,())))):=ak (ar h) rfl
theorem Um{n:aB}{V K:Nat}(hs:cr n V)(ord:List (bE×bq)){ls:List Bool}{cs:List (List aJ)}(hK:K<=100000)(ok:jG n K ls cs) :
  Sv (mc n ord ls (bJ n cs) ())=some (mc n ord ls (bJ n cs) (ls,(cs,()))):=by
 have hM:=hs.lens.2.2.2.2;have hL:=hs.lens;have hcl:=ok.jU;have hr:=wV hcl;have hls:ls.length<=1000000:=by have:=ok.kS;have:=hs.lens.2.1;omega
 have e5:Sw (((bJ n cs).length:Int),((0:Int),mc n ord ls (bJ n cs) (ls,([],()))))=some (mc n ord ls (bJ n cs) (ls,(cs,()))):=by
  unfold Sw;delta fB;refine dn (fun k:Nat=>(((bJ n cs).length:Int),((k:Int),mc n ord ls (bJ n cs) (ls,(cs.take k,()))))) n.aa.length rfl ?_ ?_ (bL (by omega))
  .intro k hk;have hx:=aN hk;have hkc:k<cs.length:=by omega
   have hy:=aN hkc;have ha:=wY hx hy;have hlen:=(ok.ok k _ _ hx hy).len;have hg:List.getD (bJ n cs) (Int.toNat (k:Int)) zR=(n.aa[k].addr,(n.aa[k].word,(cs[k],()))):=by rw[eD,bM,ha];rfl
   have ec:HA ((List.getD (bJ n cs) (Int.toNat (k:Int)) zR).1,((List.getD (bJ n cs) (Int.toNat (k:Int)) zR).2.1,((List.getD (bJ n cs) (Int.toNat (k:Int)) zR).2.2.1,())))=some (cs[k],(n.aa[k].addr,(n.aa[k].word,(cs[k],())))):=by rw[hg];exact aer _ _ _ (dK hlen (by omega))
   have hset:List.set (bJ n cs) (Int.toNat (k:Int)) (n.aa[k].addr,(n.aa[k].word,(cs[k],())))=bJ n cs:=by
    rw[eD];refine List.ext_getElem? fun i=>?_;rw[List.getElem?_set];split
    .rename_i q;subst q;split
     .exact ha.symm
     .rename_i q2;rw[ep (by omega)]
    .rfl
   have hroom:room 24 (List.length (cs.take k++(cs[k]::[])))=true:=by rw[aU,dx];exact l9 (by simp;omega) (by simp;omega)
   have ht:cs.take k++(cs[k]::[])=cs.take (k+1):=by rw[List.take_add_one,hy];rfl
   have e:∀(p q:Int) (R R':List eu) (A B:List (List aJ)),p=q->R=R'->A=B->(some (.inl (((bJ n cs).length:Int),(p,mc n ord ls R (ls,(A,()))))):Option (TL uJ.σs⊕Out uH))=some (.inl (((bJ n cs).length:Int),(q,mc n ord ls R' (ls,(B,()))))):=by rintro _ _ _ _ _ _ rfl rfl rfl;rfl
   exact ax (ar (show(k:Int)<((bJ n cs).length:Int) by omega)) (ak (show av (k:Int) (List.length (bJ n cs))=true from aK ⟨by omega,by omega⟩) (ah ec (ak hroom (e _ _ _ _ _ _ (bR (show(k:Int)+1=((k+1:Nat):Int) by omega) (by omega)) hset ht))))
  .have e:∀(A B:List (List aJ)),A=B->(some (.inr (mc n ord ls (bJ n cs) (ls,(A,())))):Option (TL uJ.σs⊕Out uH))=some (.inr (mc n ord ls (bJ n cs) (ls,(B,())))):=by rintro _ _ rfl;rfl
   exact ag (au (show ¬(n.aa.length:Int)<((bJ n cs).length:Int) by omega)) (e _ _ (fR (by omega)))
 exact ah (aob hls) (ah e5 rfl)
theorem aeW{n:aB}{K:Nat}{ls:List Bool}{cs:List (List aJ)}(ok:jG n K ls cs):∀c∈cs,c.length<=K:=by intro c hc;obtain⟨i,hi⟩:=List.getElem?_of_mem hc;have hil:=dz hi;have hm:=List.getElem?_eq_getElem (l:=n.aa) (i:=i) (by have:=ok.jU;omega);exact(ok.ok i _ _ hm hi).len
theorem agr{n:aB}{ls:List Bool}{cs:List (List aJ)}(h:Pl.dF n=0)(hf:iN (cH n) (ls,(cs,()))=true):kb (cH n) (ls,(cs,()))=0:=by unfold kb;rw[o9,if_neg (fun q=>q h),hf]
section
variable{n:aB}(ft:Fit n)
include ft
theorem aeJ{ls:List Bool}{cs:List (List aJ)}(hok:pb cs):Zbn (cH n,((ls,(cs,())),()))=some (kb (cH n) (ls,(cs,())),()):=Zya (cH n) (ls,(cs,())) (qj ft) (am4 ft).2 hok
end
theorem UI{α:Type}:∀(M:List (Int×α)) (a W:Int),a<=W->M.Pairwise (fun a b=>a.1<b.1)->(∀p∈M,a<=p.1/\p.1<W)->(M.length:Int)<=W-a
 |[],a,W,h,_,_=>by simp;omega|p::M,a,W,h,hs,hk=>by have h1:=hk p (List.mem_cons_self ..);have hs:=List.pairwise_cons.1 hs;have:=UI M (p.1+1) W (by omega) hs.2 (fun q hq=>⟨by have:=hs.1 q hq;omega,(hk q (eK _ hq)).2⟩);rw[cp];push_cast;omega
section
variable{n:aB}{V:Nat}(hs:cr n V)
include hs
theorem ahM{K:Nat}{ls:List Bool}{cs:List (List aJ)}(ok:jG n K ls cs):pb cs:=by
 intro c hc i hi;obtain⟨j,hj⟩:=List.getElem?_of_mem (show(c:List aJ)∈cs from hc);have hjl:=dz hj;have hcl:cs.length=n.aa.length:=ok.jU;have hjm:j<n.aa.length:=iS hjl (Nat.le_of_eq hcl);have hm:=aN hjm;have ko:=ok.ok j _ _ hm hj;obtain⟨m1,m2,m3,m4,_⟩:=hs.aa _ (dk hjm);have hp:(c:List aJ)[i]?=some ((c:List aJ)[i]'hi):=aN hi;obtain⟨e1,e2⟩:=tf hp;have h1:=ko.at_ _ (dc hp);have h2:=ko.wd _ (dc hp);have b:∀(x:Int) (k:Nat),x<2^k->k<=64->x<=18446744073709551615:=by intro x k hx hk;rw[vg]at hx;have:=Nat.pow_le_pow_right (n:=2) (by omega) hk;have e:(2:Nat)^64=18446744073709551616:=rfl;omega
 rw[e1,e2];exact⟨⟨h1.1,b _ _ h1.2 (by omega)⟩,⟨by omega,b _ _ h2.2 (by omega)⟩⟩
end
theorem Aw{w:Nat}{l:List Bool}{K:Nat}{p:aJ}(h:p∈iK w l K):∃x,x<K/\cellAt w l x≠0/\p=((x:Int),((cellAt w l x:Int),())):=by
 unfold iK at h;obtain⟨a,ha,hm⟩:=List.mem_flatMap.1 h;have ha:=List.mem_range.1 ha;split at hm
 .cases hm
 .rename_i q;exact⟨a,ha,q,List.mem_singleton.1 hm⟩
theorem I4(w:Nat)(l:List Bool):∀K,kq (iK w l K)
 |0=>List.Pairwise.nil|K+1=>by
  unfold kq;rw[Af,List.pairwise_append];refine⟨I4 w l K,?_,fun a ha b hb=>?_⟩
  .split
   .exact List.Pairwise.nil
   .exact List.pairwise_singleton ..
  .obtain⟨x,hx,_,rfl⟩:=Aw ha;split at hb
   .cases hb
   .rw[List.mem_singleton.1 hb];show(x:Int)<(K:Int);omega
theorem afO{m:aV}{K:Nat}{c:List aJ}(m1:1<=m.addr)(m2:m.addr<=62)(m3:1<=m.word)(m4:m.word<=64)(h:nP m K c)(hl:c.length<=4096):jT m.addr m.word c=true:=by
 unfold jT;rw[bG m1,bG m2,bG m3,bG m4,bG (show List.length (α:=aA.T) c<=4096 from hl)];show(List.range c.length).all (jC m.addr m.word c)=true;rw[List.all_eq_true];intro i hi;have hi:=List.mem_range.1 hi;have hp:=aN hi;obtain⟨e1,e2⟩:=tf hp;have h1:=h.at_ _ (dk hi);have h2:=h.wd _ (dk hi);have b1:decide (ib c (i:Int)=0)=false:=cw (by rw[e2];omega);have b2:jD (ez c (i:Int)) m.addr=true:=by rw[e1];exact Dw h1.1 h1.2
 have b3:jD (ib c (i:Int)) m.word=true:=by rw[e2];exact Dw (by omega) h2.2
 have b4:(decide (i=0)||decide (ez c ((i:Int)-1)<ez c (i:Int)))=true:=by
  by_cases q:i=0
  .rw[bG q];rfl
  .have hj:i-1<c.length:=by omega
   have e3:=(tf (aN hj)).1;have ei:((i:Int)-1)=((i-1:Nat):Int):=by omega
   have hs:=List.pairwise_iff_getElem.1 h.rO (i-1) i hj hi (by omega);rw[ei,e3,e1,bG hs,Bool.or_true]
 unfold jC;rw[b1,b2,b3,b4];rfl
theorem JG{c:List aJ}(hs:kq c){p:aJ}(hp:p∈c):rd c p.1=p.2.1:=by rw[<-vl];exact(Ud (σ:=.int .u64) hs (show(p.1,(p.2.1,()))∈c from hp)).1
theorem AF{c:List aJ}{a:Int}(h:∀p∈c,p.1≠a):rd c a=0:=by rw[<-vl];exact(Xx (σ:=.int .u64) h).1
theorem TV{c:List aJ}(h:kq c):c.Nodup:=by rw[List.nodup_iff_pairwise_ne];exact List.Pairwise.imp (fun{a b} hab=>by rintro rfl;omega) h
theorem canon{c d:List aJ}(hc:kq c)(hd:kq d)(nc:∀p∈c,p.2.1≠0)(nd:∀p∈d,p.2.1≠0)(h:∀a,rd c a=rd d a):c=d:=by
 have sub:∀{c d:List aJ},kq c->kq d->(∀p∈c,p.2.1≠0)->(∀a,rd c a=rd d a)->∀p∈c,p∈d:=by
  intro c d hc hd nc h p hp;have e1:=JG hc hp;by_cases q:∃r∈d,r.1=p.1
  .obtain⟨r,hr,e⟩:=q;have e2:=JG hd hr;rw[e,<-h,e1]at e2;have:r=p:=Prod.ext e (Prod.ext e2.symm rfl);rw[<-this];exact hr
  .have e2:=AF (c:=d) (a:=p.1) (fun r hr e=>q ⟨r,hr,e⟩);rw[h,e2]at e1;exact absurd e1.symm (nc p hp)
 have hp:c.Perm d:=(List.perm_ext_iff_of_nodup (TV hc) (TV hd)).2 fun p=>⟨sub hc hd nc h p,sub hd hc nd (fun a=>(h a).symm) p⟩;exact hp.eq_of_pairwise (le:=fun p q:aJ=>p.1<q.1) (fun a b _ _ h1 h2=>by omega) hc hd
