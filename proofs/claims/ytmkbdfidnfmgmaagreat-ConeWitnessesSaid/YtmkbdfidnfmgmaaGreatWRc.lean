import Derived.Test.YtmkbdfidnfmgmaaGreatWRb
import Derived.Test.YtmkbdfidnfmgmaaGreatWNc
set_option linter.all false
section
namespace Go.Proofs.YtmkbdfidnfmgmaaGreat
open Go Go.RowKit Pl
def fq(f g:Int->Int)(A:pm)(p:dJ×Nat):List cq:=[⟨dS A,p.2*3,p.1.var,f p.1.var⟩,⟨dS A,p.2*3+1,p.1.next,g p.1.next⟩]
def ir(f g:Int->Int)(A:pm)(p:dU×Nat):List cq:=[⟨dS A,p.2*3,p.1.var,f p.1.var⟩,⟨dS A,p.2*3+1,p.1.a,g p.1.a⟩,⟨dS A,p.2*3+2,p.1.b,g p.1.b⟩]
def jg(f g:Int->Int)(M:aT):List cq:=M.ae.flatMap (dn f g)++(bO f M.Ai M.al++(M.ag.zipIdx.flatMap (fq f g M.Al)++((bO g M.Ao M.aZ++(bO g M.Ab M.aN++bO g M.Ac M.constraints))++M.aj.zipIdx.flatMap (ir f g M.An))))
structure fZ(w0:World)(bs:mt)(L:List cq):Prop where
 at_:∀p∈L,w0.cell? p.ad=some (.int .i64 p.x)/\w0.frozen? p.ad=false/\p.b∈bs
 nd:(L.map cq.ad).Nodup
variable{b2:mt}{b1:mt}
theorem fZ.append{w0:World}{L1 L2:List cq}(h:fZ w0 b1 L1)(k:fZ w0 b2 L2)(hd:(b1++b2).Nodup):fZ w0 (b1++b2) (L1++L2):=by
 refine⟨fun p hp=>?_,?_⟩
 .rcases rc.1 hp with hp|hp
  .have:=h.at_ p hp;exact⟨this.1,this.2.1,AC _ this.2.2⟩
  .have:=k.at_ p hp;exact⟨this.1,this.2.1,EQ _ this.2.2⟩
 .rw[d7];refine rx.2 ⟨h.nd,k.nd,fun a ha b hb e=>?_⟩;obtain⟨p,hp,rfl⟩:=ro.1 ha;obtain⟨q,hq,rfl⟩:=ro.1 hb;exact(rx.1 hd).2.2 _ (h.at_ p hp).2.2 _ (k.at_ q hq).2.2 (PP Addr.block e)
theorem fZ.perm{w0:World}{L:List cq}(h:fZ w0 b1 L)(hs:∀b∈b1,b∈b2):fZ w0 b2 L:=⟨fun p hp=>⟨(h.at_ p hp).1,(h.at_ p hp).2.1,hs _ (h.at_ p hp).2.2⟩,h.nd⟩
theorem fZ.nil(w0:World)(bs:mt):fZ w0 bs []:=⟨(fun p hp=>by cases hp),aty⟩
variable{α:Type}
theorem fZ.flat{w0:World}{bf:α->mt}{pf:α->List cq}:∀{l:List α},(∀x∈l,fZ w0 (bf x) (pf x))->(l.flatMap bf).Nodup->fZ w0 (l.flatMap bf) (l.flatMap pf)
 |[],_,_=>fZ.nil _ _|x::l,h,hd=>by rw[AT]at hd;rw[AT,AT];exact(h x (IN ..)).append (fZ.flat (fun y hy=>h y (FS _ hy)) (rx.1 hd).2.1) hd
variable{A:pm}{f:α->pi}{xs:List α}{e:TypeId}{c:Nat}{w:World}{z:Nat}
theorem ye{B:Nat}(hz:∀x,(f x).length=z)(h:cC w B e z f A c xs)(os:List (Nat×(α->Int)×(Int->Int)))
  (ho:∀q∈os,q.1<z/\∀x,(f x)[q.1]?=some (.int .i64 (q.2.1 x))) (hn:(os.map Prod.fst).Nodup) :
  fZ w (aH A) (xs.zipIdx.flatMap fun p=>os.map fun q=>⟨dS A,p.2*z+q.1,q.2.1 p.1,q.2.2 (q.2.1 p.1)⟩):=by
 have key:∀p∈xs.zipIdx,xs[p.2]?=some p.1:=fun p hp=>by have:=arH.1 hp;exact this
 refine⟨fun p hp=>?_,?_⟩
 .obtain⟨x,hx,hp⟩:=rg.1 hp;obtain⟨q,hq,rfl⟩:=ro.1 hp;have hxi:=key x hx;obtain⟨b,hA,_,_,hfz⟩:=lf h (fun e=>by rw[e]at hxi;simp at hxi);have hb:dS A=b:=by rw[hA];rfl
  obtain⟨o1,o2⟩:=ho q hq;show w.cell? ⟨dS A,x.2*z+q.1,none⟩=_/\w.frozen? ⟨dS A,x.2*z+q.1,none⟩=false/\dS A∈aH A;rw[hb];exact⟨kg hz h hA hxi (o2 x.1),hfz _,by simp[hA,aH]⟩
 .have hnd:∀(l:List (α×Nat)),(l.map Prod.snd).Nodup->((l.flatMap fun p=>os.map fun q=>(⟨dS A,p.2*z+q.1,q.2.1 p.1,q.2.2 (q.2.1 p.1)⟩:cq)).map cq.ad).Nodup:=by
   intro l
   induction l with
   |nil=>intro _;exact aty|cons p l ih=>
    intro hl;rw[arI,arU]at hl;rw[AT,d7];refine rx.2 ⟨?_,ih hl.2,fun a ha b hb e=>?_⟩
    .rw[Fn];refine(asu.2 ?_:List.Pairwise (·≠·) _);have hn:List.Pairwise (·≠·) (os.map Prod.fst):=hn;rw[asu]at hn;refine hn.imp fun{q r} hqr e=>hqr ?_;have:p.2*z+q.1=p.2*z+r.1:=PP Addr.off e;omega
    .obtain⟨P,hP,rfl⟩:=ro.1 ha;obtain⟨q,hq,rfl⟩:=ro.1 hP;obtain⟨P',hP',rfl⟩:=ro.1 hb;obtain⟨p',hp',hP'⟩:=rg.1 hP';obtain⟨q',hq',rfl⟩:=ro.1 hP';have e:p.2*z+q.1=p'.2*z+q'.1:=PP Addr.off e;have h1:=(ho q hq).1;have h2:=(ho q' hq').1;refine hl.1 (ro.2 ⟨p',hp',?_⟩);rcases Nat.lt_trichotomy p'.2 p.2 with h|h|h
     .have:(p'.2+1)*z<=p.2*z:=arP z h;rw[asN]at this;omega
     .exact h
     .have:(p.2+1)*z<=p'.2*z:=arP z h;rw[asN]at this;omega
  refine hnd _ ?_;rw[List.zipIdx_map_snd];exact List.nodup_range'
theorem fZ.Yy{w0:World}{bs:mt}{L L':List cq}(h:fZ w0 bs L)(hp:L.Perm L'):fZ w0 bs L':=⟨fun p q=>h.at_ p (hp.mem_iff.2 q),(hp.map cq.ad).nodup_iff.1 h.nd⟩
theorem LC{α β:Type}(f g:α->List β):∀l:List α,(l.flatMap f++l.flatMap g).Perm (l.flatMap fun x=>f x++g x)
 |[]=>List.Perm.refl _|x::l=>by
  rw[AT,AT,AT];have ih:=LC f g l;have h1:(f x++l.flatMap f++(g x++l.flatMap g)).Perm (f x++(g x++(l.flatMap f++l.flatMap g))):=by rw[bB];refine asv _ ?_;rw[<-bB,<-bB];exact List.Perm.append_right _ List.perm_append_comm
  refine h1.trans ?_;rw[bB];exact asv _ (asv _ ih)
theorem rU{B:Nat}{xs:jp}(g:Int->Int)(h:cC w B 3 1 cI A c xs):fZ w (aH A) (bO g A xs):=by
 have:=ye RC h [(0,id,g)] (fun q hq=>by obtain rfl:=NE.1 hq;exact⟨atO,fun x=>rfl⟩) atQ;have e:(xs.zipIdx.flatMap fun p=>[((0,id,g):Nat×(Int->Int)×(Int->Int))].map fun q=>(⟨dS A,p.2*1+q.1,q.2.1 p.1,q.2.2 (q.2.1 p.1)⟩:cq))=bO g A xs:=by unfold bO;rw[List.map_eq_flatMap];exact Mg fun p _=>atQ
 rwa [e]at this
theorem ym{α β:Type}(f:α->List β):∀(l:List α) (n:Nat),(l.zipIdx n).flatMap (fun p=>f p.1)=l.flatMap f
 |[],_=>rfl|x::l,n=>by rw[List.zipIdx_cons,AT,AT,ym f l (n+1)]
theorem alC{B:Nat}{m:aL}(f g:Int->Int)(h:m.own w B)(hd:(aH m.A++m.reads.flatMap bF.bs).Nodup):fZ w (aH m.A++m.reads.flatMap bF.bs) (m.reads.zipIdx.flatMap (gJ f g m.A)):=by
 have h1:=ye uu h.rd [(0,bF.var,f)] (fun q hq=>by obtain rfl:=NE.1 hq;exact⟨atO,fun x=>rfl⟩) atQ;have h2:fZ w (m.reads.flatMap bF.bs) (m.reads.zipIdx.flatMap fun p=>bO g p.1.A p.1.addr):=by
  have:=fZ.flat (w0:=w) (l:=m.reads.zipIdx) (bf:=fun p=>p.1.bs) (pf:=fun p=>bO g p.1.A p.1.addr) (fun p hp=>rU g (h.ig p.1 (arY hp))) (by rw[ym bF.bs];exact(rx.1 hd).2.1)
  rwa [ym bF.bs]at this
 exact(h1.append h2 hd).Yy (LC _ _ _)
theorem alS{B:Nat}{m:aL}(g:Int->Int)(h:m.own w B)(hd:(aH m.A2++m.writes.flatMap bL.bs).Nodup):fZ w (aH m.A2++m.writes.flatMap bL.bs) (m.writes.zipIdx.flatMap (kJ g m.A2)):=by
 have h1:=ye pP h.wr [(0,bL.on,g)] (fun q hq=>by obtain rfl:=NE.1 hq;exact⟨atO,fun x=>rfl⟩) atQ;have hdw:=(rx.1 hd).2.1;have h2:fZ w (m.writes.flatMap bL.bs) (m.writes.zipIdx.flatMap fun p=>bO g p.1.A p.1.addr++bO g p.1.A2 p.1.data):=by
  have:=fZ.flat (w0:=w) (l:=m.writes.zipIdx) (bf:=fun p=>p.1.bs) (pf:=fun p=>bO g p.1.A p.1.addr++bO g p.1.A2 p.1.data) (fun p hp=>by have hm:=arY hp;have hx:=h.iX p.1 hm;refine(rU g hx.1).append (rU g hx.2) ?_;obtain⟨i,hi,e⟩:=arO hm;have hs:=qC bL.bs (ba hi);rw[hs,e]at hdw;exact(rx.1 (rx.1 hdw).2.1).1) (by rw[ym bL.bs];exact hdw)
  rwa [ym bL.bs]at this
 exact(h1.append h2 hd).Yy (LC _ _ _)
theorem Eh{B:Nat}{m:aL}(f g:Int->Int)(h:m.own w B)(hd:m.bs.Nodup):fZ w m.bs (dn f g m):=by unfold aL.bs at hd |-;unfold dn;rw[<-bB]at hd |-;exact(alC f g h (rx.1 hd).1).append (alS g h (rx.1 hd).2.1) hd
theorem Nb{B:Nat}{M:aT}(f g:Int->Int)(h:M.own w B):fZ w M.bs (jg f g M):=by
 have hd:=h.nd;unfold aT.bs aT.fH at hd;have hm:fZ w (M.ae.flatMap aL.bs) (M.ae.flatMap (dn f g)):=fZ.flat (fun m hm=>Eh f g (h.kZ m hm) (by have hdm:=(rx.1 hd).2.1;obtain⟨i,hi,e⟩:=arO hm;have hs:=qC aL.bs (ba hi);rw[hs,e]at hdm;exact(rx.1 (rx.1 hdm).2.1).1)) (rx.1 hd).2.1;have hl:=ye MX h.aJ [(0,dJ.var,f),(1,dJ.next,g)] (fun q hq=>by
  rcases GE.1 hq with rfl|hq
  .exact⟨atO,fun x=>rfl⟩
  .obtain rfl:=NE.1 hq;exact⟨atO,fun x=>rfl⟩) atQ
 have ha:=ye YX h.and [(0,dU.var,f),(1,dU.a,g),(2,dU.b,g)] (fun q hq=>by
  rcases GE.1 hq with rfl|hq
  .exact⟨atO,fun x=>rfl⟩
  .rcases GE.1 hq with rfl|hq
   .exact⟨atO,fun x=>rfl⟩
   .obtain rfl:=NE.1 hq;exact⟨atO,fun x=>rfl⟩) atQ
 have hp:(M.ae.flatMap aL.bs++(aH M.Ai++(aH M.Al++((aH M.Ao++(aH M.Ab++aH M.Ac))++aH M.An)))).Nodup:=by
  have e0:(aH M.Ai++(aH M.Ao++(aH M.Ab++(aH M.Ac++(aH M.Al++(aH M.An++aH M.Am)))))++M.ae.flatMap aL.bs).Perm (M.ae.flatMap aL.bs++((aH M.Ai++(aH M.Al++((aH M.Ao++(aH M.Ab++aH M.Ac))++aH M.An)))++aH M.Am)):=by
   refine List.perm_append_comm.trans (asv _ ?_);simp only[bB];refine asv _ ?_;have:(aH M.Ao++(aH M.Ab++(aH M.Ac++(aH M.Al++(aH M.An++aH M.Am)))))=(aH M.Ao++(aH M.Ab++aH M.Ac))++(aH M.Al++(aH M.An++aH M.Am)):=by simp only[bB]
   rw[this,show(aH M.Al++(aH M.Ao++(aH M.Ab++(aH M.Ac++(aH M.An++aH M.Am)))))=aH M.Al++((aH M.Ao++(aH M.Ab++aH M.Ac))++(aH M.An++aH M.Am)) by simp only[bB]];rw[<-bB,<-bB (aH M.Al)];exact List.Perm.append_right _ List.perm_append_comm
  have:=e0.nodup_iff.1 hd;rw[<-bB]at this;exact(rx.1 this).1
 have k1:=(rx.1 hp).2.1;have k2:=(rx.1 k1).2.1;have k3:=(rx.1 k2).2.1;have k4:=(rx.1 k3).1;have k5:=(rx.1 k4).2.1;have all:=hm.append ((rU f h.ins).append (hl.append (((rU g h.out).append ((rU g h.bad).append (rU g h.gG) k5) k4).append ha k3) k2) k1) hp;refine fZ.perm all fun b hb=>?_;unfold aT.bs aT.fH;simp only[rc]at hb |-;rcases hb with q|q|q|(q|q|q)|q
 .exact .inr q
 .exact .inl (.inl q)
 .exact .inl (.inr (.inr (.inr (.inr (.inl q)))))
 .exact .inl (.inr (.inl q))
 .exact .inl (.inr (.inr (.inl q)))
 .exact .inl (.inr (.inr (.inr (.inl q))))
 .exact .inl (.inr (.inr (.inr (.inr (.inr (.inl q))))))
variable{l:Nat}{n:Nat}{b':Nat}
theorem Ng{w0 x:World}{B:Nat}{L r:List cq}(h:f8 w0 B n b' (L++r))(hs:Below B (cg id w0 (cN L)) x){a:Addr}{A':pm}(hb:a.block<B)(hp:a.spot=none)(hc:w0.cell? a=some (.slice A' l c)):x.cell? a=some (.slice A' l c):=by refine tW hs hp hb (fun u hu e=>?_) hc;obtain⟨p,hq,rfl⟩:=ro.1 hu;have:=(h.at_ p (AC _ hq)).1;have e:p.ad=a:=e;rw[e,hc]at this;cases this
structure vW(n:Nat)(d:ak):Prop where
 ins:∀x∈d.al,0<=x/\x<n
 aJ:∀l∈d.ag,0<=l.var/\l.var<n/\0<=l.next/\l.next / 2<n
 out:∀x∈d.aZ,0<=x/\x / 2<n
 bad:∀x∈d.aN,0<=x/\x / 2<n
 gG:∀x∈d.constraints,0<=x/\x / 2<n
 ig:∀m∈d.ae,∀r∈m.reads,0<=r.var/\r.var<n/\∀y∈r.addr,0<=y/\y / 2<n
 iX:∀m∈d.ae,∀x∈m.writes,0<=x.on/\x.on / 2<n/\(∀y∈x.addr,0<=y/\y / 2<n)/\∀y∈x.data,0<=y/\y / 2<n
 and:∀a∈d.aj,0<=a.var/\a.var<n/\0<=a.a/\a.a / 2<n/\0<=a.b/\a.b / 2<n
variable{g:Int->Int}
theorem ud{xs:jp}(h:∀x∈xs,0<=x):∀p∈bO g A xs,0<=p.x:=by intro p hp;obtain⟨z,hz,rfl⟩:=ro.1 hp;exact h _ (arY hz)
theorem als{M:aT}(f g:Int->Int)(h:vW n M.d):∀p∈jg f g M,0<=p.x:=by
 intro p hp;unfold jg at hp;simp only[rc]at hp;rcases hp with hp|hp|hp|(hp|hp|hp)|hp
 .obtain⟨m,hm,hp⟩:=rg.1 hp;have hmd:m.d∈M.d.ae:=AI hm;rcases rc.1 hp with hp|hp
  .obtain⟨z,hz,hp⟩:=rg.1 hp;have hr:=h.ig _ hmd z.1.d (AI (arY hz));rcases GE.1 hp with rfl|hp
   .exact hr.1
   .exact ud (fun x hx=>(hr.2.2 x hx).1) p hp
  .obtain⟨z,hz,hp⟩:=rg.1 hp;have hr:=h.iX _ hmd z.1.d (AI (arY hz));rcases GE.1 hp with rfl|hp
   .exact hr.1
   .rcases rc.1 hp with hp|hp
    .exact ud (fun x hx=>(hr.2.2.1 x hx).1) p hp
    .exact ud (fun x hx=>(hr.2.2.2 x hx).1) p hp
 .exact ud (fun x hx=>(h.ins x hx).1) p hp
 .obtain⟨z,hz,hp⟩:=rg.1 hp;have hr:=h.aJ z.1 (arY hz);rcases GE.1 hp with rfl|hp
  .exact hr.1
  .obtain rfl:=NE.1 hp;exact hr.2.2.1
 .exact ud (fun x hx=>(h.out x hx).1) p hp
 .exact ud (fun x hx=>(h.bad x hx).1) p hp
 .exact ud (fun x hx=>(h.gG x hx).1) p hp
 .obtain⟨z,hz,hp⟩:=rg.1 hp;have hr:=h.and z.1 (arY hz);rcases GE.1 hp with rfl|hp
  .exact hr.1
  .rcases GE.1 hp with rfl|hp
   .exact hr.2.2.1
   .obtain rfl:=NE.1 hp;exact hr.2.2.2.2.1
theorem ai5{w0:World}{B0:Nat}{M:aT}(f g:Int->Int)(h:M.own w0 B0)(hb:b'<B0)(hn:vW n M.d)(hlow:∀b∈M.bs,B0<=b):f8 w0 w0.heap.size n b' (jg f g M):=by have k:=Nb f g h;exact⟨fun p hp=>⟨(k.at_ p hp).1,(k.at_ p hp).2.1,als f g hn p hp,by have:=hlow _ (k.at_ p hp).2.2;omega,h.lt _ (k.at_ p hp).2.2⟩,k.nd⟩
theorem iY{B:Nat}(h:cC w B e z f A c xs):∀b∈aH A,B<=b:=by
 obtain⟨hl,h⟩:=h;intro b hb;rcases h with⟨h,h0⟩|⟨g,cap,cur,e1,hg,hh,hc,hm,hs,ht⟩
 .obtain⟨rfl,_,rfl⟩:=(by simpa using h:A=none/\xs=[]/\c=0);cases hb
 .obtain⟨rfl,_,rfl⟩:=(by simpa using e1:A=some ⟨g,0,none⟩/\True/\c=cap);have:b=g:=by simpa[aH]using hb
  omega
theorem aL.iY{B:Nat}{m:aL}(h:m.own w B):∀b∈m.bs,B<=b:=by
 intro b hb;unfold aL.bs at hb;simp only[rc]at hb;rcases hb with q|q|q|q
 .exact Go.Proofs.YtmkbdfidnfmgmaaGreat.iY h.rd b q
 .obtain⟨r,hr,q⟩:=rg.1 q;exact Go.Proofs.YtmkbdfidnfmgmaaGreat.iY (h.ig r hr) b q
 .exact Go.Proofs.YtmkbdfidnfmgmaaGreat.iY h.wr b q
 .obtain⟨r,hr,q⟩:=rg.1 q;rcases rc.1 q with q|q
  .exact Go.Proofs.YtmkbdfidnfmgmaaGreat.iY (h.iX r hr).1 b q
  .exact Go.Proofs.YtmkbdfidnfmgmaaGreat.iY (h.iX r hr).2 b q
variable{m:aL}
theorem aT.iY{B:Nat}{M:aT}(h:M.own w B):∀b∈M.bs,B<=b:=by
 intro b hb;unfold aT.bs aT.fH at hb;simp only[rc]at hb;rcases hb with(q|q|q|q|q|q|q)|q
 .exact Go.Proofs.YtmkbdfidnfmgmaaGreat.iY h.ins b q
 .exact Go.Proofs.YtmkbdfidnfmgmaaGreat.iY h.out b q
 .exact Go.Proofs.YtmkbdfidnfmgmaaGreat.iY h.bad b q
 .exact Go.Proofs.YtmkbdfidnfmgmaaGreat.iY h.gG b q
 .exact Go.Proofs.YtmkbdfidnfmgmaaGreat.iY h.aJ b q
 .exact Go.Proofs.YtmkbdfidnfmgmaaGreat.iY h.and b q
 .exact Go.Proofs.YtmkbdfidnfmgmaaGreat.iY h.mem b q
 .obtain⟨m,hm,q⟩:=rg.1 q;exact aL.iY (h.kZ m hm) b q
variable{M:aT}
theorem aT.dq{w':World}{B B':Nat}(h:M.own w B)(hb:∀b∈M.bs,w'.heap[b]?=w.heap[b]?/\B'<=b)(hs:w.heap.size<=w'.heap.size):M.own w' B':=by
 have k0:∀b∈M.fH,w'.heap[b]?=w.heap[b]?/\B'<=b:=fun b q=>hb b (AC _ q);unfold aT.fH at k0;simp only[rc]at k0;exact⟨Go.Proofs.YtmkbdfidnfmgmaaGreat.dq h.ins fun b q=>k0 b (.inl q),Go.Proofs.YtmkbdfidnfmgmaaGreat.dq h.out fun b q=>k0 b (.inr (.inl q)),Go.Proofs.YtmkbdfidnfmgmaaGreat.dq h.bad fun b q=>k0 b (.inr (.inr (.inl q))),Go.Proofs.YtmkbdfidnfmgmaaGreat.dq h.gG fun b q=>k0 b (.inr (.inr (.inr (.inl q)))),
  Go.Proofs.YtmkbdfidnfmgmaaGreat.dq h.aJ fun b q=>k0 b (.inr (.inr (.inr (.inr (.inl q))))),Go.Proofs.YtmkbdfidnfmgmaaGreat.dq h.and fun b q=>k0 b (.inr (.inr (.inr (.inr (.inr (.inl q)))))),Go.Proofs.YtmkbdfidnfmgmaaGreat.dq h.mem fun b q=>k0 b (.inr (.inr (.inr (.inr (.inr (.inr q)))))),
  fun m hm=>aL.dq (h.kZ m hm) fun b q=>hb b (EQ _ (rg.2 ⟨m,hm,q⟩)),h.nd,fun b q=>WP (h.lt b q) hs⟩
variable{R:List cq}{h:α->List cq}{D:List cq}
theorem Nh{w0:World}{B k:Nat}{l:List α}{x:α}{L:List cq}(hL:L=D++(l.flatMap h++R))(hP:f8 w0 B n b' L)(hx:l[k]?=some x) :
  f8 w0 B n b' ((D++(l.take k).flatMap h)++(h x++((l.drop (k+1)).flatMap h++R)))/\D++(l.take (k+1)).flatMap h=(D++(l.take k).flatMap h)++h x:=by
 subst hL;refine⟨?_,by rw[DN h hx,bB]⟩;rw[qC h hx]at hP;simpa only[bB]using hP
theorem Em{w0:World}{B:Nat}{l:List α}{L:List cq}(hL:L=D++(l.flatMap h++R))(hP:f8 w0 B n b' L)(k:Nat):∃rest,f8 w0 B n b' ((D++(l.take k).flatMap h)++rest):=by subst hL;refine⟨(l.drop k).flatMap h++R,?_⟩;rw[<-LT k l,OF]at hP;simpa only[bB]using hP
def fS(f:Int->Int)(A:pm)(p:Int×Nat):List cq:=[⟨dS A,p.2,p.1,f p.1⟩]
theorem aks(f:Int->Int)(A:pm)(xs:jp):bO f A xs=xs.zipIdx.flatMap (fS f A):=by unfold bO;rw[List.map_eq_flatMap];rfl
theorem MB(l:List α):l.zipIdx.take l.length=l.zipIdx:=by rw[<-List.length_zipIdx (l:=l) (i:=0),eX]
theorem vO{w0 w':World}{B:Nat}{xs':List α}(h:cC w0 B e z f A c xs)(hz:∀x,(f x).length=z)(hz0:0<z)(hlen:xs'.length=xs.length)
  (hsh:∀b∈aH A,∀cur,w0.heap[b]?=some (.cells cur e (0,0))->∃cur',w'.heap[b]?=some (.cells cur' e (0,0))/\cur'.size=cur.size)
  (hc:∀b,A=some ⟨b,0,none⟩->∀i x' k u,xs'[i]?=some x'->(f x')[k]?=some u->w'.cell? ⟨b,i*z+k,none⟩=some u):cC w' B e z f A c xs':=by
 obtain⟨hl,h⟩:=h;refine⟨sm hz xs',?_⟩;rcases h with⟨h,h0⟩|⟨g,cap,cur,e1,hg,hh,hcp,hm,hs,ht⟩
 .obtain⟨rfl,_,rfl⟩:=(by simpa using h:A=none/\xs=[]/\c=0);exact .inl ⟨by rw[hlen,h0],atO⟩
 .obtain⟨rfl,_,rfl⟩:=(by simpa using e1:A=some ⟨g,0,none⟩/\True/\c=cap);obtain⟨cur',h1,h2⟩:=hsh g (by simp[aH]) cur hh;refine .inr ⟨g,c,cur',rfl,hg,h1,atO,hm,atO,?_⟩;refine arW fun j=>?_;by_cases hj:j<xs'.length*z
  .have hi:j / z<xs'.length:=Nat.div_lt_of_lt_mul (by rwa [Nat.mul_comm]at hj);have hx:=ba hi;have hk:j % z<(f xs'[j / z]).length:=by rw[hz];exact Nat.mod_lt _ hz0
   have hu:=ba hk;have ej:j / z*z+j % z=j:=by rw[Nat.mul_comm];exact Nat.div_add_mod j z
   have hcell:=hc g rfl _ _ _ _ hx hu;have hfl:=Ml hz xs' _ _ _ _ hx hu;rw[ej]at hcell hfl;rw[hfl,List.getElem?_take_of_lt hj];simp only[World.cell?,h1]at hcell;simpa using hcell
  .rw[abs (by rw[fx];omega),abs (by rw[sm hz];omega)]
theorem ag8(w:World)(a:Addr)(u:Value)(b:Nat)(cur:Array Value)(t:TypeId)(fr:Nat×Nat)(ha:a.spot=none)(h:w.heap[b]?=some (.cells cur t fr)):∃cur',(w.setCell a u).heap[b]?=some (.cells cur' t fr)/\cur'.size=cur.size:=by
 by_cases e:a.block=b
 .obtain⟨ab,ao,aq⟩:=a;cases ha;have e:ab=b:=e;subst e;refine⟨cur.setIfInBounds ao u,?_,atQ⟩;simp only[World.setCell,Array.getElem?_modify,IO,h];rfl
 .exact⟨cur,(tN w a u b e).trans h,rfl⟩
theorem XC(f:Int->Int):∀(us:List fT) (w:World) (b:Nat) (cur:Array Value) (t:TypeId) (fr:Nat×Nat),w.heap[b]?=some (.cells cur t fr)->∃cur',(cg f w us).heap[b]?=some (.cells cur' t fr)/\cur'.size=cur.size
 |[],w,b,cur,t,fr,h=>⟨cur,h,rfl⟩|u::us,w,b,cur,t,fr,h=>by obtain⟨c1,h1,s1⟩:=ag8 w u.ad (.int .i64 (f u.2.2)) b cur t fr rfl h;obtain⟨c2,h2,s2⟩:=XC f us _ b c1 t fr h1;exact⟨c2,h2,s2.trans s1⟩
def jV(f g:Int->Int)(l:dJ):dJ:=⟨f l.var,g l.next,l.init⟩
def jU(f g:Int->Int)(a:dU):dU:=⟨f a.var,g a.a,g a.b⟩
def bF.fO(f g:Int->Int)(r:bF):bF:={ r with var:=f r.var,addr:=r.addr.map g }
def bL.fO(g:Int->Int)(x:bL):bL:={ x with on:=g x.on,addr:=x.addr.map g,data:=x.data.map g }
def aL.fO(f g:Int->Int)(m:aL):aL:={ m with reads:=m.reads.map (bF.fO f g),writes:=m.writes.map (bL.fO g) }
def aT.fO(f g:Int->Int)(M:aT):aT:={ M with al:=M.al.map f,ag:=M.ag.map (jV f g),aZ:=M.aZ.map g,aN:=M.aN.map g,constraints:=M.constraints.map g,ae:=M.ae.map (aL.fO f g),aj:=M.aj.map (jU f g) }
theorem ahT(f g:Int->Int)(m:aL):(m.fO f g).bs=m.bs:=by show aH m.A++((m.reads.map (bF.fO f g)).flatMap bF.bs++(aH m.A2++(m.writes.map (bL.fO g)).flatMap bL.bs))=_;rw[asn,asn];rfl
theorem Y5(f g:Int->Int)(M:aT):(M.fO f g).bs=M.bs:=by show M.fH++(M.ae.map (aL.fO f g)).flatMap aL.bs=_;rw[asn];unfold aT.bs;congr 1;exact Mg fun m _=>ahT f g m
structure yn(w0 w':World)(bs:mt)(L:List cq):Prop where
 sh:∀b∈bs,∀cur t,w0.heap[b]?=some (.cells cur t (0,0))->∃cur',w'.heap[b]?=some (.cells cur' t (0,0))/\cur'.size=cur.size
 pre:∀p∈L,w0.cell? p.ad=some (.int .i64 p.x)
 new:∀p∈L,w'.cell? p.ad=some (.int .i64 p.y)
 old:∀b∈bs,∀o v,(∀p∈L,p.ad≠⟨b,o,none⟩)->w0.cell? ⟨b,o,none⟩=some v->w'.cell? ⟨b,o,none⟩=some v
theorem ahU{w0 w':World}{x:Nat}{bs:mt}{L:List cq}(hP:fZ w0 bs L)(hlt:∀b∈bs,b<w0.heap.size/\b≠x)(hg:(cg id w0 (cN L)).grownBy w' (some x)):yn w0 w' bs L:=by
 have hb:∀b∈bs,w'.heap[b]?=(cg id w0 (cN L)).heap[b]?:=fun b q=>hg.block b (by rw[nJ];exact(hlt b q).1) fun e=>(hlt b q).2 (Do e);refine⟨fun b q cur t h=>?_,fun p hp=>(hP.at_ p hp).1,fun p hp=>?_,fun b q o v hn h=>?_⟩
 .obtain⟨c',h1,h2⟩:=XC id (cN L) w0 b cur t (0,0) h;exact⟨c',(hb b q).trans h1,h2⟩
 .have:=YB id (cN L) w0 (by rw[Fn];exact hP.nd) (fun u hu=>by obtain⟨z,hz,rfl⟩:=ro.1 hu;exact⟨_,(hP.at_ z hz).1⟩) p.u (AI hp);exact(World.cell?_of_block (a:=p.ad) (hb p.b (hP.at_ p hp).2.2)).trans this
 .refine(World.cell?_of_block (a:=⟨b,o,none⟩) (hb b q)).trans ((oJ id (cN L) w0 _ rfl fun u hu e=>?_).trans h);obtain⟨z,hz,rfl⟩:=ro.1 hu;exact hn z hz e
section
variable{w0 w':World}{B:Nat}{bs:mt}{L:List cq}(hR:yn w0 w' bs L)
include hR
theorem yn.sl{b o:Nat}(hb:b∈bs)(h:w0.cell? ⟨b,o,none⟩=some (.slice A l c)):w'.cell? ⟨b,o,none⟩=some (.slice A l c):=hR.old b hb o _ (fun p hp e=>by have:=hR.pre p hp;rw[e,h]at this;cases this) h
theorem yn.bo{b o:Nat}{x:Bool}(hb:b∈bs)(h:w0.cell? ⟨b,o,none⟩=some (.bool x)):w'.cell? ⟨b,o,none⟩=some (.bool x):=hR.old b hb o _ (fun p hp e=>by have:=hR.pre p hp;rw[e,h]at this;cases this) h
theorem tV{xs:jp}(h:cC w0 B 3 1 cI A c xs)(hb:∀b∈aH A,b∈bs)(hL:∀p∈bO g A xs,p∈L):cC w' B 3 1 cI A c (xs.map g):=by
 refine vO h RC atO (aP _) (fun b q cur hc=>hR.sh b (hb b q) cur _ hc) fun b hA i x' k u hx hu=>?_;rw[ct,asj]at hx;obtain⟨x,hx,rfl⟩:=hx;have hk:=(ut.1 hu).1;have hk:k=0:=by simp[cI]at hk;exact hk
 subst hk;have hu:Value.int .i64 (g x)=u:=by simpa[cI]using hu
 have:=hR.new ⟨dS A,i,x,g x⟩ (hL _ (ro.2 ⟨(x,i),arH.2 hx,rfl⟩));have e:dS A=b:=by rw[hA];rfl
 rw[Nat.mul_one,asF,<-hu,<-e];exact this
theorem ajb{f:Int->Int}{r:bF}(h:r.own w0 B)(hb:∀b∈r.bs,b∈bs)(hL:∀p∈bO g r.A r.addr,p∈L):(r.fO f g).own w' B:=tV hR h hb hL
theorem aiq{x:bL}(h:x.own w0 B)(hb:∀b∈x.bs,b∈bs)(hL:∀p∈bO g x.A x.addr++bO g x.A2 x.data,p∈L):(x.fO g).own w' B:=⟨tV hR h.1 (fun b q=>hb b (AC _ q)) fun p q=>hL p (AC _ q),tV hR h.2 (fun b q=>hb b (EQ _ q)) fun p q=>hL p (EQ _ q)⟩
theorem akh{f:Int->Int}(h:m.own w0 B)(hb:∀b∈m.bs,b∈bs)(hL:∀p∈dn f g m,p∈L):(m.fO f g).own w' B:=by
 have hb2:=hb;unfold aL.bs at hb2;simp only[rc]at hb2;unfold dn at hL;simp only[rc]at hL;refine⟨?_,?_,?_,?_⟩
 .refine vO (xs':=m.reads.map (bF.fO f g)) h.rd uu atO (aP _) (fun b q cur hc=>hR.sh b (hb2 b (.inl q)) cur _ hc) fun b hA i x' k u hx hu=>?_;rw[ct,asj]at hx;obtain⟨x,hx,rfl⟩:=hx
  replace hA:m.A=some ⟨b,0,none⟩:=hA
  have e:dS m.A=b:=by rw[hA];rfl
  have hbb:b∈bs:=hb2 b (.inl (by simp[hA,aH]))
  match k,hu with
  |0,hu=>
   have hu:Value.int .i64 (f x.var)=u:=by simpa[bF.cells,bF.fO]using hu
   have:=hR.new ⟨dS m.A,i*2,x.var,f x.var⟩ (hL _ (.inl (rg.2 ⟨(x,i),arH.2 hx,IN ..⟩)));rw[<-hu,<-e];exact this
  |1,hu=>
   have hu:Value.slice x.A x.addr.length x.c=u:=by simpa[bF.cells,bF.fO]using hu
   rw[<-hu];exact hR.sl hbb (kg uu h.rd hA hx rfl)
  |k+2,hu=>simp[bF.cells]at hu
 .intro r hr;obtain⟨x,hx,rfl⟩:=ro.1 (show r∈m.reads.map (bF.fO f g)from hr);obtain⟨i,hi,e⟩:=arO hx;exact ajb hR (h.ig x hx) (fun b q=>hb2 b (.inr (.inl (rg.2 ⟨x,hx,q⟩)))) fun p q=>hL p (.inl (rg.2 ⟨(x,i),arH.2 (by rw[ba hi,e]),FS _ q⟩))
 .refine vO (xs':=m.writes.map (bL.fO g)) h.wr pP atO (aP _) (fun b q cur hc=>hR.sh b (hb2 b (.inr (.inr (.inl q)))) cur _ hc) fun b hA i x' k u hx hu=>?_;rw[ct,asj]at hx;obtain⟨x,hx,rfl⟩:=hx
  replace hA:m.A2=some ⟨b,0,none⟩:=hA
  have e:dS m.A2=b:=by rw[hA];rfl
  have hbb:b∈bs:=hb2 b (.inr (.inr (.inl (by simp[hA,aH]))))
  match k,hu with
  |0,hu=>
   have hu:Value.int .i64 (g x.on)=u:=by simpa[bL.cells,bL.fO]using hu
   have:=hR.new ⟨dS m.A2,i*3,x.on,g x.on⟩ (hL _ (.inr (rg.2 ⟨(x,i),arH.2 hx,IN ..⟩)));rw[<-hu,<-e];exact this
  |1,hu=>
   have hu:Value.slice x.A x.addr.length x.c=u:=by simpa[bL.cells,bL.fO]using hu
   rw[<-hu];exact hR.sl hbb (kg pP h.wr hA hx rfl)
  |2,hu=>
   have hu:Value.slice x.A2 x.data.length x.c2=u:=by simpa[bL.cells,bL.fO]using hu
   rw[<-hu];exact hR.sl hbb (kg pP h.wr hA hx rfl)
  |k+3,hu=>simp[bL.cells]at hu
 .intro r hr;obtain⟨x,hx,rfl⟩:=ro.1 (show r∈m.writes.map (bL.fO g)from hr);obtain⟨i,hi,e⟩:=arO hx;exact aiq hR (h.iX x hx) (fun b q=>hb2 b (.inr (.inr (.inr (rg.2 ⟨x,hx,q⟩))))) fun p q=>hL p (.inr (rg.2 ⟨(x,i),arH.2 (by rw[ba hi,e]),FS _ q⟩))
end
theorem ai4{B:Nat}(f g:Int->Int)(h:M.own w B):(∀p∈jg f g M,p.b∉aH M.Am)/\∀p∈jg f g M,p.b∈aH M.Al->p∈M.ag.zipIdx.flatMap (fq f g M.Al):=by
 have hd:=h.nd;unfold aT.bs aT.fH at hd;have hm:∀p∈M.ae.flatMap (dn f g),p.b∈M.ae.flatMap aL.bs:=(fZ.flat (w0:=w) (fun m hm=>Eh f g (h.kZ m hm) (by have hdm:=(rx.1 hd).2.1;obtain⟨i,hi,e⟩:=arO hm;have hs:=qC aL.bs (ba hi);rw[hs,e]at hdm;exact(rx.1 (rx.1 hdm).2.1).1)) (rx.1 hd).2.1).at_ |> fun q p hp=>(q p hp).2.2;have hand:∀p∈M.aj.zipIdx.flatMap (ir f g M.An),p.b∈aH M.An:=by
  intro p hp;obtain⟨z,hz,hp⟩:=rg.1 hp;have hz2:=arH.1 hz;obtain⟨b,hA,_⟩:=lf h.and (fun e=>by rw[e]at hz2;simp at hz2);have:p.b=dS M.An:=by simp only[ir,GE,atL,or_false]at hp;rcases hp with rfl|rfl|rfl<;>rfl
  rw[this,hA];simp[dS,aH]
 have hlat:∀p∈M.ag.zipIdx.flatMap (fq f g M.Al),p.b∈aH M.Al:=by
  intro p hp;obtain⟨z,hz,hp⟩:=rg.1 hp;have hz2:=arH.1 hz;obtain⟨b,hA,_⟩:=lf h.aJ (fun e=>by rw[e]at hz2;simp at hz2);have:p.b=dS M.Al:=by simp only[fq,GE,atL,or_false]at hp;rcases hp with rfl|rfl<;>rfl
  rw[this,hA];simp[dS,aH]
 have hpl:∀{A c xs}(g:Int->Int),cC w B 3 1 cI A c xs->∀p∈bO g A xs,p.b∈aH A:=fun g ho p hp=>((rU g ho).at_ p hp).2.2;have key:∀b,(b∈aH M.Am->b∉M.ae.flatMap aL.bs/\b∉aH M.Ai/\b∉aH M.Al/\b∉aH M.Ao/\b∉aH M.Ab/\b∉aH M.Ac/\b∉aH M.An)/\(b∈aH M.Al->b∉M.ae.flatMap aL.bs/\b∉aH M.Ai/\b∉aH M.Ao/\b∉aH M.Ab/\b∉aH M.Ac/\b∉aH M.An):=by
  intro b;simp only[rx,rc]at hd;obtain⟨⟨_,⟨_,⟨_,⟨_,⟨_,⟨_,_,x6⟩,x5⟩,x4⟩,x3⟩,x2⟩,x1⟩,_,x0⟩:=hd;refine⟨fun hb=>⟨fun q=>x0 b (.inr (.inr (.inr (.inr (.inr (.inr hb)))))) b q rfl,fun q=>x1 b q b (.inr (.inr (.inr (.inr (.inr hb))))) rfl,fun q=>x5 b q b (.inr hb) rfl,fun q=>x2 b q b (.inr (.inr (.inr (.inr hb)))) rfl,fun q=>x3 b q b (.inr (.inr (.inr hb))) rfl,fun q=>x4 b q b (.inr (.inr hb)) rfl,fun q=>x6 b q b hb rfl⟩,
   fun hb=>⟨fun q=>x0 b (.inr (.inr (.inr (.inr (.inl hb))))) b q rfl,fun q=>x1 b q b (.inr (.inr (.inr (.inl hb)))) rfl,fun q=>x2 b q b (.inr (.inr (.inl hb))) rfl,fun q=>x3 b q b (.inr (.inl hb)) rfl,fun q=>x4 b q b (.inl hb) rfl,fun q=>x5 b hb b (.inl q) rfl⟩⟩
 refine⟨fun p hp q=>?_,fun p hp q=>?_⟩
 .obtain⟨k0,k1,k2,k3,k4,k5,k6⟩:=(key p.b).1 q;unfold jg at hp;simp only[rc]at hp;rcases hp with hp|hp|hp|(hp|hp|hp)|hp
  .exact k0 (hm p hp)
  .exact k1 (hpl f h.ins p hp)
  .exact k2 (hlat p hp)
  .exact k3 (hpl g h.out p hp)
  .exact k4 (hpl g h.bad p hp)
  .exact k5 (hpl g h.gG p hp)
  .exact k6 (hand p hp)
 .obtain⟨k0,k1,k3,k4,k5,k6⟩:=(key p.b).2 q;unfold jg at hp;simp only[rc]at hp;rcases hp with hp|hp|hp|(hp|hp|hp)|hp
  .exact absurd (hm p hp) k0
  .exact absurd (hpl f h.ins p hp) k1
  .exact hp
  .exact absurd (hpl g h.out p hp) k3
  .exact absurd (hpl g h.bad p hp) k4
  .exact absurd (hpl g h.gG p hp) k5
  .exact absurd (hand p hp) k6
theorem akl{w0 w':World}{B:Nat}{f:Int->Int}(h:M.own w0 B)(hR:yn w0 w' M.bs (jg f g M))(hs:∀b∈M.bs,b<w'.heap.size):(M.fO f g).own w' B:=by
 have k0:∀b∈M.fH,b∈M.bs:=fun b q=>AC _ q;unfold aT.fH at k0;simp only[rc]at k0;obtain⟨far1,far2⟩:=ai4 f g h;have hL:∀p,p∈jg f g M↔p∈M.ae.flatMap (dn f g)\/p∈bO f M.Ai M.al\/p∈M.ag.zipIdx.flatMap (fq f g M.Al)\/(p∈bO g M.Ao M.aZ\/p∈bO g M.Ab M.aN\/p∈bO g M.Ac M.constraints)\/p∈M.aj.zipIdx.flatMap (ir f g M.An):=fun p=>by unfold jg;simp only[rc]
 refine⟨tV hR h.ins (fun b q=>k0 b (.inl q)) fun p q=>(hL p).2 (.inr (.inl q)),tV hR h.out (fun b q=>k0 b (.inr (.inl q))) fun p q=>(hL p).2 (.inr (.inr (.inr (.inl (.inl q))))),tV hR h.bad (fun b q=>k0 b (.inr (.inr (.inl q)))) fun p q=>(hL p).2 (.inr (.inr (.inr (.inl (.inr (.inl q)))))),
  tV hR h.gG (fun b q=>k0 b (.inr (.inr (.inr (.inl q))))) fun p q=>(hL p).2 (.inr (.inr (.inr (.inl (.inr (.inr q)))))),?_,?_,?_,?_,?_,?_⟩
 .refine vO (xs':=M.ag.map (jV f g)) h.aJ MX atO (aP _) (fun b q cur hc=>hR.sh b (k0 b (.inr (.inr (.inr (.inr (.inl q)))))) cur _ hc) fun b hA i x' k u hx hu=>?_;rw[ct,asj]at hx;obtain⟨x,hx,rfl⟩:=hx
  replace hA:M.Al=some ⟨b,0,none⟩:=hA
  have e:dS M.Al=b:=by rw[hA];rfl
  have hba:b∈aH M.Al:=by simp[hA,aH]
  have hbb:b∈M.bs:=k0 b (.inr (.inr (.inr (.inr (.inl hba)))));have bz:∀p∈fq f g M.Al (x,i),p∈jg f g M:=fun p q=>(hL p).2 (.inr (.inr (.inl (rg.2 ⟨(x,i),arH.2 hx,q⟩))))
  match k,hu with
  |0,hu=>
   have hu:Value.int .i64 (f x.var)=u:=by simpa[dJ.cells,jV]using hu
   have:=hR.new _ (bz _ (IN ..));rw[<-hu,<-e];exact this
  |1,hu=>
   have hu:Value.int .i64 (g x.next)=u:=by simpa[dJ.cells,jV]using hu
   have:=hR.new _ (bz _ (FS _ (IN ..)));rw[<-hu,<-e];exact this
  |2,hu=>
   have hu:Value.int .i64 x.init=u:=by simpa[dJ.cells,jV]using hu
   rw[<-hu];refine hR.old b hbb _ _ (fun p hp q=>?_) (kg (k:=2) MX h.aJ hA hx rfl);have hpb:p.b=b:=PP Addr.block q;have hpo:p.o=i*3+2:=PP Addr.off q;obtain⟨z,hz,hp⟩:=rg.1 (far2 p hp (by rw[hpb];exact hba));simp only[fq,GE,atL,or_false]at hp;rcases hp with rfl|rfl
   .have hpo:z.2*3=i*3+2:=hpo;omega
   .have hpo:z.2*3+1=i*3+2:=hpo;omega
  |k+3,hu=>simp[dJ.cells]at hu
 .refine vO (xs':=M.aj.map (jU f g)) h.and YX atO (aP _) (fun b q cur hc=>hR.sh b (k0 b (.inr (.inr (.inr (.inr (.inr (.inl q))))))) cur _ hc) fun b hA i x' k u hx hu=>?_;rw[ct,asj]at hx;obtain⟨x,hx,rfl⟩:=hx
  replace hA:M.An=some ⟨b,0,none⟩:=hA
  have e:dS M.An=b:=by rw[hA];rfl
  have bz:∀p∈ir f g M.An (x,i),p∈jg f g M:=fun p q=>(hL p).2 (.inr (.inr (.inr (.inr (rg.2 ⟨(x,i),arH.2 hx,q⟩)))))
  match k,hu with
  |0,hu=>
   have hu:Value.int .i64 (f x.var)=u:=by simpa[dU.cells,jU]using hu
   have:=hR.new _ (bz _ (IN ..));rw[<-hu,<-e];exact this
  |1,hu=>
   have hu:Value.int .i64 (g x.a)=u:=by simpa[dU.cells,jU]using hu
   have:=hR.new _ (bz _ (FS _ (IN ..)));rw[<-hu,<-e];exact this
  |2,hu=>
   have hu:Value.int .i64 (g x.b)=u:=by simpa[dU.cells,jU]using hu
   have:=hR.new _ (bz _ (FS _ (FS _ (IN ..))));rw[<-hu,<-e];exact this
  |k+3,hu=>simp[dU.cells]at hu
 .refine vO (xs':=M.ae.map (aL.fO f g)) h.mem oK atO (aP _) (fun b q cur hc=>hR.sh b (k0 b (.inr (.inr (.inr (.inr (.inr (.inr q))))))) cur _ hc) fun b hA i x' k u hx hu=>?_;rw[ct,asj]at hx;obtain⟨x,hx,rfl⟩:=hx
  replace hA:M.Am=some ⟨b,0,none⟩:=hA
  have hba:b∈aH M.Am:=by simp[hA,aH]
  have hbb:b∈M.bs:=k0 b (.inr (.inr (.inr (.inr (.inr (.inr hba))))));have hu2:x.cells[k]?=some u:=by
   have e:(x.fO f g).cells=x.cells:=by show[_,_,_,Value.slice x.A (x.reads.map (bF.fO f g)).length x.c,Value.slice x.A2 (x.writes.map (bL.fO g)).length x.c2]=_;rw[aP,aP];rfl
   rw[<-e];exact hu
  refine hR.old b hbb _ _ (fun p hp q=>far1 p hp ?_) (kg oK h.mem hA hx hu2);have hpb:p.b=b:=PP Addr.block q;rw[hpb];exact hba
 .intro m hm;obtain⟨x,hx,rfl⟩:=ro.1 (show m∈M.ae.map (aL.fO f g)from hm);exact akh hR (h.kZ x hx) (fun b q=>EQ _ (rg.2 ⟨x,hx,q⟩)) fun p q=>(hL p).2 (.inl (rg.2 ⟨x,hx,q⟩))
 .rw[Y5];exact h.nd
 .rw[Y5];exact hs
end Go.Proofs.YtmkbdfidnfmgmaaGreat
end
section
namespace Go.Proofs.YtmkbdfidnfmgmaaGreat.V
open Go Go.RowKit Go.Proofs.YtmkbdfidnfmgmaaGreat.Pl
theorem DV{α:Type}{σ:Sh}{w:World}{P:Nat->Prop}{f:α->pi}{T:α->σ.T}:∀{xs:List α},(∀x∈xs,Cs w P σ (T x) (f x))->bK (Cs w P σ) (xs.map T) (xs.flatMap f)
 |[],_=>rfl|x::xs,h=>⟨f x,xs.flatMap f,rfl,h x (IN ..),DV fun y hy=>h y (FS _ hy)⟩
variable{c:Nat}{A:pm}{σ:Sh}
theorem pJ{α:Type}{w:World}{P:Nat->Prop}{B:Nat}{e:TypeId}{z:Nat}{f:α->pi}{T:α->σ.T}{xs:List α}(h:cC w B e z f A c xs)(hf:∀x∈xs,Cs w P σ (T x) (f x))(hA:∀b∈aH A,¬P b) :
  Cs w P (.sl σ) (xs.map T) [.slice A xs.length c]:=by
 obtain⟨k1,k2,_,_⟩:=Yc h;refine⟨A,xs.length,c,rfl,(aP _).symm,k1,fun hne=>?_⟩;have hx:xs≠[]:=fun e=>hne (by rw[e];rfl);obtain⟨hl,h⟩:=h;rcases h with⟨h,h0⟩|⟨g,cap,cur,e1,hg,hh,hc,hm,hs,ht⟩
 .exact absurd (ww h0) hx
 .obtain⟨rfl,_,rfl⟩:=(by simpa using e1:A=some ⟨g,0,none⟩/\True/\c=cap);refine⟨g,0,xs.flatMap f,rfl,hA g (by simp[aH]),DV hf,cur,e,(0,0),hh,fun j u hj=>?_⟩;rw[<-ht,atk]at hj;split at hj
  .simpa using hj
  .cases hj
variable{xs:jp}
theorem lN{w:World}{P:Nat->Prop}{B:Nat}(h:cC w B 3 1 cI A c xs)(hA:∀b∈aH A,¬P b):Cs w P (.sl .I) xs [.slice A xs.length c]:=by have:=pJ (σ:=.I) (T:=fun x:Int=>x) h (fun x _=>rfl) hA;have e:xs.map (fun x:Int=>x)=xs:=List.map_id' xs;exact(PP (fun L:jp=>Cs w P (.sl .I) L [.slice A xs.length c]) e).mp this
section
variable{w:World}{P:Nat->Prop}{B:Nat}
theorem akv{r:bF}(h:r.own w B)(hA:∀b∈r.bs,¬P b):Cs w P cF (fC r.d) r.cells:=⟨[.int .i64 r.var],_,rfl,rfl,_,[],rfl,lN h hA,rfl⟩
theorem ajI{x:bL}(h:x.own w B)(hA:∀b∈x.bs,¬P b):Cs w P bD (fy x.d) x.cells:=⟨[.int .i64 x.on],_,rfl,rfl,[_],_,rfl,lN h.1 (fun b q=>hA b (AC _ q)),[_],[],rfl,lN h.2 (fun b q=>hA b (EQ _ q)),rfl⟩
theorem Na{m:aL}(h:m.own w B)(hA:∀b∈m.bs,¬P b):Cs w P ah (aI m.d) m.cells:=by
 unfold aL.bs at hA;simp only[rc]at hA;have k1:=pJ (σ:=cF) (T:=fun r:bF=>fC r.d) (P:=P) h.rd (fun r hr=>akv (h.ig r hr) fun b q=>hA b (.inr (.inl (rg.2 ⟨r,hr,q⟩)))) fun b q=>hA b (.inl q);have k2:=pJ (σ:=bD) (T:=fun r:bL=>fy r.d) (P:=P) h.wr (fun r hr=>ajI (h.iX r hr) fun b q=>hA b (.inr (.inr (.inr (rg.2 ⟨r,hr,q⟩))))) fun b q=>hA b (.inr (.inr (.inl q)));refine⟨[.int .i64 m.addr],_,rfl,rfl,[.int .i64 m.word],_,rfl,rfl,[.bool m.any],_,rfl,rfl,[_],_,rfl,?_,[_],[],rfl,?_,rfl⟩
 .show Cs w P (.sl cF) ((m.reads.map bF.d).map fC) _;rw[Fn];exact k1
 .show Cs w P (.sl bD) ((m.writes.map bL.d).map fy) _;rw[Fn];exact k2
theorem MW(x:dJ):Cs w P af (bq x) x.cells:=⟨[_],_,rfl,rfl,[_],_,rfl,rfl,[_],[],rfl,rfl,rfl⟩
theorem YO(x:dU):Cs w P af (bc x) x.cells:=⟨[_],_,rfl,rfl,[_],_,rfl,rfl,[_],[],rfl,rfl,rfl⟩
end
open Go.Proofs.YtmkbdfidnfmgmaaGreat.Ev (Tr Tr.dp nth fc Ex)
def uR(X:Cx)(tr:Tr bC)(w':World)(loc:Loc):Cx:=⟨fun i=>if i=0 then some loc else none,⟨tr,1⟩,w',X.A⟩
variable{tr:Tr bC}{b:Nat}{loc:Loc}{X:Cx}{w':World}
theorem Yj(h:(uR X tr w' loc).da b):loc.own b:=by
 obtain⟨i,o,l,h1,h2,h3⟩:=h;have h2:(if i=0 then some loc else none)=some l:=h2;split at h2
 .cases h2;exact h3
 .cases h2
variable{ty:TypeId}{L:List σ.T}
theorem akq(H:aV X)(hX:X.h=⟨.nil,0⟩)(hb:Below X.w.heap.size X.w w')(h0:tr.get 0=some (.arr σ L ty))(h1:∀i,i≠0->tr.get i=none)
  (hl:∀b,loc.own b->X.w.heap.size<=b/\b<w'.heap.size) (ho:jA (uR X tr w' loc) loc (.arr σ L ty)):aV (uR X tr w' loc)/\bh X (uR X tr w' loc):=by
 have sg:∀i l,(uR X tr w' loc).s i=some l->i=0/\l=loc:=fun i l h=>by
  have h:(if i=0 then some loc else none)=some l:=h;split at h
  .cases h;exact⟨by assumption,rfl⟩
  .cases h
 have s0:∀i l,X.s i≠some l:=fun i l h=>by have:=H.dM i l h;rw[hX]at this;exact absurd this (arL i)
 have noimg:∀b,¬X.da b:=fun b ⟨i,o,l,_,q,_⟩=>s0 i l q;refine⟨⟨?_,?_,?_,?_,?_,?_⟩,⟨hb.os,hb.tape,hb.output,hb.size,?_,?_,?_,?_,?_,?_,?_,rfl⟩⟩
 .intro i o l hi hs;obtain⟨rfl,rfl⟩:=sg i l hs;have hi:tr.get 0=some o:=hi;rw[h0]at hi;cases hi;exact ho
 .intro i j o o' l l' b _ _ hi hj _ _;exact(sg i l hi).1.trans (sg j l' hj).1.symm
 .intro i o hi;show i<1;by_cases e:i=0
  .omega
  .have hi:tr.get i=some o:=hi;rw[h1 i e]at hi;cases hi
 .intro i l hs;show i<1;have:=(sg i l hs).1;omega
 .intro b hA;have:=H.alt b hA;have:=hb.size;show b<w'.heap.size;omega
 .intro i o l b _ hs hob hA;obtain⟨_,rfl⟩:=sg i l hs;have:=(hl b hob).1;have:=H.alt b hA;omega
 .intro i l h;exact absurd h (s0 i l)
 .intro i l hi _;rw[hX]at hi;exact absurd hi (arL i)
 .rw[hX];exact GT _
 .intro b hlt _;exact hb.block b hlt
 .intro b h;exact .inr (hl b (Yj h)).1
 .intro j n hj;rw[hX]at hj;exact absurd hj (arL j)
 .intro i hi;rw[hX]at hi;exact absurd hi (arL i)
def j3(A:pm)(c:Nat):Loc:=match A with|some a=>.at a.block c|none=>.nil
theorem vM:(j3 A c).own b->b∈aH A:=by cases A with|none=>exact fun h=>h.elim|some a=>exact fun h=>by have h:b=a.block:=h;rw[h];simp[aH]
theorem X8{B:Nat}{xs:List dU}(h:cC X.w B 113 3 dU.cells A c xs):jA X (j3 A c) (.arr af (xs.map bc) 113)/\Value.slice A xs.length c=(j3 A c).slice xs.length:=by
 obtain⟨hl,h⟩:=h;rcases h with⟨h,h0⟩|⟨g,cap,cur,e1,hg,hh,hc,hm,hs,ht⟩
 .obtain⟨rfl,_,rfl⟩:=(by simpa using h:A=none/\xs=[]/\c=0);exact⟨by rw[ww h0];rfl,rfl⟩
 .obtain⟨rfl,_,rfl⟩:=(by simpa using e1:A=some ⟨g,0,none⟩/\True/\c=cap);refine⟨⟨xs.flatMap dU.cells,cur.toList.drop (xs.length*3),?_,DV fun x _=>YO x,?_,by rw[aP];exact hc⟩,rfl⟩
  .rw[<-ht,LT];exact hh
  .have hdr:(List.drop (xs.length*3) cur.toList).length=c*3-xs.length*3:=by rw[asl];simp[hs]
   rw[hl,hdr];show xs.length*3+(c*3-xs.length*3)=c*3;have:xs.length*3<=c*3:=arP 3 hc;omega
def nz(X:Cx)(tr:Tr bC)(w':World)(loc:Loc):Cx:=⟨cw X.s X.h.next loc,⟨tr,X.h.next+1⟩,w',X.A⟩
theorem Ya(H:aV X)(hb:Below X.w.heap.size X.w w'){o:bC}(h0:tr.get X.h.next=some o)(h1:∀i,i≠X.h.next->tr.get i=X.h.tr.get i)
  (hl:∀b,loc.own b->X.w.heap.size<=b/\b<w'.heap.size) (ho:jA (nz X tr w' loc) loc o):aV (nz X tr w' loc)/\bh X (nz X tr w' loc):=by
 have hn:X.s X.h.next=none:=by cases q:X.s X.h.next with|none=>rfl|some l=>have:=H.dM _ _ q;omega
 have sg:∀j l,(nz X tr w' loc).s j=some l->(j=X.h.next/\l=loc)\/(j≠X.h.next/\X.s j=some l):=fun j l h=>by
  have h:cw X.s X.h.next loc j=some l:=h;by_cases q:j=X.h.next
  .subst q;rw[fU]at h;cases h;exact .inl ⟨rfl,rfl⟩
  .rw[eJ _ _ _ q]at h;exact .inr ⟨q,h⟩
 have tg:∀j,j≠X.h.next->(nz X tr w' loc).h.tr.get j=X.h.tr.get j:=h1;have E:bh X (nz X tr w' loc):=by
  refine⟨hb.os,hb.tape,hb.output,hb.size,?_,?_,Nat.le_succ _,?_,?_,?_,?_,rfl⟩
  .intro i l h;have:=H.dM i l h;show cw X.s _ _ i=_;rw[eJ _ _ _ atO];exact h
  .intro i l hi h;rcases sg i l h with⟨rfl,_⟩|⟨_,h⟩
   .omega
   .exact h
  .intro b hlt _;exact hb.block b hlt
  .rintro b ⟨i,avF,l,a,b2,c⟩;rcases sg i l b2 with⟨rfl,rfl⟩|⟨q,h⟩
   .exact .inr (hl b c).1
   .rw[tg i q]at a;exact .inl ⟨i,avF,l,a,h,c⟩
  .intro j n hj h;have h:rowOf tr j=some n:=h;unfold rowOf at h |-;rw[h1 j atO]at h;exact h
  .intro i hi _;exact h1 i atO
 refine⟨⟨?_,?_,?_,?_,?_,?_⟩,E⟩
 .intro i avF l a b;rcases sg i l b with⟨rfl,rfl⟩|⟨q,h⟩
  .have a:tr.get X.h.next=some avF:=a;rw[h0]at a;cases a;exact ho
  .rw[tg i q]at a;exact(H.obj i avF l a h).ext (E.fG H) fun b hob=>hb.block b (H.ju a h hob)
 .intro i j avF avG l l' b a1 a2 b1 b2 c1 c2;rcases sg i l b1 with⟨rfl,rfl⟩|⟨q,h⟩
  .rcases sg j l' b2 with⟨rfl,rfl⟩|⟨q',h'⟩
   .rfl
   .rw[tg j q']at a2;have:=H.ju a2 h' c2;have:=(hl b c1).1;omega
  .rw[tg i q]at a1;rcases sg j l' b2 with⟨rfl,rfl⟩|⟨q',h'⟩
   .have:=H.ju a1 h c1;have:=(hl b c2).1;omega
   .rw[tg j q']at a2;exact H.inj i j avF avG l l' b a1 a2 h h' c1 c2
 .intro i avF a;show i<X.h.next+1;by_cases q:i=X.h.next
  .omega
  .rw[tg i q]at a;have:=H.lt i avF a;omega
 .intro i l h;show i<X.h.next+1;rcases sg i l h with⟨rfl,_⟩|⟨_,h⟩
  .omega
  .have:=H.dM i l h;omega
 .intro b hA;have:=H.alt b hA;have:=hb.size;show b<w'.heap.size;omega
 .intro i avF l b a hs hob hA;have hlt:=H.alt b hA;rcases sg i l hs with⟨rfl,rfl⟩|⟨q,h⟩
  .have:=(hl b hob).1;omega
  .rw[tg i q]at a;exact H.loc i avF l b a h hob hA
theorem XH(H:aV X)(hb:Below X.w.heap.size X.w w'):aV ⟨X.s,X.h,w',X.A⟩/\bh X ⟨X.s,X.h,w',X.A⟩:=by have E:bh X ⟨X.s,X.h,w',X.A⟩:=⟨hb.os,hb.tape,hb.output,hb.size,fun _ _ h=>h,fun _ _ _ h=>h,rt _,fun b h _=>hb.block b h,fun _ h=>.inl h,fun _ _ _ h=>h,fun _ _ _=>rfl,rfl⟩;refine⟨⟨fun i o l a b=>(H.obj i o l a b).ext (E.fG H) fun x hx=>hb.block x (H.ju a b hx),H.inj,H.lt,H.dM,fun b hA=>WP (H.alt b hA) hb.size,H.loc⟩,E⟩
theorem Mi(w:World)(A:Nat->Prop):jF w A w (fun _=>False):=fun _ _ _ q=>⟨q,fun f=>f⟩
theorem Y6(H:aV X){i:Nat}{l:Loc}(hi:X.h.tr.get i=some (.arr σ L ty))(hs:X.s i=some l):Cs X.w (fun _=>False) (.sl σ) L [l.slice L.length]:=by
 have h:=H.obj i _ l hi hs;cases l with
 |nil=>have h:L=[]:=h;subst h;exact⟨none,0,0,rfl,rfl,rt _,fun q=>absurd rfl q⟩|«at» b c=>
  obtain⟨cs,tail,h1,h2,h3,h4⟩:=h;by_cases q:X.out b
  .refine⟨some ⟨b,0,none⟩,L.length,c,rfl,rfl,h4,fun _=>⟨b,0,cs,rfl,fun f=>f,bK.mono (fun x c q=>Cs.bn (Mi X.w X.out) q) h2,?_⟩⟩;refine⟨_,ty,(0,0),h1,fun j u hj=>?_⟩;have hl:=(ut.1 hj).1;rw[ase,Or,Pi hl];exact hj
  .exact absurd (.inr ⟨i,_,_,hi,hs,rfl⟩) q
 |dE b c m=>exact h.elim
theorem aiQ{B:Nat}(h:cC X.w B 3 1 cI A c xs):jA X (j3 A c) (.arr .I xs 3)/\Value.slice A xs.length c=(j3 A c).slice xs.length:=by
 obtain⟨hl,h⟩:=h;rcases h with⟨h,h0⟩|⟨g,cap,cur,e1,hg,hh,hc,hm,hs,ht⟩
 .obtain⟨rfl,_,rfl⟩:=(by simpa using h:A=none/\xs=[]/\c=0);exact⟨by rw[ww h0];rfl,rfl⟩
 .obtain⟨rfl,_,rfl⟩:=(by simpa using e1:A=some ⟨g,0,none⟩/\True/\c=cap);refine⟨⟨xs.flatMap cI,cur.toList.drop (xs.length*1),?_,((PP (fun L:jp=>bK (Cs X.w X.out .I) L (xs.flatMap cI)) (List.map_id' xs)).mp (DV (σ:=.I) (w:=X.w) (P:=X.out) (f:=cI) (T:=fun x:Int=>x) (xs:=xs) fun x _=>rfl)),?_,hc⟩,rfl⟩
  .rw[<-ht,LT];exact hh
  .have hdr:(List.drop (xs.length*1) cur.toList).length=c*1-xs.length*1:=by rw[asl];simp[hs]
   rw[hl,hdr];show xs.length*1+(c*1-xs.length*1)=c*1;omega
end Go.Proofs.YtmkbdfidnfmgmaaGreat.V
end
section
namespace Go.Proofs.YtmkbdfidnfmgmaaGreat
open Go Go.RowKit Pl
set_option maxRecDepth 20000
set_option maxHeartbeats 4000000
variable{W:World}{n:Nat}{b':Nat}{w0:World}{tl:jp}{m:aL}{bm:Nat}{c':Nat}{off':Nat}
theorem ail{B off:Nat}{d r:List cq}(hP:f8 w0 B n b' (d++(dn (pu tl) (av tl) m++r)))(hB:B=w0.heap.size)(hb:Below B (cg id w0 (cN d)) W)
  (hR:Reads w0 B 1 (some ⟨b',off',none⟩) n (tl.map (Value.int .i64))) (ef:∀y∈tl,0<=y/\y<=1000000) (hn:n<=1048576) (hM:uh w0 B bm off m) (hF:zb m.d) (hd:∀u∈cN d,u.1∉m.bs/\u.1≠bm) (hL:∀p∈dn (pu tl) (av tl) m,p.b≠bm)
  (hok:yK tl m.d) (hv:∀x∈m.reads,x.var<n/\∀y∈x.addr,y / 2<n) (hw:∀x∈m.writes,x.on / 2<n/\(∀y∈x.addr,y / 2<n)/\∀y∈x.data,y / 2<n) :
  Calls Tryz.prog 150 #[.agg #[.slice (some ⟨b',off',none⟩) n c'],.pointer (some ⟨bm,off,none⟩)] W fun e w'=>e=.returned (.bool true)/\Below B (cg id w0 (cN (d++dn (pu tl) (av tl) m))) w':=by
 have hBs:=D3 hb hB;have hN:=hM.now hb hd hBs;have hdb:∀u∈cN d,u.1≠b':=fun u hu=>by obtain⟨z,hz,rfl⟩:=ro.1 hu;exact(hP.at_ z (by simp[hz])).2.2.2.1
 have hRW:=DR hb hdb hBs hR;have hrl:m.reads.length<=100:=by have h:=hF.nH;rwa [show m.d.reads.length=m.reads.length from aP _]at h
 have hwl:m.writes.length<=100:=by have h:=hF.tI;rwa [show m.d.writes.length=m.writes.length from aP _]at h
 have m0:W.cell? ⟨bm,off,none⟩=some (.int .i64 m.addr):=hN.c 0 _ rfl;have m1:=hN.c 1 _ rfl;have m2:=hN.c 2 _ rfl;have m3:=hN.c 3 _ rfl;have m4:=hN.c 4 _ rfl;have hbmW:=hN.bm;have HP:=Lib.hid hP;have HB:=Lib.hid hb;have HR:=Lib.hid hR;have HRW:=Lib.hid hRW;have HT:=Lib.hid ef;have HM:=Lib.hid hM;have HN:=Lib.hid hN;have HF:=Lib.hid hF;have HD:=Lib.hid hd;have HL:=Lib.hid hL;have HO:=Lib.hid hok;have HV:=Lib.hid hv;have HW:=Lib.hid hw;clear hP hb hR hRW ef hM hN hF hd hL hok hv hw hdb
 go_enter Tryz.func150,Tryz.ntmps150
 go_wp2_with fail
 go_loopw [17] (fun i wr=>∃j:Nat,j<=m.reads.length/\i=.int .i64 j/\wr.cell? ⟨W.heap.size,0,none⟩=some (.slice (some ⟨b',off',none⟩) n c')/\W.heap.size<wr.heap.size/\Below W.heap.size W wr) (fun i _=>m.reads.length-(intOf i).toNat)
 case atStart=>
  refine⟨0,GT _,rfl,?_,atQ,(Below.refl _ W).alloc (rt _) _⟩
  go_simp
 case round=>
  obtain⟨j,hj,rfl,hbox,hsz,hbl⟩:=hrel;have n0:=(hbl.cell (p:=⟨bm,off,none⟩) hbmW).trans m0;have n1:=(hbl.cell (p:=⟨bm,off+1,none⟩) hbmW).trans m1;have n2:=(hbl.cell (p:=⟨bm,off+2,none⟩) hbmW).trans m2;have n3:=(hbl.cell (p:=⟨bm,off+3,none⟩) hbmW).trans m3;have n4:=(hbl.cell (p:=⟨bm,off+4,none⟩) hbmW).trans m4;by_cases hlt:j<m.reads.length
  .have hrj:m.reads[j]?=some m.reads[j]:=ba hlt;have hrm:=By hlt;obtain⟨br,hA,hbr0,hbr1,hbrf⟩:=lf HN.out.own.rd (fun e=>by rw[e]at hlt;exact arL _ hlt);have cv:wr.cell? ⟨br,j*2,none⟩=some (.int .i64 m.reads[j].var):=(hbl.cell (p:=⟨br,j*2,none⟩) hbr1).trans (kg (k:=0) uu HN.out.own.rd hA hrj rfl);have hmf:=HF.out.ig m.reads[j].d (AI hrm);have hsw:W.heap.size<=wr.heap.size:=asS hsz;have HDt:Hid (Calls Tryz.prog 108 #[.agg #[.int .i64 m.addr,.int .i64 m.word,.bool m.any,.slice (some ⟨br,0,none⟩) m.reads.length m.c,.slice m.A2 m.writes.length m.c2],.int .i64 j] wr (vc 3 wr (ints (bZ m.reads[j].var m.word.toNat)))):=by
    have:=aix m j m.reads[j] wr ((HN.out.cY.below hbl).more hsw) hrj hrl HF.out.word.2 HF.out.word.1.1 hmf.2.1 hmf.2.2.1;unfold aL.v at this
    rwa [hA]at this
   rw[hA]at n3;have hok:=HO.out m.reads[j].d (AI hrm);have HOK:=Lib.hid (show ∀i:Nat,i<m.word.toNat->0<=m.reads[j].var/\m.reads[j].var+i<tl.length/\tl.getD (m.reads[j].var+i).toNat 0=tl.getD m.reads[j].var.toNat 0+i from hok);have hK:m.word.toNat<=4000:=by have:=HF.out.word.2;have h:m.word<=4000:=this;omega
   clear hrj hrm hA hbrf hmf hok hbr0;generalize m.reads[j].var=v at *
   generalize m.word.toNat=K at *
   go_wp2_with (refine HDt.out.mono ?_;rintro e w1 ⟨Ad,cd,rfl,hd1,hd2,hod,hbd⟩;have hdl:(ints (bZ v K)).length=K:=(by simp[ints,bZ]);have HOD:=Lib.hid hod;rw[hdl])
   have hod2:cC w1 wr.heap.size 3 1 cI Ad cd (bZ v K):=by have:=HOD.out;rw[show(ints (bZ v K)).length=(bZ v K).length from by simp[ints],DP]at this;exact this
   clear hod hd1 hd2 HOD hdl HDt;have hs1:=hbd.size;obtain⟨wo,rfl⟩:∃x,x=wr:=⟨_,rfl⟩;have HOD:=Lib.hid hod2;clear hod2
   go_loopw [32] (fun i wq=>∃k:Nat,k<=K/\i=.int .i64 k/\Below w1.heap.size w1 wq) (fun i _=>K-(intOf i).toNat)
   case atStart=>exact⟨0,GT _,rfl,Below.refl _ _⟩
   case round=>
    obtain⟨wq,rfl⟩:∃x,x=wr:=⟨_,rfl⟩;obtain⟨k,hk,rfl,hbq⟩:=hrel;have hs2:=hbq.size;have box2:wq.cell? ⟨W.heap.size,0,none⟩=some (.slice (some ⟨b',off',none⟩) n c'):=(hbq.cell (by show W.heap.size<_;omega)).trans ((hbd.cell hsz).trans hbox);have cv2:wq.cell? ⟨br,j*2,none⟩=some (.int .i64 v):=(hbq.cell (by show br<_;omega)).trans ((hbd.cell (by show br<_;omega)).trans cv);by_cases hkl:k<K
    .obtain⟨h1,h2,h3⟩:=HOK.out k hkl;obtain⟨vn,rfl⟩:=BY h1;have hdk:(bZ (vn:Int) K)[k]?=some ((vn+k:Nat):Int):=by unfold bZ;rw[ct,arT hkl];rfl
     obtain⟨dv,rfl,hdv0,hdv1,hdvf⟩:=lf HOD.out (fun e=>by rw[e]at hdk;cases hdk);have cdv:wq.cell? ⟨dv,k,none⟩=some (.int .i64 ((vn+k:Nat):Int)):=by have:=kg RC HOD.out rfl (k:=0) hdk rfl;rw[Nat.mul_one]at this;exact(hbq.cell (p:=⟨dv,k,none⟩) hdv1).trans this
     have hln:tl.length=n:=by have:=HRW.out.1;simpa using this
     have e0:((vn:Int)+(k:Int)).toNat=vn+k:=atO
     rw[e0,Ne]at h3;obtain⟨tb,toff,te,htB,htz⟩:=HRW.out.qO (k:=vn+k) atO;cases te;obtain⟨tb,toff,te,_,ht0⟩:=HRW.out.qO (k:=vn) atO;cases te;rw[h3]at htz;have hlow:∀{a:Addr}{u:Value},a.block<W.heap.size->W.cell? a=some u->wq.cell? a=some u:=fun ha hu=>(hbq.cell atO).trans ((hbd.cell atO).trans ((hbl.cell ha).trans hu));have tz:=hlow (a:=⟨b',off'+(vn+k),none⟩) htB htz;have t0:=hlow (a:=⟨b',off'+vn,none⟩) htB ht0;have hy:0<=tl.getD vn 0/\tl.getD vn 0<=1000000:=by rw[eu,ba atO];exact HT.out _ (By _)
     have hz:vn+k<n:=atO
     have hz0:vn<n:=atO
     clear h1 h2 h3 hdk hdvf hlow ht0 htz hln e0;generalize tl.getD vn 0=y at *
     go_wp2_with fail
     go_region
     all_goals go_wp2_with fail
     go_roundw
     case rel=>exact⟨k+1,atO,by go_num,hbq.drew⟩
     case measure=>simp[intOf];omega
    .obtain rfl:k=K:=atO
     go_wp2_with fail
     go_roundw
     case rel=>exact⟨j+1,atO,by go_num,box2,atO,(hbl.trans (hbd.mono hsw)).trans (hbq.mono atO)⟩
     case measure=>simp[intOf];omega
  .obtain rfl:j=m.reads.length:=atO
   have hst0:Hid (gk w0 B W.heap.size (.slice (some ⟨b',off',none⟩) n c') (d++(m.reads.zipIdx.take 0).flatMap (gJ (pu tl) (av tl) m.A)) wr):=by rw[arR,arZ,d6];exact⟨hbox,hBs,hsz,HB.out.trans (hbl.mono hBs)⟩
   go_wp2_with fail
   go_loopw [60] (fun i wq=>∃k:Nat,k<=m.reads.length/\i=.int .i64 k/\Hid (gk w0 B W.heap.size (.slice (some ⟨b',off',none⟩) n c') (d++(m.reads.zipIdx.take k).flatMap (gJ (pu tl) (av tl) m.A)) wq)) (fun i _=>m.reads.length-(intOf i).toNat)
   case atStart=>exact⟨0,GT _,rfl,hst0⟩
   case round=>
    clear hst0 n0 n1 n2 n3 n4 hbox hbl hsz;obtain⟨wq,rfl⟩:∃x,x=wr:=⟨_,rfl⟩;obtain⟨k,hk,rfl,HS⟩:=hrel;have hbox:=HS.out.box;have hsz:=HS.out.lt;have hc3:w0.cell? ⟨bm,off+3,none⟩=some (.slice m.A m.reads.length m.c):=HM.out.c 3 _ rfl;by_cases hkl:k<m.reads.length
    .have hrk:m.reads[k]?=some m.reads[k]:=ba hkl;have hrm:=By hkl;obtain⟨br,hA,_,hbrW,hbrf⟩:=lf HM.out.own.rd (fun e=>by rw[e]at hkl;exact arL _ hkl);have hbrB:br<B:=HM.out.lt br (by unfold aL.bs;simp[hA,aH]);have hcr:w0.cell? ⟨br,k*2+1,none⟩=some (.slice m.reads[k].A m.reads[k].addr.length m.reads[k].c):=kg uu HM.out.own.rd hA hrk rfl;have hbk:dS m.A=br:=by rw[hA];rfl
     have hsp:=qC (gJ (pu tl) (av tl) m.A) (ue hrk);have hup:=DN (gJ (pu tl) (av tl) m.A) (ue hrk);have hrd:gJ (pu tl) (av tl) m.A (m.reads[k],k)=[(⟨br,k*2,m.reads[k].var,tl.getD m.reads[k].var.toNat 0⟩:cq)]++bO (av tl) m.reads[k].A m.reads[k].addr:=by unfold gJ;rw[hbk];rfl
     obtain⟨e1,e2,e3⟩:=vU (av tl) (HM.out.own.ig _ hrm);obtain⟨hvx,hvy⟩:=HV.out _ hrm;have hal:m.reads[k].addr.length<=4000:=(HF.out.ig m.reads[k].d (AI hrm)).1;obtain⟨rest,P1⟩:∃rest,f8 w0 B n b' ((d++(m.reads.zipIdx.take k).flatMap (gJ (pu tl) (av tl) m.A))++([(⟨br,k*2,m.reads[k].var,tl.getD m.reads[k].var.toNat 0⟩:cq)]++(bO (av tl) m.reads[k].A m.reads[k].addr++rest))):=by refine⟨(m.reads.zipIdx.drop (k+1)).flatMap (gJ (pu tl) (av tl) m.A)++(m.writes.zipIdx.flatMap (kJ (av tl) m.A2)++r),?_⟩;have:=HP.out;unfold dn at this;rw[hsp,hrd]at this;simpa only[bB]using this
     have P2:f8 w0 B n b' (((d++(m.reads.zipIdx.take k).flatMap (gJ (pu tl) (av tl) m.A))++[(⟨br,k*2,m.reads[k].var,tl.getD m.reads[k].var.toNat 0⟩:cq)])++(bO (av tl) m.reads[k].A m.reads[k].addr++rest)):=by simpa only[bB]using P1
     have hc3q:wq.cell? ⟨bm,off+3,none⟩=some (.slice (some ⟨br,0,none⟩) m.reads.length m.c):=by rw[<-hA];exact oI P1 HS.out HM.out.bm rfl hc3
     have hpl:∀p∈d++(m.reads.zipIdx.take k).flatMap (gJ (pu tl) (av tl) m.A),p.b<B:=fun p hp=>(P1.at_ p (AC _ hp)).2.2.2.2;rw[hA]at hc3;have C1:Hid (∀(W':World) (q':Nat) (ad:Addr),q'=wq.heap.size->W'=(wq.alloc (Obj.cells #[Value.pointer (some ad)] 224)).drew->ad=⟨br,k*2,none⟩->Calls Tryz.prog 151 #[.agg #[.slice (some ⟨b',off',none⟩) n c'],.slice (some ⟨q',0,none⟩) 1 1] W'
       fun e w'=>e=.returned (.tuple #[])/\gk w0 B W.heap.size (.slice (some ⟨b',off',none⟩) n c') ((d++(m.reads.zipIdx.take k).flatMap (gJ (pu tl) (av tl) m.A))++[(⟨br,k*2,m.reads[k].var,tl.getD m.reads[k].var.toNat 0⟩:cq)]) w'):=by
      intro W' q' ad h1 h2 h3;subst h1 h2 h3;exact alK P1 hB (HS.out.alloc _).drew HR.out hn hvx rfl ((bg.new wq 224 #[Value.pointer (some ⟨br,k*2,none⟩)]).cell 0)
     have C2:Hid (∀(w1 W':World) (q':Nat),gk w0 B W.heap.size (.slice (some ⟨b',off',none⟩) n c') ((d++(m.reads.zipIdx.take k).flatMap (gJ (pu tl) (av tl) m.A))++[(⟨br,k*2,m.reads[k].var,tl.getD m.reads[k].var.toNat 0⟩:cq)]) w1->q'=w1.heap.size->W'=(w1.alloc (Obj.cells #[Value.slice m.reads[k].A m.reads[k].addr.length m.reads[k].c] 22)).drew ->
       Calls Tryz.prog 153 #[.agg #[.slice (some ⟨b',off',none⟩) n c'],.slice (some ⟨q',0,none⟩) 1 1] W' fun e w'=>e=.returned (.tuple #[])/\Hid (gk w0 B W.heap.size (.slice (some ⟨b',off',none⟩) n c') (d++(m.reads.zipIdx.take (k+1)).flatMap (gJ (pu tl) (av tl) m.A)) w')):=by
      intro w1 W' q' hs1 h1 h2;subst h1 h2;have:=Yl (r:=rest) (ls:=[⟨m.reads[k].A.map Addr.block,m.reads[k].c,m.reads[k].addr⟩]) (c:=c') (k:=1) (q:=w1.heap.size) (by rw[AT,arZ,d6,e1];exact P2) hB (hs1.alloc (Obj.cells #[Value.slice m.reads[k].A m.reads[k].addr.length m.reads[k].c] 22)).drew HR.out HT.out hn
       (fun l hl=>by obtain rfl:=NE.1 hl;exact⟨by show m.reads[k].addr.length<=_;omega,e3,hvy⟩) atQ rfl (by rw[arI,asG,e2];exact vC w1 [_] _ (by simp[Value.oneCell']))
      refine this.mono ?_;rintro e w' ⟨rfl,h⟩;refine⟨rfl,Lib.hid ?_⟩;rw[AT,arZ,d6,e1,bB,bB,<-hrd,<-hup]at h;exact h
     have C3:Hid (∀w1,gk w0 B W.heap.size (.slice (some ⟨b',off',none⟩) n c') ((d++(m.reads.zipIdx.take k).flatMap (gJ (pu tl) (av tl) m.A))++[(⟨br,k*2,m.reads[k].var,tl.getD m.reads[k].var.toNat 0⟩:cq)]) w1->w1.cell? ⟨bm,off+3,none⟩=some (.slice (some ⟨br,0,none⟩) m.reads.length m.c)/\w1.cell? ⟨br,k*2+1,none⟩=some (.slice m.reads[k].A m.reads[k].addr.length m.reads[k].c)):=fun w1 h=>⟨oI P2 h HM.out.bm rfl hc3,oI P2 h hbrB rfl hcr⟩;have P3:∃rest,f8 w0 B n b' ((d++(m.reads.zipIdx.take (k+1)).flatMap (gJ (pu tl) (av tl) m.A))++rest):=⟨rest,by rw[hup,hrd];simpa only[bB]using P1⟩;have C4:Hid (∀w1,Hid (gk w0 B W.heap.size (.slice (some ⟨b',off',none⟩) n c') (d++(m.reads.zipIdx.take (k+1)).flatMap (gJ (pu tl) (av tl) m.A)) w1)->w1.cell? ⟨bm,off+3,none⟩=some (.slice (some ⟨br,0,none⟩) m.reads.length m.c)):=fun w1 h=>by obtain⟨rest,P3⟩:=P3;exact oI P3 h.out HM.out.bm rfl hc3
     have C5:Hid (∀w1,Hid (gk w0 B W.heap.size (.slice (some ⟨b',off',none⟩) n c') (d++(m.reads.zipIdx.take (k+1)).flatMap (gJ (pu tl) (av tl) m.A)) w1)->w1.cell? ⟨br,k*2+1,none⟩=some (.slice m.reads[k].A m.reads[k].addr.length m.reads[k].c)):=fun w1 h=>by obtain⟨rest,P3⟩:=P3;exact oI P3 h.out hbrB rfl hcr
     clear P3;clear hc3 hcr hsp hup hrd e1 e2 e3 hvx hvy P1 P2 hpl hrk hrm hA hbk hbrf;generalize m.reads[k].A=Ar at *
     generalize m.reads[k].addr=ar at *
     generalize m.reads[k].c=cr at *
     generalize m.reads[k].var=vr at *
     go_wp2_with fail
     go_region_held3 (fun w'=>w'.cell? ⟨W.heap.size,0,none⟩=some (.slice (some ⟨b',off',none⟩) n c')/\w'.cell? ⟨bm,off+3,none⟩=some (.slice (some ⟨br,0,none⟩) m.reads.length m.c)) (first|assumption|(refine⟨?_,?_⟩<;>assumption)|exact⟨(World.cell?_alloc_lt _ _ ⟨W.heap.size,0,none⟩ hsz).trans hbox,(World.cell?_alloc_lt _ _ ⟨bm,off+3,none⟩ (by show bm<_;omega)).trans hc3q⟩)
      (first|(go_at_call 151;refine(C1.out _ _ _ rfl rfl rfl).mono ?_;rintro e w1 ⟨rfl,hst1⟩;have hx1:=hst1.box;have hx2:=(C3.out _ hst1).1;have hx3:=(C3.out _ hst1).2))
     have hl1:=hst1.lt
     go_wp2_with fail
     go_region_held3 (fun w'=>w'.cell? ⟨W.heap.size,0,none⟩=some (.slice (some ⟨b',off',none⟩) n c')/\w'.cell? ⟨bm,off+3,none⟩=some (.slice (some ⟨br,0,none⟩) m.reads.length m.c)/\w'.cell? ⟨br,k*2+1,none⟩=some (.slice Ar ar.length cr)) (first|assumption|(refine⟨?_,?_,?_⟩<;>assumption)|exact⟨(World.cell?_alloc_lt _ _ ⟨W.heap.size,0,none⟩ hl1).trans hx1,(World.cell?_alloc_lt _ _ ⟨bm,off+3,none⟩ (by show bm<_;omega)).trans hx2,(World.cell?_alloc_lt _ _ ⟨br,k*2+1,none⟩ (by show br<_;omega)).trans hx3⟩)
      (first|(go_at_call 153;refine(C2.out w1 _ _ hst1 rfl rfl).mono ?_;rintro e w2 ⟨rfl,hst2⟩;have hy1:=hst2.out.box;have hy2:=C4.out _ hst2;have hy3:=C5.out _ hst2))
     go_wp2_with fail
     go_roundw
     case rel=>exact⟨k+1,atO,by go_num,hst2⟩
     case measure=>simp[intOf];omega
    .obtain rfl:k=m.reads.length:=atO
     have htk:m.reads.zipIdx.take m.reads.length=m.reads.zipIdx:=by rw[<-List.length_zipIdx (l:=m.reads) (i:=0),eX]
     have hs0:Hid (gk w0 B W.heap.size (.slice (some ⟨b',off',none⟩) n c') ((d++m.reads.zipIdx.flatMap (gJ (pu tl) (av tl) m.A))++(m.writes.zipIdx.take 0).flatMap (kJ (av tl) m.A2)) wq):=by have:=HS.out;rw[htk]at this;rw[arR,arZ,d6];exact this
     have PD:∃rest,f8 w0 B n b' ((d++m.reads.zipIdx.flatMap (gJ (pu tl) (av tl) m.A))++rest):=⟨m.writes.zipIdx.flatMap (kJ (av tl) m.A2)++r,by have:=HP.out;unfold dn at this;simpa only[bB]using this⟩;have hc4:w0.cell? ⟨bm,off+4,none⟩=some (.slice m.A2 m.writes.length m.c2):=HM.out.c 4 _ rfl;have hc4q:wq.cell? ⟨bm,off+4,none⟩=some (.slice m.A2 m.writes.length m.c2):=by obtain⟨rest,PD⟩:=PD;have hs:=hs0.out;rw[arR,arZ,d6]at hs;exact oI PD hs HM.out.bm rfl hc4
     clear htk PD HS hc3 hc4 hkl hk
     go_wp2_with fail
     go_loopw [90] (fun i wz=>∃k:Nat,k<=m.writes.length/\i=.int .i64 k/\Hid (gk w0 B W.heap.size (.slice (some ⟨b',off',none⟩) n c') ((d++m.reads.zipIdx.flatMap (gJ (pu tl) (av tl) m.A))++(m.writes.zipIdx.take k).flatMap (kJ (av tl) m.A2)) wz)) (fun i _=>m.writes.length-(intOf i).toNat)
     case atStart=>exact⟨0,GT _,rfl,hs0⟩
     case round=>
      clear hs0 hc4q hbox hsz;obtain⟨wz,rfl⟩:∃x,x=wr:=⟨_,rfl⟩;obtain⟨k,hk,rfl,HS⟩:=hrel;have hbox:=HS.out.box;have hsz:=HS.out.lt;have hc4:w0.cell? ⟨bm,off+4,none⟩=some (.slice m.A2 m.writes.length m.c2):=HM.out.c 4 _ rfl;by_cases hkl:k<m.writes.length
      .have hrk:m.writes[k]?=some m.writes[k]:=ba hkl;have hrm:=By hkl;obtain⟨bw,hA,_,hbwW,hbwf⟩:=lf HM.out.own.wr (fun e=>by rw[e]at hkl;exact arL _ hkl);have hbwB:bw<B:=HM.out.lt bw (by unfold aL.bs;simp[hA,aH]);have hca:w0.cell? ⟨bw,k*3+1,none⟩=some (.slice m.writes[k].A m.writes[k].addr.length m.writes[k].c):=kg pP HM.out.own.wr hA hrk rfl;have hcd:w0.cell? ⟨bw,k*3+2,none⟩=some (.slice m.writes[k].A2 m.writes[k].data.length m.writes[k].c2):=kg pP HM.out.own.wr hA hrk rfl;have hbk:dS m.A2=bw:=by rw[hA];rfl
       have hsp:=qC (kJ (av tl) m.A2) (ue hrk);have hup:=DN (kJ (av tl) m.A2) (ue hrk);have hrd:kJ (av tl) m.A2 (m.writes[k],k)=[(⟨bw,k*3,m.writes[k].on,av tl m.writes[k].on⟩:cq)]++(bO (av tl) m.writes[k].A m.writes[k].addr++bO (av tl) m.writes[k].A2 m.writes[k].data):=by unfold kJ;rw[hbk];rfl
       obtain⟨e1,e2,e3⟩:=vU (av tl) (HM.out.own.iX _ hrm).1;obtain⟨f1,f2,f3⟩:=vU (av tl) (HM.out.own.iX _ hrm).2;obtain⟨hvo,hvy,hvz⟩:=HW.out _ hrm;have hln:=HF.out.iX m.writes[k].d (AI hrm);have hal:m.writes[k].addr.length<=4000:=hln.1;have hdl:m.writes[k].data.length<=4000:=hln.2.1;obtain⟨rest,P1⟩:∃rest,f8 w0 B n b' (((d++m.reads.zipIdx.flatMap (gJ (pu tl) (av tl) m.A))++(m.writes.zipIdx.take k).flatMap (kJ (av tl) m.A2))++([(⟨bw,k*3,m.writes[k].on,av tl m.writes[k].on⟩:cq)]++((bO (av tl) m.writes[k].A m.writes[k].addr++bO (av tl) m.writes[k].A2 m.writes[k].data)++rest))):=by refine⟨(m.writes.zipIdx.drop (k+1)).flatMap (kJ (av tl) m.A2)++r,?_⟩;have:=HP.out;unfold dn at this;rw[hsp,hrd]at this;simpa only[bB]using this
       have P2:f8 w0 B n b' ((((d++m.reads.zipIdx.flatMap (gJ (pu tl) (av tl) m.A))++(m.writes.zipIdx.take k).flatMap (kJ (av tl) m.A2))++[(⟨bw,k*3,m.writes[k].on,av tl m.writes[k].on⟩:cq)])++((bO (av tl) m.writes[k].A m.writes[k].addr++bO (av tl) m.writes[k].A2 m.writes[k].data)++rest)):=by simpa only[bB]using P1
       have hc4q:wz.cell? ⟨bm,off+4,none⟩=some (.slice (some ⟨bw,0,none⟩) m.writes.length m.c2):=by rw[<-hA];exact oI P1 HS.out HM.out.bm rfl hc4
       rw[hA]at hc4;have C1:Hid (∀(W':World) (q':Nat) (ad:Addr),q'=wz.heap.size->W'=(wz.alloc (Obj.cells #[Value.pointer (some ad)] 224)).drew->ad=⟨bw,k*3,none⟩->Calls Tryz.prog 152 #[.agg #[.slice (some ⟨b',off',none⟩) n c'],.slice (some ⟨q',0,none⟩) 1 1] W'
         fun e w'=>e=.returned (.tuple #[])/\gk w0 B W.heap.size (.slice (some ⟨b',off',none⟩) n c') (((d++m.reads.zipIdx.flatMap (gJ (pu tl) (av tl) m.A))++(m.writes.zipIdx.take k).flatMap (kJ (av tl) m.A2))++[(⟨bw,k*3,m.writes[k].on,av tl m.writes[k].on⟩:cq)]) w'):=by
        intro W' q' ad h1 h2 h3;subst h1 h2 h3;exact akG P1 hB (HS.out.alloc _).drew HR.out HT.out hn (fun p hp=>by obtain rfl:=NE.1 hp;exact⟨hvo,rfl⟩) atQ rfl (vC wz [_] _ (by simp[Value.oneCell']))
       have C2:Hid (∀(w1 W':World) (q':Nat),gk w0 B W.heap.size (.slice (some ⟨b',off',none⟩) n c') (((d++m.reads.zipIdx.flatMap (gJ (pu tl) (av tl) m.A))++(m.writes.zipIdx.take k).flatMap (kJ (av tl) m.A2))++[(⟨bw,k*3,m.writes[k].on,av tl m.writes[k].on⟩:cq)]) w1->q'=w1.heap.size->W'=(w1.alloc (Obj.cells #[Value.slice m.writes[k].A m.writes[k].addr.length m.writes[k].c,Value.slice m.writes[k].A2 m.writes[k].data.length m.writes[k].c2] 22)).drew ->
         Calls Tryz.prog 153 #[.agg #[.slice (some ⟨b',off',none⟩) n c'],.slice (some ⟨q',0,none⟩) 2 2] W' fun e w'=>e=.returned (.tuple #[])/\Hid (gk w0 B W.heap.size (.slice (some ⟨b',off',none⟩) n c') ((d++m.reads.zipIdx.flatMap (gJ (pu tl) (av tl) m.A))++(m.writes.zipIdx.take (k+1)).flatMap (kJ (av tl) m.A2)) w')):=by
        intro w1 W' q' hs1 h1 h2;subst h1 h2;have:=Yl (r:=rest) (ls:=[⟨m.writes[k].A.map Addr.block,m.writes[k].c,m.writes[k].addr⟩,⟨m.writes[k].A2.map Addr.block,m.writes[k].c2,m.writes[k].data⟩]) (c:=c') (k:=2) (q:=w1.heap.size) (by rw[AT,AT,arZ,d6,e1,f1];exact P2) hB (hs1.alloc (Obj.cells #[Value.slice m.writes[k].A m.writes[k].addr.length m.writes[k].c,Value.slice m.writes[k].A2 m.writes[k].data.length m.writes[k].c2] 22)).drew HR.out HT.out hn
         (fun l hl=>by
          rcases GE.1 hl with rfl|hl
          .exact⟨by show m.writes[k].addr.length<=_;omega,e3,hvy⟩
          .obtain rfl:=NE.1 hl;exact⟨by show m.writes[k].data.length<=_;omega,f3,hvz⟩) atQ rfl (by rw[arI,arI,asG,e2,f2];exact vC w1 [_,_] _ (by simp[Value.oneCell']))
        refine this.mono ?_;rintro e w' ⟨rfl,h⟩;refine⟨rfl,Lib.hid ?_⟩;rw[AT,AT,arZ,d6,e1,f1,bB _ [(⟨bw,k*3,m.writes[k].on,av tl m.writes[k].on⟩:cq)],<-hrd,bB,<-hup]at h;exact h
       have C3:Hid (∀w1,gk w0 B W.heap.size (.slice (some ⟨b',off',none⟩) n c') (((d++m.reads.zipIdx.flatMap (gJ (pu tl) (av tl) m.A))++(m.writes.zipIdx.take k).flatMap (kJ (av tl) m.A2))++[(⟨bw,k*3,m.writes[k].on,av tl m.writes[k].on⟩:cq)]) w1->w1.cell? ⟨bw,k*3+1,none⟩=some (.slice m.writes[k].A m.writes[k].addr.length m.writes[k].c)/\w1.cell? ⟨bw,k*3+2,none⟩=some (.slice m.writes[k].A2 m.writes[k].data.length m.writes[k].c2)):=fun w1 h=>⟨oI P2 h hbwB rfl hca,oI P2 h hbwB rfl hcd⟩;have P3:∃rest,f8 w0 B n b' (((d++m.reads.zipIdx.flatMap (gJ (pu tl) (av tl) m.A))++(m.writes.zipIdx.take (k+1)).flatMap (kJ (av tl) m.A2))++rest):=⟨rest,by rw[hup,hrd];simpa only[bB]using P1⟩;have C4:Hid (∀w1,Hid (gk w0 B W.heap.size (.slice (some ⟨b',off',none⟩) n c') ((d++m.reads.zipIdx.flatMap (gJ (pu tl) (av tl) m.A))++(m.writes.zipIdx.take (k+1)).flatMap (kJ (av tl) m.A2)) w1)->w1.cell? ⟨bw,k*3+1,none⟩=some (.slice m.writes[k].A m.writes[k].addr.length m.writes[k].c)/\w1.cell? ⟨bw,k*3+2,none⟩=some (.slice m.writes[k].A2 m.writes[k].data.length m.writes[k].c2)):=fun w1 h=>by obtain⟨rest,P3⟩:=P3;exact⟨oI P3 h.out hbwB rfl hca,oI P3 h.out hbwB rfl hcd⟩
       clear P3;clear hc4 hca hcd hsp hup hrd e1 e2 e3 f1 f2 f3 hvo hvy hvz P1 P2 hrk hrm hA hbk hbwf hln;generalize m.writes[k].A=Aa at *
       generalize m.writes[k].addr=la at *
       generalize m.writes[k].c=ca at *
       generalize m.writes[k].A2=Ad at *
       generalize m.writes[k].data=ld at *
       generalize m.writes[k].c2=cd at *
       generalize m.writes[k].on=vo at *
       go_wp2_with fail
       go_region_held3 (fun w'=>w'.cell? ⟨W.heap.size,0,none⟩=some (.slice (some ⟨b',off',none⟩) n c')) (first|assumption|exact(World.cell?_alloc_lt _ _ ⟨W.heap.size,0,none⟩ hsz).trans hbox)
        (first|(go_at_call 152;refine(C1.out _ _ _ rfl rfl rfl).mono ?_;rintro e w1 ⟨rfl,hst1⟩;have hx1:=hst1.box;have hx2:=(C3.out _ hst1).1;have hx3:=(C3.out _ hst1).2))
       have hl1:=hst1.lt
       go_wp2_with fail
       go_region_held3 (fun w'=>w'.cell? ⟨W.heap.size,0,none⟩=some (.slice (some ⟨b',off',none⟩) n c')/\w'.cell? ⟨bw,k*3+1,none⟩=some (.slice Aa la.length ca)/\w'.cell? ⟨bw,k*3+2,none⟩=some (.slice Ad ld.length cd)) (first|assumption|(refine⟨?_,?_,?_⟩<;>assumption)|exact⟨(World.cell?_alloc_lt _ _ ⟨W.heap.size,0,none⟩ hl1).trans hx1,(World.cell?_alloc_lt _ _ ⟨bw,k*3+1,none⟩ (by show bw<_;omega)).trans hx2,(World.cell?_alloc_lt _ _ ⟨bw,k*3+2,none⟩ (by show bw<_;omega)).trans hx3⟩)
        (first|(go_at_call 153;refine(C2.out w1 _ _ hst1 rfl rfl).mono ?_;rintro e w2 ⟨rfl,hst2⟩;have hy1:=hst2.out.box;have hy2:=(C4.out _ hst2).1;have hy3:=(C4.out _ hst2).2))
       go_wp2_with fail
       go_roundw
       case rel=>exact⟨k+1,atO,by go_num,hst2⟩
       case measure=>simp[intOf];omega
      .obtain rfl:k=m.writes.length:=atO
       have htk:m.writes.zipIdx.take m.writes.length=m.writes.zipIdx:=by rw[<-List.length_zipIdx (l:=m.writes) (i:=0),eX]
       have HZ:Hid (Below B (cg id w0 (cN (d++dn (pu tl) (av tl) m))) wz):=by have:=HS.out.low;rw[htk,bB]at this;exact this
       clear htk HS
       go_wp2_with fail
       go_ret
       exact⟨rfl,HZ.out⟩
theorem agO{P:Program}{fn:Func}{p u:Tmp}{ty:TypeId}(h:fn.results=#[.cell p ty,.tmp u])(tmps:Array Value)(w:World)(g:Nat)(t:TypeId)(cs:Array Value)(fr:Nat×Nat)(d:TypeDesc)
  (hp:tmps.getD p undef=.pointer (some ⟨g,0,none⟩)) (hg:w.heap[g]?=some (.cells cs t fr))
  (hu:P.underlying ty=some d) (hd:(match d with|.struct _|.array _ _=>true|_=>false)=true) (hi:(P.info? ty).map (·.size)=some cs.size) :
  (results fn tmps).run P w=.ok (.tuple #[.agg cs,tmps.getD u undef]) w:=by
 have hp':tmps[p]?.getD undef=.pointer (some ⟨g,0,none⟩):=by simpa using hp
 simp[results,h,hp',asAddr,run_loadVar_row w g t ty cs fr d hg hu hd hi]
variable{N:aT}{w:World}
theorem qc{g:Nat}{t:TypeId}(h:bg w g t N.fs):w.cell? ⟨g,0,none⟩=some (.int .i64 N.vars)/\w.cell? ⟨g,1,none⟩=some (.slice N.Ai N.al.length N.ci)/\w.cell? ⟨g,2,none⟩=some (.slice N.Al N.ag.length N.cl)/\w.cell? ⟨g,3,none⟩=some (.slice N.Ao N.aZ.length N.co) /\
  w.cell? ⟨g,4,none⟩=some (.slice N.Ab N.aN.length N.cb)/\w.cell? ⟨g,5,none⟩=some (.slice N.Ac N.constraints.length N.cc)/\w.cell? ⟨g,6,none⟩=some (.slice N.Am N.ae.length N.cm)/\w.cell? ⟨g,7,none⟩=some (.slice N.An N.aj.length N.cn):=
 ⟨h.cell 0,h.cell 1,h.cell 2,h.cell 3,h.cell 4,h.cell 5,h.cell 6,h.cell 7⟩
theorem aik{B0 j:Nat}{M:aT}(hMO:M.own w0 B0)(hP:f8 w0 w0.heap.size n b' (jg (pu tl) (av tl) M))(hF:Fit M.d)(hnum:vW n M.d)(hmo:∀m∈M.d.ae,yK tl m)
  (hR:Reads w0 w0.heap.size 1 (some ⟨b',off',none⟩) n (tl.map (Value.int .i64))) (ef:∀y∈tl,0<=y/\y<=1000000) (hn:n<=1048576) (hm:M.ae[j]?=some m) (hA:M.Am=some ⟨bm,0,none⟩) (hb:Below w0.heap.size (cg id w0 (cN ((M.ae.take j).flatMap (dn (pu tl) (av tl))))) W) :
  Calls Tryz.prog 150 #[.agg #[.slice (some ⟨b',off',none⟩) n c'],.pointer (some ⟨bm,j*5,none⟩)] W fun e w'=>e=.returned (.bool true)/\Below w0.heap.size (cg id w0 (cN ((M.ae.take (j+1)).flatMap (dn (pu tl) (av tl))))) w':=by
 have hmm:=dy hm;have hmd:m.d∈M.d.ae:=AI hmm;have hup:=DN (dn (pu tl) (av tl)) hm;have hsp:=qC (dn (pu tl) (av tl)) hm;have hown:=hMO.kZ m hmm;have hbsm:∀b∈m.bs,b∈M.ae.flatMap aL.bs:=fun b q=>rg.2 ⟨m,hmm,q⟩;have hnd:=hMO.nd;unfold aT.bs at hnd;have hbm0:bm∈M.fH:=by unfold aT.fH;simp[hA,aH]
 have hbs:=qC aL.bs hm;have hn2:=(rx.1 hnd).2.1;rw[hbs]at hn2;have bz:∀p∈(M.ae.take j).flatMap (dn (pu tl) (av tl)),p.b∈(M.ae.take j).flatMap aL.bs:=by intro p hp;obtain⟨x,hx,hp⟩:=rg.1 hp;have hxm:=ash hx;obtain⟨i,hi,e⟩:=arO hxm;have hs:=qC aL.bs (ba hi);have hn3:=(rx.1 hnd).2.1;rw[hs,e]at hn3;exact rg.2 ⟨x,hx,((Eh (pu tl) (av tl) (hMO.kZ x hxm) (rx.1 (rx.1 hn3).2.1).1).at_ p hp).2.2⟩
 have hmin:∀p∈dn (pu tl) (av tl) m,p.b∈m.bs:=fun p hp=>((Eh (pu tl) (av tl) hown (rx.1 (rx.1 hn2).2.1).1).at_ p hp).2.2;have hP1:f8 w0 w0.heap.size n b' ((M.ae.take j).flatMap (dn (pu tl) (av tl))++(dn (pu tl) (av tl) m++((M.ae.drop (j+1)).flatMap (dn (pu tl) (av tl))++(bO (pu tl) M.Ai M.al++(M.ag.zipIdx.flatMap (fq (pu tl) (av tl) M.Al)++((bO (av tl) M.Ao M.aZ++(bO (av tl) M.Ab M.aN++bO (av tl) M.Ac M.constraints))++M.aj.zipIdx.flatMap (ir (pu tl) (av tl) M.An))))))):=by unfold jg at hP;rw[hsp]at hP;simpa only[bB]using hP
 have hMA:uh w0 w0.heap.size bm (j*5) m:=⟨fun k u hu=>kg oK hMO.mem hA hm hu,aL.dq hown fun b q=>⟨rfl,GT _⟩,fun b q=>hMO.lt b (EQ _ (hbsm b q)),hMO.lt bm (AC _ hbm0)⟩;have:=ail (c':=c') hP1 rfl hb hR ef hn hMA (hF.ae.2 _ hmd) (fun u hu=>by
  obtain⟨p,hp,rfl⟩:=ro.1 hu;have hpb:=bz p hp;refine⟨fun q=>?_,fun e=>?_⟩
  .exact(rx.1 hn2).2.2 _ hpb _ (AC _ q) rfl
  .have hpa:p.b∈M.ae.flatMap aL.bs:=by rw[hbs];exact AC _ hpb
   exact(rx.1 hnd).2.2 bm hbm0 _ hpa e.symm) (fun p hp e=>(rx.1 hnd).2.2 bm hbm0 _ (hbsm _ (hmin p hp)) e.symm) (hmo _ hmd)
  (fun x hx=>by have:=hnum.ig _ hmd x.d (AI hx);exact⟨this.2.1,fun y hy=>(this.2.2 y hy).2⟩) (fun x hx=>by have:=hnum.iX _ hmd x.d (AI hx);exact⟨this.2.1,fun y hy=>(this.2.2.1 y hy).2,fun y hy=>(this.2.2.2 y hy).2⟩)
 refine this.mono ?_;rintro e w' ⟨rfl,h⟩;exact⟨rfl,by rw[hup];exact h⟩
theorem aim(hN:N.cY w w.heap.size)(hF:Fit N.d)(hR:Reads w w.heap.size 1 (some ⟨b',off',none⟩) n (tl.map (Value.int .i64)))
  (ef:∀y∈tl,0<=y/\y<=1000000) (hn:n<=1048576) (hn0:0<n) (hvars:N.vars+1=(n:Int)) (hnum:vW n N.d) (hmo:∀m∈N.d.ae,yK tl m)
  (hC:∀w',Below w.heap.size w w'->Calls Tryz.prog 38 #[N.v] w' fun e w2=>e=.returned (.int .i64 0)/\Below w'.heap.size w' w2)
  (hI:∀w',Below w.heap.size w w'->Calls Tryz.prog 149 #[.slice (some ⟨b',off',none⟩) n c'] w' fun e w2=>∃v,e=.returned (.tuple #[v,.bool true])/\Below w'.heap.size w' w2) :
  Calls Tryz.prog 112 #[N.v,.slice (some ⟨b',off',none⟩) n c'] w fun e w'=>∃(M:aT) (w0:World),M.d=N.d/\e=.returned (.tuple #[M.v,.int .i64 0])/\Below w.heap.size w w0/\M.own w0 w.heap.size/\(∀b∈M.bs,w.heap.size+2<=b)/\(cg id w0 (cN (jg (pu tl) (av tl) M))).grownBy w' (some (w.heap.size+1)):=by
 have hv:N.v=.agg #[.int .i64 N.vars,.slice N.Ai N.al.length N.ci,.slice N.Al N.ag.length N.cl,.slice N.Ao N.aZ.length N.co,.slice N.Ab N.aN.length N.cb,.slice N.Ac N.constraints.length N.cc,.slice N.Am N.ae.length N.cm,.slice N.An N.aj.length N.cn]:=rfl;have HC:=Lib.hid hC;have HI:=Lib.hid hI;have HCl:Hid (∀w',Below w.heap.size w w'->Calls Tryz.prog 41 #[N.v] w' fun e w2=>∃M:aT,M.d=N.d/\e=.returned M.v/\Below w'.heap.size w' w2/\M.own w2 w'.heap.size):=fun w' hb=>XE w' N w.heap.size (hN.below hb) hb.size hF;have HN:=Lib.hid hN;have HF:=Lib.hid hF;have HR:=Lib.hid hR;have HT:=Lib.hid ef;have HV:=Lib.hid hvars;have HNum:=Lib.hid hnum;have HMo:=Lib.hid hmo;rw[hv]at HC HCl |-;clear hC hI hN hF hR ef hvars hv hnum hmo
 go_enter Tryz.func112,Tryz.ntmps112
 go_wp2_with fail
 have hbA:Below w.heap.size w ((w.alloc (Obj.cells N.fs 27)).alloc (Obj.cells lG 27)):=((Below.refl _ w).alloc (rt _) _).alloc atQ _;have kb:bg ((w.alloc (Obj.cells N.fs 27)).alloc (Obj.cells lG 27)) w.heap.size 27 N.fs:=(bg.new w _ _).alloc _;have kz:bg ((w.alloc (Obj.cells N.fs 27)).alloc (Obj.cells lG 27)) (w.heap.size+1) 27 lG:=by
  have e:(w.alloc (Obj.cells N.fs 27)).heap.size=w.heap.size+1:=atQ
  rw[<-e];exact bg.new _ _ _
 have ks:((w.alloc (Obj.cells N.fs 27)).alloc (Obj.cells lG 27)).heap.size=w.heap.size+1+1:=atQ
 simp only[aT.fs,lG]at hbA kb kz ks;generalize (w.alloc (Obj.cells #[Value.int IntKind.i64 N.vars,Value.slice N.Ai N.al.length N.ci,Value.slice N.Al N.ag.length N.cl,Value.slice N.Ao N.aZ.length N.co,Value.slice N.Ab N.aN.length N.cb,Value.slice N.Ac N.constraints.length N.cc,Value.slice N.Am N.ae.length N.cm,Value.slice N.An N.aj.length N.cn] 27)).alloc (Obj.cells #[Value.int IntKind.i64 0,Value.slice none 0 0,Value.slice none 0 0,Value.slice none 0 0,Value.slice none 0 0,Value.slice none 0 0,Value.slice none 0 0,Value.slice none 0 0] 27)=WA at *
 refine(HC.out WA hbA).mono ?_;rintro e w1 ⟨rfl,hb1⟩;have hbw1:Below w.heap.size w w1:=hbA.trans (hb1.mono hbA.size);have s1:=hb1.size;have K1:=Lib.hid (kb.below hb1 atO);have Z1:=Lib.hid (kz.below hb1 atO);have HB1:=Lib.hid hbw1;have hw1:w.heap.size+2<=w1.heap.size:=atO
 clear hbA kb kz hb1 s1 ks hbw1 HC;have hv1:=HV.out;have hwv:wrap64 (N.vars+1)=(n:Int):=by rw[hv1];exact IntWalk.wrap64_in (n:Int) ⟨atO,atO⟩
 go_wp2_with (refine(HI.out w1 HB1.out).mono ?_;rintro e w2 ⟨iv,rfl,hb2⟩;have HB2:=Lib.hid hb2;have hx0:=(hb2.cell (p:=⟨w.heap.size,0,none⟩) (by show w.heap.size<_;omega)).trans (qc K1.out).1;have hx1:=(hb2.cell (p:=⟨w.heap.size,1,none⟩) (by show w.heap.size<_;omega)).trans (qc K1.out).2.1;have hx2:=(hb2.cell (p:=⟨w.heap.size,2,none⟩) (by show w.heap.size<_;omega)).trans (qc K1.out).2.2.1;have hx3:=(hb2.cell (p:=⟨w.heap.size,3,none⟩) (by show w.heap.size<_;omega)).trans (qc K1.out).2.2.2.1;have hx4:=(hb2.cell (p:=⟨w.heap.size,4,none⟩) (by show w.heap.size<_;omega)).trans (qc K1.out).2.2.2.2.1;have hx5:=(hb2.cell (p:=⟨w.heap.size,5,none⟩) (by show w.heap.size<_;omega)).trans (qc K1.out).2.2.2.2.2.1;have hx6:=(hb2.cell (p:=⟨w.heap.size,6,none⟩) (by show w.heap.size<_;omega)).trans (qc K1.out).2.2.2.2.2.2.1;have hx7:=(hb2.cell (p:=⟨w.heap.size,7,none⟩) (by show w.heap.size<_;omega)).trans (qc K1.out).2.2.2.2.2.2.2)
 have hbw2:Below w.heap.size w w2:=HB1.out.trans (HB2.out.mono atO);have s2:=HB2.out.size;have Z2:=Lib.hid (Z1.out.below HB2.out atO);have H2:=Lib.hid hbw2;refine(HCl.out w2 hbw2).mono ?_;rintro e w3 ⟨M,hMd,he,hb3,hMo⟩;have hMv:M.v=.agg #[.int .i64 M.vars,.slice M.Ai M.al.length M.ci,.slice M.Al M.ag.length M.cl,.slice M.Ao M.aZ.length M.co,.slice M.Ab M.aN.length M.cb,.slice M.Ac M.constraints.length M.cc,.slice M.Am M.ae.length M.cm,.slice M.An M.aj.length M.cn]:=rfl;rw[hMv]at he;subst he;have s3:=hb3.size;have hw3:Below w.heap.size w w3:=hbw2.trans (hb3.mono atO);have Z3:=Lib.hid (Z2.out.below hb3 atO);have HMO:=Lib.hid hMo;have HMD:=Lib.hid hMd;have H3:=Lib.hid hw3;clear hx0 hx1 hx2 hx3 hx4 hx5 hx6 hx7 hb3 hMo hMd hMv hw3 hbw2 HCl HI K1 Z1 Z2 HB1 HB2 H2 hwv hv1;have hbB:b'<w.heap.size:=by obtain⟨ad,e,h,_⟩:=HR.out.2 atO;obtain rfl:=Do e;exact h
 obtain⟨w0,hw0,hB0,k9,k10,kz,ksz⟩:∃w0,w0=(w3.alloc (Obj.cells M.fs 27)).alloc (Obj.cells #[Value.slice (some ⟨b',off',none⟩) n c'] 221)/\Below w3.heap.size w3 w0/\bg w0 w3.heap.size 27 M.fs/\bg w0 (w3.heap.size+1) 221 #[Value.slice (some ⟨b',off',none⟩) n c']/\bg w0 (w.heap.size+1) 27 lG/\w0.heap.size=w3.heap.size+2:=by
  refine⟨_,rfl,((Below.refl _ w3).alloc (rt _) _).alloc atQ _,(bg.new w3 _ _).alloc _,?_,(Z3.out.alloc _).alloc _,atQ⟩;have e:(w3.alloc (Obj.cells M.fs 27)).heap.size=w3.heap.size+1:=atQ
  rw[<-e];exact bg.new _ _ _
 have h30:w3.heap.size<=w0.heap.size:=atO
 have hMO0:M.own w0 w.heap.size:=aT.dq HMO.out (fun b q=>⟨hB0.block b (HMO.out.lt b q),by have:=aT.iY HMO.out b q;omega⟩) h30;have HLO:Hid (∀b∈M.bs,w.heap.size+2<=b/\b<w3.heap.size):=fun b q=>⟨by have:=aT.iY HMO.out b q;omega,HMO.out.lt b q⟩;have hnumM:vW n M.d:=HMD.out.symm▸HNum.out;have HP0:=Lib.hid (ai5 (pu tl) (av tl) hMO0 hbB hnumM (aT.iY hMO0));have hBw0:Below w.heap.size w w0:=H3.out.trans (hB0.mono atO);have HRW:=Lib.hid ((HR.out.below hBw0).more (show w.heap.size<=w0.heap.size by omega));have HFM:Hid (Fit M.d):=HMD.out.symm▸HF.out;have HMoM:Hid (∀m∈M.d.ae,yK tl m):=HMD.out.symm▸HMo.out;have HNumM:=Lib.hid hnumM;have HMO0:=Lib.hid hMO0;have HBw0:=Lib.hid hBw0;have HK9:=Lib.hid k9;have HK10:=Lib.hid k10;have HKz:=Lib.hid kz;have c10:w0.cell? ⟨w3.heap.size+1,0,none⟩=some (.slice (some ⟨b',off',none⟩) n c'):=k10.cell 0;obtain⟨c90,c91,c92,c93,c94,c95,c96,c97⟩:=qc k9;clear hB0 kz hMO0 hnumM hBw0 HMO HMo HNum HF HR Z3 H3 k9 k10
 go_wp2_with fail
 simp only[aT.fs]at hw0;rw[<-hw0];have st0:Hid (Below w0.heap.size (cg id w0 (cN ((M.ae.take 0).flatMap (dn (pu tl) (av tl))))) w0):=Lib.hid (by rw[arR];exact Below.refl _ _)
 go_loopw [46] (fun i wr=>∃j:Nat,j<=M.ae.length/\i=.int .i64 j/\Hid (Below w0.heap.size (cg id w0 (cN ((M.ae.take j).flatMap (dn (pu tl) (av tl))))) wr)) (fun i _=>M.ae.length-(intOf i).toNat)
 case atStart=>exact⟨0,GT _,rfl,st0⟩
 case round=>
  clear st0;obtain⟨j,hj,rfl,HS⟩:=hrel;have PJ:∀j,∃rest,f8 w0 w0.heap.size n b' ((M.ae.take j).flatMap (dn (pu tl) (av tl))++rest):=fun j=>by refine⟨(M.ae.drop j).flatMap (dn (pu tl) (av tl))++(bO (pu tl) M.Ai M.al++(M.ag.zipIdx.flatMap (fq (pu tl) (av tl) M.Al)++((bO (av tl) M.Ao M.aZ++(bO (av tl) M.Ab M.aN++bO (av tl) M.Ac M.constraints))++M.aj.zipIdx.flatMap (ir (pu tl) (av tl) M.An)))),?_⟩;have:=HP0.out;unfold jg at this;rw[<-LT j M.ae,OF,bB]at this;simpa only[LT]using this
  have hsl:Hid (∀j x a A' l c,Below w0.heap.size (cg id w0 (cN ((M.ae.take j).flatMap (dn (pu tl) (av tl))))) x->a.block<w0.heap.size->a.spot=none->w0.cell? a=some (.slice A' l c)->x.cell? a=some (.slice A' l c)):=fun j x a A' l c h h1 h2 h3=>by obtain⟨rest,hp⟩:=PJ j;exact Ng hp h h1 h2 h3
  clear PJ;have d10:=hsl.out j wr _ _ _ _ HS.out (by show w3.heap.size+1<_;omega) rfl c10;have d96:=hsl.out j wr _ _ _ _ HS.out (by show w3.heap.size<_;omega) rfl c96;by_cases hlt:j<M.ae.length
  .have hm:M.ae[j]?=some M.ae[j]:=ba hlt;obtain⟨bm,hA,_,_,_⟩:=lf HMO0.out.mem (fun e=>by rw[e]at hlt;exact arL _ hlt);have C:Hid (∀W',Below w0.heap.size (cg id w0 (cN ((M.ae.take j).flatMap (dn (pu tl) (av tl))))) W'->Calls Tryz.prog 150 #[.agg #[.slice (some ⟨b',off',none⟩) n c'],.pointer (some ⟨bm,j*5,none⟩)] W' fun e w'=>e=.returned (.bool true)/\Below w0.heap.size (cg id w0 (cN ((M.ae.take (j+1)).flatMap (dn (pu tl) (av tl))))) w'):=fun W' h=>aik HMO0.out HP0.out HFM.out HNumM.out HMoM.out HRW.out HT.out hn hm hA h;rw[hA]at d96;have hml:M.ae.length<=100:=by have h:=HFM.out.ae.1;rwa [show M.d.ae.length=M.ae.length from aP _]at h
   have hsd:=HS.out.drew;have HA:=Lib.hid hA;clear hm hA
   go_wp2_with fail
   go_region_held3 (fun w'=>w'.cell? ⟨w3.heap.size+1,0,none⟩=some (.slice (some ⟨b',off',none⟩) n c')/\w'.cell? ⟨w3.heap.size,6,none⟩=some (.slice (some ⟨bm,0,none⟩) M.ae.length M.cm)) (first|assumption|(refine⟨?_,?_⟩<;>assumption))
    (first|(go_at_call 150;refine(C.out _ hsd).mono ?_;rintro e w4 ⟨rfl,h4⟩;have e10:=hsl.out _ _ _ _ _ _ h4 (by show w3.heap.size+1<_;omega) rfl c10;have e96:=(hsl.out _ _ _ _ _ _ h4 (by show w3.heap.size<_;omega) rfl c96).trans (by rw[HA.out])))
   go_wp2_with fail
   go_roundw
   case rel=>exact⟨j+1,atO,by go_num,Lib.hid h4⟩
   case measure=>simp[intOf];omega
  .obtain rfl:j=M.ae.length:=atO
   have st1:Hid (Below w0.heap.size (cg id w0 (cN (M.ae.flatMap (dn (pu tl) (av tl))++(M.al.zipIdx.take 0).flatMap (fS (pu tl) M.Ai)))) wr):=Lib.hid (by have:=HS.out;rw[eX]at this;rw[arR,arZ,d6];exact this);have d91:=hsl.out M.ae.length wr _ _ _ _ HS.out (by show w3.heap.size<_;omega) rfl c91;clear hsl HS;have hL1:jg (pu tl) (av tl) M=M.ae.flatMap (dn (pu tl) (av tl))++(M.al.zipIdx.flatMap (fS (pu tl) M.Ai)++(M.ag.zipIdx.flatMap (fq (pu tl) (av tl) M.Al)++((bO (av tl) M.Ao M.aZ++(bO (av tl) M.Ab M.aN++bO (av tl) M.Ac M.constraints))++M.aj.zipIdx.flatMap (ir (pu tl) (av tl) M.An)))):=by unfold jg;rw[aks]
   have HL1:=Lib.hid hL1;have hsl:Hid (∀j x a A' l c,Below w0.heap.size (cg id w0 (cN (M.ae.flatMap (dn (pu tl) (av tl))++(M.al.zipIdx.take j).flatMap (fS (pu tl) M.Ai)))) x->a.block<w0.heap.size->a.spot=none->w0.cell? a=some (.slice A' l c)->x.cell? a=some (.slice A' l c)):=fun j x a A' l c h h1 h2 h3=>by obtain⟨rest,hp⟩:=Em hL1 HP0.out j;exact Ng hp h h1 h2 h3
   clear hL1;have hil:M.al.length<=4000:=HFM.out.ins.1
   go_wp2_with fail
   obtain⟨wo,rfl⟩:∃x,x=wr:=⟨_,rfl⟩
   go_loopw [63] (fun i wr=>∃j:Nat,j<=M.al.length/\i=.int .i64 j/\Hid (Below w0.heap.size (cg id w0 (cN (M.ae.flatMap (dn (pu tl) (av tl))++(M.al.zipIdx.take j).flatMap (fS (pu tl) M.Ai)))) wr)) (fun i _=>M.al.length-(intOf i).toNat)
   case atStart=>exact⟨0,GT _,rfl,st1⟩
   case round=>
    clear st1 d10 d96 d91;obtain⟨j,hj,rfl,HS⟩:=hrel;have d91:=hsl.out j wr _ _ _ _ HS.out (by show w3.heap.size<_;omega) rfl c91;by_cases hlt:j<M.al.length
    .have hx:M.al[j]?=some M.al[j]:=ba hlt;obtain⟨bi,hA,_,_,_⟩:=lf HMO0.out.ins (fun e=>by rw[e]at hlt;exact arL _ hlt);obtain⟨P1,hup⟩:=Nh HL1.out HP0.out (ue hx);have hbk:dS M.Ai=bi:=by rw[hA];rfl
     have hxn:=(HNumM.out.ins _ (By hlt)).2;have C:Hid (∀W' q' ad,Below w0.heap.size (cg id w0 (cN (M.ae.flatMap (dn (pu tl) (av tl))++(M.al.zipIdx.take j).flatMap (fS (pu tl) M.Ai)))) W'->W'.cell? ⟨q',0,none⟩=some (.pointer (some ad))->ad=⟨bi,j,none⟩->Calls Tryz.prog 151 #[.agg #[.slice (some ⟨b',off',none⟩) n c'],.slice (some ⟨q',0,none⟩) 1 1] W' fun e w'=>e=.returned (.tuple #[])/\Below w0.heap.size (cg id w0 (cN (M.ae.flatMap (dn (pu tl) (av tl))++(M.al.zipIdx.take (j+1)).flatMap (fS (pu tl) M.Ai)))) w'):=fun W' q' ad h hq e=>by subst e;refine(El (p:=⟨dS M.Ai,j,M.al[j],tl.getD M.al[j].toNat 0⟩) P1 rfl h HRW.out hn hxn rfl (by rw[hq,<-hbk];rfl)).mono ?_;rintro e w' ⟨rfl,h1,_⟩;exact⟨rfl,by rw[hup];exact h1⟩
     rw[hA]at d91;have hss:w0.heap.size<=wr.heap.size:=by have:=HS.out.size;rwa [nJ]at this
     have hba:=HS.out.alloc hss (Obj.cells #[Value.pointer (some ⟨bi,j,none⟩)] 224);have hbc:=(bg.new wr 224 #[Value.pointer (some ⟨bi,j,none⟩)]).cell 0;clear hx hA P1 hup hbk hxn
     go_wp2_with (refine(C.out _ _ _ hba hbc rfl).mono ?_;rintro e w4 ⟨rfl,h4⟩)
     go_roundw
     case rel=>exact⟨j+1,atO,by go_num,Lib.hid h4⟩
     case measure=>simp[intOf];omega
    .obtain rfl:j=M.al.length:=atO
     have st2:Hid (Below w0.heap.size (cg id w0 (cN ((M.ae.flatMap (dn (pu tl) (av tl))++M.al.zipIdx.flatMap (fS (pu tl) M.Ai))++(M.ag.zipIdx.take 0).flatMap (fq (pu tl) (av tl) M.Al)))) wr):=Lib.hid (by have:=HS.out;rw[MB]at this;rw[arR,arZ,d6];exact this);have d92:=hsl.out M.al.length wr _ _ _ _ HS.out (by show w3.heap.size<_;omega) rfl c92;clear hsl HS d91;have hL2:jg (pu tl) (av tl) M=(M.ae.flatMap (dn (pu tl) (av tl))++M.al.zipIdx.flatMap (fS (pu tl) M.Ai))++(M.ag.zipIdx.flatMap (fq (pu tl) (av tl) M.Al)++((bO (av tl) M.Ao M.aZ++(bO (av tl) M.Ab M.aN++bO (av tl) M.Ac M.constraints))++M.aj.zipIdx.flatMap (ir (pu tl) (av tl) M.An))):=by rw[HL1.out];simp only[bB]
     have HL2:=Lib.hid hL2;have hsl:Hid (∀L' x a A' l c,Below w0.heap.size (cg id w0 (cN (L'))) x->(∃rest,f8 w0 w0.heap.size n b' (L'++rest))->a.block<w0.heap.size->a.spot=none->w0.cell? a=some (.slice A' l c)->x.cell? a=some (.slice A' l c)):=fun L' x a A' l c h hp h1 h2 h3=>by obtain⟨rest,hp⟩:=hp;exact Ng hp h h1 h2 h3
     clear hL2;have hil2:M.ag.length<=4000:=HFM.out.aJ.1
     go_wp2_with fail
     obtain⟨wo2,rfl⟩:∃x,x=wr:=⟨_,rfl⟩
     go_loopw [77] (fun i wr=>∃j:Nat,j<=M.ag.length/\i=.int .i64 j/\Hid (Below w0.heap.size (cg id w0 (cN ((M.ae.flatMap (dn (pu tl) (av tl))++M.al.zipIdx.flatMap (fS (pu tl) M.Ai))++(M.ag.zipIdx.take j).flatMap (fq (pu tl) (av tl) M.Al)))) wr)) (fun i _=>M.ag.length-(intOf i).toNat)
     case atStart=>exact⟨0,GT _,rfl,st2⟩
     case round=>
      clear st2 d92;obtain⟨j,hj,rfl,HS⟩:=hrel;have hss:w0.heap.size<=wr.heap.size:=by have:=HS.out.size;rwa [nJ]at this
      by_cases hlt:j<M.ag.length
      .have hx:M.ag[j]?=some M.ag[j]:=ba hlt;obtain⟨bl,hA,_,_,_⟩:=lf HMO0.out.aJ (fun e=>by rw[e]at hlt;exact arL _ hlt);obtain⟨P1,hup⟩:=Nh HL2.out HP0.out (ue hx);have hbk:dS M.Al=bl:=by rw[hA];rfl
       have hxn:=HNumM.out.aJ _ (By hlt);have hlp:fq (pu tl) (av tl) M.Al (M.ag[j],j)=[(⟨dS M.Al,j*3,M.ag[j].var,tl.getD M.ag[j].var.toNat 0⟩:cq)]++[(⟨dS M.Al,j*3+1,M.ag[j].next,av tl M.ag[j].next⟩:cq)]:=rfl;rw[hlp]at P1 hup;have P1':f8 w0 w0.heap.size n b' (((M.ae.flatMap (dn (pu tl) (av tl))++M.al.zipIdx.flatMap (fS (pu tl) M.Ai))++(M.ag.zipIdx.take j).flatMap (fq (pu tl) (av tl) M.Al))++([(⟨dS M.Al,j*3,M.ag[j].var,tl.getD M.ag[j].var.toNat 0⟩:cq)]++([(⟨dS M.Al,j*3+1,M.ag[j].next,av tl M.ag[j].next⟩:cq)]++((M.ag.zipIdx.drop (j+1)).flatMap (fq (pu tl) (av tl) M.Al)++((bO (av tl) M.Ao M.aZ++(bO (av tl) M.Ab M.aN++bO (av tl) M.Ac M.constraints))++M.aj.zipIdx.flatMap (ir (pu tl) (av tl) M.An)))))):=by simpa only[bB]using P1
       have P2:f8 w0 w0.heap.size n b' ((((M.ae.flatMap (dn (pu tl) (av tl))++M.al.zipIdx.flatMap (fS (pu tl) M.Ai))++(M.ag.zipIdx.take j).flatMap (fq (pu tl) (av tl) M.Al))++[(⟨dS M.Al,j*3,M.ag[j].var,tl.getD M.ag[j].var.toNat 0⟩:cq)])++([(⟨dS M.Al,j*3+1,M.ag[j].next,av tl M.ag[j].next⟩:cq)]++((M.ag.zipIdx.drop (j+1)).flatMap (fq (pu tl) (av tl) M.Al)++((bO (av tl) M.Ao M.aZ++(bO (av tl) M.Ab M.aN++bO (av tl) M.Ac M.constraints))++M.aj.zipIdx.flatMap (ir (pu tl) (av tl) M.An))))):=by simpa only[bB]using P1
       have d92:=hsl.out _ wr _ _ _ _ HS.out ⟨_,P1'⟩ (by show w3.heap.size<_;omega) rfl c92;have C1:Hid (∀W' q' ad,Below w0.heap.size (cg id w0 (cN ((M.ae.flatMap (dn (pu tl) (av tl))++M.al.zipIdx.flatMap (fS (pu tl) M.Ai))++(M.ag.zipIdx.take j).flatMap (fq (pu tl) (av tl) M.Al)))) W'->W'.cell? ⟨q',0,none⟩=some (.pointer (some ad))->ad=⟨bl,j*3,none⟩->Calls Tryz.prog 151 #[.agg #[.slice (some ⟨b',off',none⟩) n c'],.slice (some ⟨q',0,none⟩) 1 1] W' fun e w'=>e=.returned (.tuple #[])/\Below w0.heap.size (cg id w0 (cN (((M.ae.flatMap (dn (pu tl) (av tl))++M.al.zipIdx.flatMap (fS (pu tl) M.Ai))++(M.ag.zipIdx.take j).flatMap (fq (pu tl) (av tl) M.Al))++[(⟨dS M.Al,j*3,M.ag[j].var,tl.getD M.ag[j].var.toNat 0⟩:cq)]))) w'):=fun W' q' ad h hq e=>by subst e;refine(El P1' rfl h HRW.out hn hxn.2.1 rfl (by rw[hq,<-hbk];rfl)).mono ?_;rintro e w' ⟨rfl,h1,_⟩;exact⟨rfl,h1⟩
       have C2:Hid (∀(w1 W':World) (q':Nat) (ad:Addr),Below w0.heap.size (cg id w0 (cN (((M.ae.flatMap (dn (pu tl) (av tl))++M.al.zipIdx.flatMap (fS (pu tl) M.Ai))++(M.ag.zipIdx.take j).flatMap (fq (pu tl) (av tl) M.Al))++[(⟨dS M.Al,j*3,M.ag[j].var,tl.getD M.ag[j].var.toNat 0⟩:cq)]))) w1->w0.heap.size<=w1.heap.size->q'=w1.heap.size->W'=(w1.alloc (Obj.cells #[Value.pointer (some ad)] 224)).drew->ad=⟨bl,j*3+1,none⟩->Calls Tryz.prog 152 #[.agg #[.slice (some ⟨b',off',none⟩) n c'],.slice (some ⟨q',0,none⟩) 1 1] W' fun e w'=>e=.returned (.tuple #[])/\Below w0.heap.size (cg id w0 (cN ((M.ae.flatMap (dn (pu tl) (av tl))++M.al.zipIdx.flatMap (fS (pu tl) M.Ai))++(M.ag.zipIdx.take (j+1)).flatMap (fq (pu tl) (av tl) M.Al)))) w'):=fun w1 W' q' ad h hs e1 e2 e3=>by subst e1 e2 e3;refine(ML (c:=c') (k:=1) (q:=w1.heap.size) P2 rfl (h.alloc hs (Obj.cells #[Value.pointer (some ⟨bl,j*3+1,none⟩)] 224)).drew HRW.out HT.out hn (fun p hp=>by obtain rfl:=NE.1 hp;exact⟨hxn.2.2.2,rfl⟩) atQ rfl (by rw[<-hbk];exact vC w1 [_] _ (by simp[Value.oneCell']))).mono ?_;rintro e w' ⟨rfl,h1,_⟩;exact⟨rfl,by rw[hup,<-bB];exact h1⟩
       have C3:Hid (∀w1,Below w0.heap.size (cg id w0 (cN (((M.ae.flatMap (dn (pu tl) (av tl))++M.al.zipIdx.flatMap (fS (pu tl) M.Ai))++(M.ag.zipIdx.take j).flatMap (fq (pu tl) (av tl) M.Al))++[(⟨dS M.Al,j*3,M.ag[j].var,tl.getD M.ag[j].var.toNat 0⟩:cq)]))) w1->w1.cell? ⟨w3.heap.size+1,0,none⟩=some (.slice (some ⟨b',off',none⟩) n c')/\w1.cell? ⟨w3.heap.size,2,none⟩=some (.slice (some ⟨bl,0,none⟩) M.ag.length M.cl)/\w0.heap.size<=w1.heap.size):=fun w1 h=>⟨hsl.out _ w1 _ _ _ _ h ⟨_,P2⟩ (by show w3.heap.size+1<_;omega) rfl c10,(hsl.out _ w1 _ _ _ _ h ⟨_,P2⟩ (by show w3.heap.size<_;omega) rfl c92).trans (by rw[hA]),by have:=h.size;rwa [nJ]at this⟩;have C4:Hid (∀w1,Below w0.heap.size (cg id w0 (cN ((M.ae.flatMap (dn (pu tl) (av tl))++M.al.zipIdx.flatMap (fS (pu tl) M.Ai))++(M.ag.zipIdx.take (j+1)).flatMap (fq (pu tl) (av tl) M.Al)))) w1->w1.cell? ⟨w3.heap.size+1,0,none⟩=some (.slice (some ⟨b',off',none⟩) n c')/\w1.cell? ⟨w3.heap.size,2,none⟩=some (.slice (some ⟨bl,0,none⟩) M.ag.length M.cl)):=fun w1 h=>⟨hsl.out _ w1 _ _ _ _ h (Em HL2.out HP0.out _) (by show w3.heap.size+1<_;omega) rfl c10,(hsl.out _ w1 _ _ _ _ h (Em HL2.out HP0.out _) (by show w3.heap.size<_;omega) rfl c92).trans (by rw[hA])⟩;rw[hA]at d92;have hba:=HS.out.alloc hss (Obj.cells #[Value.pointer (some ⟨bl,j*3,none⟩)] 224);have hbc:=(bg.new wr 224 #[Value.pointer (some ⟨bl,j*3,none⟩)]).cell 0;clear hx hA P1 P1' P2 hup hbk hxn hlp
       go_wp2_with (refine(C1.out _ _ _ hba hbc rfl).mono ?_;rintro e w4 ⟨rfl,h4⟩;have e10:=(C3.out _ h4).1;have e92:=(C3.out _ h4).2.1;have ess:=(C3.out _ h4).2.2)
       go_region_held3 (fun w'=>w'.cell? ⟨w3.heap.size+1,0,none⟩=some (.slice (some ⟨b',off',none⟩) n c')/\w'.cell? ⟨w3.heap.size,2,none⟩=some (.slice (some ⟨bl,0,none⟩) M.ag.length M.cl)) (first|assumption|(refine⟨?_,?_⟩<;>assumption)|exact⟨(World.cell?_alloc_lt _ _ ⟨w3.heap.size+1,0,none⟩ (by show w3.heap.size+1<_;omega)).trans e10,(World.cell?_alloc_lt _ _ ⟨w3.heap.size,2,none⟩ (by show w3.heap.size<_;omega)).trans e92⟩)
        (first|(go_at_call 152;refine(C2.out w4 _ _ _ h4 ess rfl rfl rfl).mono ?_;rintro e w5 ⟨rfl,h5⟩;have f10:=(C4.out _ h5).1;have f92:=(C4.out _ h5).2))
       go_wp2_with fail
       go_roundw
       case rel=>exact⟨j+1,atO,by go_num,Lib.hid h5⟩
       case measure=>simp[intOf];omega
      .obtain rfl:j=M.ag.length:=atO
       have st3:Below w0.heap.size (cg id w0 (cN (((M.ae.flatMap (dn (pu tl) (av tl))++M.al.zipIdx.flatMap (fS (pu tl) M.Ai))++M.ag.zipIdx.flatMap (fq (pu tl) (av tl) M.Al))))) wr:=by have:=HS.out;rw[MB]at this;exact this
       have PD2:f8 w0 w0.heap.size n b' (((M.ae.flatMap (dn (pu tl) (av tl))++M.al.zipIdx.flatMap (fS (pu tl) M.Ai))++M.ag.zipIdx.flatMap (fq (pu tl) (av tl) M.Al))++((bO (av tl) M.Ao M.aZ++(bO (av tl) M.Ab M.aN++bO (av tl) M.Ac M.constraints))++M.aj.zipIdx.flatMap (ir (pu tl) (av tl) M.An))):=by have:=HP0.out;rw[HL2.out]at this;simpa only[bB]using this
       have d10:=hsl.out _ wr _ _ _ _ st3 ⟨_,PD2⟩ (by show w3.heap.size+1<_;omega) rfl c10;have d93:=hsl.out _ wr _ _ _ _ st3 ⟨_,PD2⟩ (by show w3.heap.size<_;omega) rfl c93;have d94:=hsl.out _ wr _ _ _ _ st3 ⟨_,PD2⟩ (by show w3.heap.size<_;omega) rfl c94;have d95:=hsl.out _ wr _ _ _ _ st3 ⟨_,PD2⟩ (by show w3.heap.size<_;omega) rfl c95;obtain⟨e1,e2,e3⟩:=vU (av tl) HMO0.out.out;obtain⟨f1,f2,f3⟩:=vU (av tl) HMO0.out.bad;obtain⟨g1,g2,g3⟩:=vU (av tl) HMO0.out.gG;have C1:Hid (∀W' q',Below w0.heap.size (cg id w0 (cN (((M.ae.flatMap (dn (pu tl) (av tl))++M.al.zipIdx.flatMap (fS (pu tl) M.Ai))++M.ag.zipIdx.flatMap (fq (pu tl) (av tl) M.Al))))) W'->Reads W' W'.heap.size 1 (some ⟨q',0,none⟩) 3 [.slice M.Ao M.aZ.length M.co,.slice M.Ab M.aN.length M.cb,.slice M.Ac M.constraints.length M.cc]->Calls Tryz.prog 153 #[.agg #[.slice (some ⟨b',off',none⟩) n c'],.slice (some ⟨q',0,none⟩) 3 3] W' fun e w'=>e=.returned (.tuple #[])/\Below w0.heap.size (cg id w0 (cN ((((M.ae.flatMap (dn (pu tl) (av tl))++M.al.zipIdx.flatMap (fS (pu tl) M.Ai))++M.ag.zipIdx.flatMap (fq (pu tl) (av tl) M.Al))++(bO (av tl) M.Ao M.aZ++(bO (av tl) M.Ab M.aN++bO (av tl) M.Ac M.constraints)))))) w'):=fun W' q' h hq=>by
        have hout:=HFM.out.out.1;have hbad:=HFM.out.bad.1;have hcon:=HFM.out.gG.1;have k1:M.aZ.length<=4000:=hout;have k2:M.aN.length<=4000:=hbad;have k3:M.constraints.length<=4000:=hcon;refine(Yd (r:=M.aj.zipIdx.flatMap (ir (pu tl) (av tl) M.An)) (c:=c') (k:=3) (q:=q') (ls:=[⟨M.Ao.map Addr.block,M.co,M.aZ⟩,⟨M.Ab.map Addr.block,M.cb,M.aN⟩,⟨M.Ac.map Addr.block,M.cc,M.constraints⟩]) (by rw[AT,AT,AT,arZ,d6,e1,f1,g1];exact PD2) rfl h HRW.out HT.out hn (fun l hl=>by
         rcases GE.1 hl with rfl|hl
         .exact⟨by show M.aZ.length<=_;omega,e3,fun x hx=>(HNumM.out.out x hx).2⟩
         .rcases GE.1 hl with rfl|hl
          .exact⟨by show M.aN.length<=_;omega,f3,fun x hx=>(HNumM.out.bad x hx).2⟩
          .obtain rfl:=NE.1 hl;exact⟨by show M.constraints.length<=_;omega,g3,fun x hx=>(HNumM.out.gG x hx).2⟩) atQ rfl (by rw[arI,arI,arI,asG,e2,f2,g2];exact hq)).mono ?_
        rintro e w' ⟨rfl,h1,_⟩;rw[AT,AT,AT,arZ,d6,e1,f1,g1]at h1;exact⟨rfl,h1⟩
       have hba:=st3.alloc hss (Obj.cells #[.slice M.Ao M.aZ.length M.co,.slice M.Ab M.aN.length M.cb,.slice M.Ac M.constraints.length M.cc] 22);have hbq:Reads (wr.alloc (Obj.cells #[.slice M.Ao M.aZ.length M.co,.slice M.Ab M.aN.length M.cb,.slice M.Ac M.constraints.length M.cc] 22)) (wr.alloc (Obj.cells #[.slice M.Ao M.aZ.length M.co,.slice M.Ab M.aN.length M.cb,.slice M.Ac M.constraints.length M.cc] 22)).heap.size 1 (some ⟨wr.heap.size,0,none⟩) 3 [.slice M.Ao M.aZ.length M.co,.slice M.Ab M.aN.length M.cb,.slice M.Ac M.constraints.length M.cc]:=vC wr [_,_,_] _ (by simp[Value.oneCell']);have hL3:jg (pu tl) (av tl) M=(((M.ae.flatMap (dn (pu tl) (av tl))++M.al.zipIdx.flatMap (fS (pu tl) M.Ai))++M.ag.zipIdx.flatMap (fq (pu tl) (av tl) M.Al))++(bO (av tl) M.Ao M.aZ++(bO (av tl) M.Ab M.aN++bO (av tl) M.Ac M.constraints)))++(M.aj.zipIdx.flatMap (ir (pu tl) (av tl) M.An)++[]):=by rw[HL2.out];simp only[bB,d6]
       have HL3:=Lib.hid hL3;have C2:Hid (∀w1,Below w0.heap.size (cg id w0 (cN ((((M.ae.flatMap (dn (pu tl) (av tl))++M.al.zipIdx.flatMap (fS (pu tl) M.Ai))++M.ag.zipIdx.flatMap (fq (pu tl) (av tl) M.Al))++(bO (av tl) M.Ao M.aZ++(bO (av tl) M.Ab M.aN++bO (av tl) M.Ac M.constraints)))))) w1->w1.cell? ⟨w3.heap.size,7,none⟩=some (.slice M.An M.aj.length M.cn)):=fun w1 h=>by refine hsl.out _ w1 _ _ _ _ h ?_ (by show w3.heap.size<_;omega) rfl c97;have:=HP0.out;rw[HL3.out]at this;exact⟨_,this⟩
       have hnl:M.aj.length<=4000:=HFM.out.aj.1;clear hL3 e1 e2 e3 f1 f2 f3 g1 g2 g3 PD2 HS
       go_wp2_with (refine(C1.out _ _ hba hbq).mono ?_;rintro e w4 ⟨rfl,h4⟩;have e97:=C2.out _ h4)
       clear hba hbq st3 d10 d93 d94 d95;have st4:Hid (Below w0.heap.size (cg id w0 (cN ((((M.ae.flatMap (dn (pu tl) (av tl))++M.al.zipIdx.flatMap (fS (pu tl) M.Ai))++M.ag.zipIdx.flatMap (fq (pu tl) (av tl) M.Al))++(bO (av tl) M.Ao M.aZ++(bO (av tl) M.Ab M.aN++bO (av tl) M.Ac M.constraints)))++(M.aj.zipIdx.take 0).flatMap (ir (pu tl) (av tl) M.An)))) w4):=Lib.hid (by rw[arR,arZ,d6];exact h4);clear h4;obtain⟨wo3,rfl⟩:∃x,x=wr:=⟨_,rfl⟩
       go_loopw [109] (fun i wr=>∃j:Nat,j<=M.aj.length/\i=.int .i64 j/\Hid (Below w0.heap.size (cg id w0 (cN ((((M.ae.flatMap (dn (pu tl) (av tl))++M.al.zipIdx.flatMap (fS (pu tl) M.Ai))++M.ag.zipIdx.flatMap (fq (pu tl) (av tl) M.Al))++(bO (av tl) M.Ao M.aZ++(bO (av tl) M.Ab M.aN++bO (av tl) M.Ac M.constraints)))++(M.aj.zipIdx.take j).flatMap (ir (pu tl) (av tl) M.An)))) wr)) (fun i _=>M.aj.length-(intOf i).toNat)
       case atStart=>exact⟨0,GT _,rfl,st4⟩
       case round=>
        clear st4 e97;obtain⟨j,hj,rfl,HS⟩:=hrel;have hss:w0.heap.size<=wr.heap.size:=by have:=HS.out.size;rwa [nJ]at this
        by_cases hlt:j<M.aj.length
        .have hx:M.aj[j]?=some M.aj[j]:=ba hlt;obtain⟨bl,hA,_,_,_⟩:=lf HMO0.out.and (fun e=>by rw[e]at hlt;exact arL _ hlt);obtain⟨P1,hup⟩:=Nh HL3.out HP0.out (ue hx);have hbk:dS M.An=bl:=by rw[hA];rfl
         have hxn:=HNumM.out.and _ (By hlt);have hlp:ir (pu tl) (av tl) M.An (M.aj[j],j)=[(⟨dS M.An,j*3,M.aj[j].var,tl.getD M.aj[j].var.toNat 0⟩:cq)]++[(⟨dS M.An,j*3+1,M.aj[j].a,av tl M.aj[j].a⟩:cq),(⟨dS M.An,j*3+2,M.aj[j].b,av tl M.aj[j].b⟩:cq)]:=rfl;rw[hlp]at P1 hup;have P1':f8 w0 w0.heap.size n b' (((((M.ae.flatMap (dn (pu tl) (av tl))++M.al.zipIdx.flatMap (fS (pu tl) M.Ai))++M.ag.zipIdx.flatMap (fq (pu tl) (av tl) M.Al))++(bO (av tl) M.Ao M.aZ++(bO (av tl) M.Ab M.aN++bO (av tl) M.Ac M.constraints)))++(M.aj.zipIdx.take j).flatMap (ir (pu tl) (av tl) M.An))++([(⟨dS M.An,j*3,M.aj[j].var,tl.getD M.aj[j].var.toNat 0⟩:cq)]++([(⟨dS M.An,j*3+1,M.aj[j].a,av tl M.aj[j].a⟩:cq),(⟨dS M.An,j*3+2,M.aj[j].b,av tl M.aj[j].b⟩:cq)]++((M.aj.zipIdx.drop (j+1)).flatMap (ir (pu tl) (av tl) M.An)++[])))):=by simpa only[bB]using P1
         have P2:f8 w0 w0.heap.size n b' ((((((M.ae.flatMap (dn (pu tl) (av tl))++M.al.zipIdx.flatMap (fS (pu tl) M.Ai))++M.ag.zipIdx.flatMap (fq (pu tl) (av tl) M.Al))++(bO (av tl) M.Ao M.aZ++(bO (av tl) M.Ab M.aN++bO (av tl) M.Ac M.constraints)))++(M.aj.zipIdx.take j).flatMap (ir (pu tl) (av tl) M.An))++[(⟨dS M.An,j*3,M.aj[j].var,tl.getD M.aj[j].var.toNat 0⟩:cq)])++([(⟨dS M.An,j*3+1,M.aj[j].a,av tl M.aj[j].a⟩:cq),(⟨dS M.An,j*3+2,M.aj[j].b,av tl M.aj[j].b⟩:cq)]++((M.aj.zipIdx.drop (j+1)).flatMap (ir (pu tl) (av tl) M.An)++[]))):=by simpa only[bB]using P1
         have d97:=hsl.out _ wr _ _ _ _ HS.out ⟨_,P1'⟩ (by show w3.heap.size<_;omega) rfl c97;have C1:Hid (∀W' q' ad,Below w0.heap.size (cg id w0 (cN ((((M.ae.flatMap (dn (pu tl) (av tl))++M.al.zipIdx.flatMap (fS (pu tl) M.Ai))++M.ag.zipIdx.flatMap (fq (pu tl) (av tl) M.Al))++(bO (av tl) M.Ao M.aZ++(bO (av tl) M.Ab M.aN++bO (av tl) M.Ac M.constraints)))++(M.aj.zipIdx.take j).flatMap (ir (pu tl) (av tl) M.An)))) W'->W'.cell? ⟨q',0,none⟩=some (.pointer (some ad))->ad=⟨bl,j*3,none⟩->Calls Tryz.prog 151 #[.agg #[.slice (some ⟨b',off',none⟩) n c'],.slice (some ⟨q',0,none⟩) 1 1] W' fun e w'=>e=.returned (.tuple #[])/\Below w0.heap.size (cg id w0 (cN (((((M.ae.flatMap (dn (pu tl) (av tl))++M.al.zipIdx.flatMap (fS (pu tl) M.Ai))++M.ag.zipIdx.flatMap (fq (pu tl) (av tl) M.Al))++(bO (av tl) M.Ao M.aZ++(bO (av tl) M.Ab M.aN++bO (av tl) M.Ac M.constraints)))++(M.aj.zipIdx.take j).flatMap (ir (pu tl) (av tl) M.An))++[(⟨dS M.An,j*3,M.aj[j].var,tl.getD M.aj[j].var.toNat 0⟩:cq)]))) w'):=fun W' q' ad h hq e=>by subst e;refine(El P1' rfl h HRW.out hn hxn.2.1 rfl (by rw[hq,<-hbk];rfl)).mono ?_;rintro e w' ⟨rfl,h1,_⟩;exact⟨rfl,h1⟩
         have C2:Hid (∀(w1 W':World) (q':Nat) (ad ad2:Addr),Below w0.heap.size (cg id w0 (cN (((((M.ae.flatMap (dn (pu tl) (av tl))++M.al.zipIdx.flatMap (fS (pu tl) M.Ai))++M.ag.zipIdx.flatMap (fq (pu tl) (av tl) M.Al))++(bO (av tl) M.Ao M.aZ++(bO (av tl) M.Ab M.aN++bO (av tl) M.Ac M.constraints)))++(M.aj.zipIdx.take j).flatMap (ir (pu tl) (av tl) M.An))++[(⟨dS M.An,j*3,M.aj[j].var,tl.getD M.aj[j].var.toNat 0⟩:cq)]))) w1->w0.heap.size<=w1.heap.size->q'=w1.heap.size->W'=(w1.alloc (Obj.cells #[Value.pointer (some ad),Value.pointer (some ad2)] 224)).drew->ad=⟨bl,j*3+1,none⟩->ad2=⟨bl,j*3+2,none⟩->Calls Tryz.prog 152 #[.agg #[.slice (some ⟨b',off',none⟩) n c'],.slice (some ⟨q',0,none⟩) 2 2] W' fun e w'=>e=.returned (.tuple #[])/\Below w0.heap.size (cg id w0 (cN ((((M.ae.flatMap (dn (pu tl) (av tl))++M.al.zipIdx.flatMap (fS (pu tl) M.Ai))++M.ag.zipIdx.flatMap (fq (pu tl) (av tl) M.Al))++(bO (av tl) M.Ao M.aZ++(bO (av tl) M.Ab M.aN++bO (av tl) M.Ac M.constraints)))++(M.aj.zipIdx.take (j+1)).flatMap (ir (pu tl) (av tl) M.An)))) w'):=fun w1 W' q' ad ad2 h hs e1 e2 e3 e4=>by
          subst e1 e2 e3 e4;refine(ML (c:=c') (k:=2) (q:=w1.heap.size) P2 rfl (h.alloc hs (Obj.cells #[Value.pointer (some ⟨bl,j*3+1,none⟩),Value.pointer (some ⟨bl,j*3+2,none⟩)] 224)).drew HRW.out HT.out hn (fun p hp=>by
           rcases GE.1 hp with rfl|hp
           .exact⟨hxn.2.2.2.1,rfl⟩
           .obtain rfl:=NE.1 hp;exact⟨hxn.2.2.2.2.2,rfl⟩) atQ rfl (by rw[<-hbk];exact vC w1 [_,_] _ (by simp[Value.oneCell']))).mono ?_
          rintro e w' ⟨rfl,h1,_⟩;exact⟨rfl,by rw[hup,<-bB];exact h1⟩
         have C3:Hid (∀w1,Below w0.heap.size (cg id w0 (cN (((((M.ae.flatMap (dn (pu tl) (av tl))++M.al.zipIdx.flatMap (fS (pu tl) M.Ai))++M.ag.zipIdx.flatMap (fq (pu tl) (av tl) M.Al))++(bO (av tl) M.Ao M.aZ++(bO (av tl) M.Ab M.aN++bO (av tl) M.Ac M.constraints)))++(M.aj.zipIdx.take j).flatMap (ir (pu tl) (av tl) M.An))++[(⟨dS M.An,j*3,M.aj[j].var,tl.getD M.aj[j].var.toNat 0⟩:cq)]))) w1->w1.cell? ⟨w3.heap.size+1,0,none⟩=some (.slice (some ⟨b',off',none⟩) n c')/\w0.heap.size<=w1.heap.size):=fun w1 h=>⟨hsl.out _ w1 _ _ _ _ h ⟨_,P2⟩ (by show w3.heap.size+1<_;omega) rfl c10,by have:=h.size;rwa [nJ]at this⟩;have C4:Hid (∀w1,Below w0.heap.size (cg id w0 (cN ((((M.ae.flatMap (dn (pu tl) (av tl))++M.al.zipIdx.flatMap (fS (pu tl) M.Ai))++M.ag.zipIdx.flatMap (fq (pu tl) (av tl) M.Al))++(bO (av tl) M.Ao M.aZ++(bO (av tl) M.Ab M.aN++bO (av tl) M.Ac M.constraints)))++(M.aj.zipIdx.take (j+1)).flatMap (ir (pu tl) (av tl) M.An)))) w1->w1.cell? ⟨w3.heap.size+1,0,none⟩=some (.slice (some ⟨b',off',none⟩) n c')):=fun w1 h=>hsl.out _ w1 _ _ _ _ h (Em HL3.out HP0.out _) (by show w3.heap.size+1<_;omega) rfl c10;rw[hA]at d97;have hba:=HS.out.alloc hss (Obj.cells #[Value.pointer (some ⟨bl,j*3,none⟩)] 224);have hbc:=(bg.new wr 224 #[Value.pointer (some ⟨bl,j*3,none⟩)]).cell 0;clear hx hA P1 P1' P2 hup hbk hxn hlp
         go_wp2_with (refine(C1.out _ _ _ hba hbc rfl).mono ?_;rintro e w5 ⟨rfl,h5⟩;have e10:=(C3.out _ h5).1;have ess:=(C3.out _ h5).2)
         go_region_held3 (fun w'=>w'.cell? ⟨w3.heap.size+1,0,none⟩=some (.slice (some ⟨b',off',none⟩) n c')) (first|assumption|exact(World.cell?_alloc_lt _ _ ⟨w3.heap.size+1,0,none⟩ (by show w3.heap.size+1<_;omega)).trans e10)
          (first|(go_at_call 152;refine(C2.out w5 _ _ _ _ h5 ess rfl rfl rfl rfl).mono ?_;rintro e w6 ⟨rfl,h6⟩;have f10:=C4.out _ h6))
         go_wp2_with fail
         go_roundw
         case rel=>exact⟨j+1,atO,by go_num,Lib.hid h6⟩
         case measure=>simp[intOf];omega
        .obtain rfl:j=M.aj.length:=atO
         have st5:Below w0.heap.size (cg id w0 (cN (jg (pu tl) (av tl) M))) wr:=by have:=HS.out;rw[MB]at this;rw[HL3.out,d6];exact this
         have hne:∀(b:Nat),(b<w.heap.size+2\/w3.heap.size<=b)->∀u∈cN (jg (pu tl) (av tl) M),u.1≠b:=fun b hb u hu e=>by obtain⟨p,hp,rfl⟩:=ro.1 hu;have:=HLO.out _ ((Nb (pu tl) (av tl) HMO0.out).at_ p hp).2.2;have e:p.b=b:=e;omega
         have B9:bg wr w3.heap.size 27 M.fs:=(Mw st5 atO (hne _ (.inr (rt _)))).trans HK9.out;have B4:bg wr (w.heap.size+1) 27 lG:=(Mw st5 atO (hne _ (.inl atO))).trans HKz.out;have HST:=Lib.hid st5;have HB4:=Lib.hid B4;obtain⟨q0,q1,q2,q3,q4,q5,q6,q7⟩:=qc B9;have r0:=B4.cell 0;have r1:=B4.cell 1;have r2:=B4.cell 2;have r3:=B4.cell 3;have r4:=B4.cell 4;have r5:=B4.cell 5;have r6:=B4.cell 6;have r7:=B4.cell 7;simp only[lG,Or,arV,Fd]at r0 r1 r2 r3 r4 r5 r6 r7;have z0:=B4.frozen 0;have z1:=B4.frozen 1;have z2:=B4.frozen 2;have z3:=B4.frozen 3;have z4:=B4.frozen 4;have z5:=B4.frozen 5;have z6:=B4.frozen 6;have z7:=B4.frozen 7;clear st5 hne B9 B4 HS
         go_wp2_with fail
         have hfin:=(((((((HB4.out.ia 0 (.int .i64 M.vars)).ia 1 (.slice M.Ai M.al.length M.ci)).ia 2 (.slice M.Al M.ag.length M.cl)).ia 3 (.slice M.Ao M.aZ.length M.co)).ia 4 (.slice M.Ab M.aN.length M.cb)).ia 5 (.slice M.Ac M.constraints.length M.cc)).ia 6 (.slice M.Am M.ae.length M.cm)).ia 7 (.slice M.An M.aj.length M.cn);simp only[lG,ats,atE,List.set_cons_succ]at hfin;have hszN:(Tryz.prog.info? 27).map (·.size)=some M.fs.size:=atP
         refine bodyPost_ret (v:=.tuple #[.agg M.fs,.int .i64 0]) (agO Tryz.results112 _ _ (w.heap.size+1) 27 M.fs (0,0) _ ?_ hfin Tryz.underlying27 rfl hszN) rfl ?_
         .rfl
         refine⟨M,w0,HMD.out,rfl,HBw0.out,HMO0.out,fun b q=>(HLO.out b q).1,?_⟩;have hg0:(cg id w0 (cN (jg (pu tl) (av tl) M))).grownBy wr (some (w.heap.size+1)):=DF (by rw[nJ];exact HST.out)
         iterate 8 refine qD ?_ (qG _ _ _ _)
         exact hg0
