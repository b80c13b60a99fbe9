import Derived.Test.YtmkbdfidnfmgmaaGreatKRb
import Derived.Test.YtmkbdfidnfmgmaaGreatKNc
set_option linter.all false
section
namespace Go.Proofs.YtmkbdfidnfmgmaaGreat
open Go Go.RowKit Pl
def eY(f g:Int->Int)(A:pi)(p:dI×Nat):List cQ:=[⟨dS A,p.2*3,p.1.var,f p.1.var⟩,⟨dS A,p.2*3+1,p.1.next,g p.1.next⟩]
def ib(f g:Int->Int)(A:pi)(p:dM×Nat):List cQ:=[⟨dS A,p.2*3,p.1.var,f p.1.var⟩,⟨dS A,p.2*3+1,p.1.a,g p.1.a⟩,⟨dS A,p.2*3+2,p.1.b,g p.1.b⟩]
def iN(f g:Int->Int)(M:aY):List cQ:=M.af.flatMap (dz f g)++(cw f M.Ai M.ax++(M.ah.zipIdx.flatMap (eY f g M.Al)++((cw g M.Ao M.bk++(cw g M.Ab M.aU++cw g M.Ac M.constraints))++M.ag.zipIdx.flatMap (ib f g M.An))))
structure fP(w0:World)(bs:md)(L:List cQ):Prop where
 at_:∀p∈L,w0.cell? p.ad=some (.int .i64 p.x)/\w0.frozen? p.ad=false/\p.b∈bs
 nd:(L.map cQ.ad).Nodup
variable{b1:md}{b2:md}
theorem fP.append{w0:World}{L1 L2:List cQ}(h:fP w0 b1 L1)(k:fP w0 b2 L2)(hd:(b1++b2).Nodup):fP w0 (b1++b2) (L1++L2):=by
 refine⟨fun p hp=>?_,?_⟩
 .rcases qr.1 hp with hp|hp
  .have:=h.at_ p hp;exact⟨this.1,this.2.1,AI _ this.2.2⟩
  .have:=k.at_ p hp;exact⟨this.1,this.2.1,Fd _ this.2.2⟩
 .rw[cH];refine rx.2 ⟨h.nd,k.nd,fun a ha b hb e=>?_⟩;obtain⟨p,hp,rfl⟩:=rt.1 ha;obtain⟨q,hq,rfl⟩:=rt.1 hb;exact(rx.1 hd).2.2 _ (h.at_ p hp).2.2 _ (k.at_ q hq).2.2 (OF Addr.block e)
theorem fP.perm{w0:World}{L:List cQ}(h:fP w0 b1 L)(hs:∀b∈b1,b∈b2):fP w0 b2 L:=⟨fun p hp=>⟨(h.at_ p hp).1,(h.at_ p hp).2.1,hs _ (h.at_ p hp).2.2⟩,h.nd⟩
theorem fP.nil(w0:World)(bs:md):fP w0 bs []:=⟨(fun p hp=>by cases hp),atN⟩
variable{α:Type}
theorem fP.flat{w0:World}{bf:α->md}{pf:α->List cQ}:∀{l:List α},(∀x∈l,fP w0 (bf x) (pf x))->(l.flatMap bf).Nodup->fP w0 (l.flatMap bf) (l.flatMap pf)
 |[],_,_=>fP.nil _ _|x::l,h,hd=>by rw[ww]at hd;rw[ww,ww];exact(h x (Pi ..)).append (fP.flat (fun y hy=>h y (Id _ hy)) (rx.1 hd).2.1) hd
variable{e:TypeId}{z:Nat}{f:α->mt}{c:Nat}{xs:List α}{A:pi}{w:World}
theorem wT{B:Nat}(hz:∀x,(f x).length=z)(h:cX w B e z f A c xs)(os:List (Nat×(α->Int)×(Int->Int)))
  (ho:∀q∈os,q.1<z/\∀x,(f x)[q.1]?=some (.int .i64 (q.2.1 x))) (hn:(os.map Prod.fst).Nodup) :
  fP w (aO A) (xs.zipIdx.flatMap fun p=>os.map fun q=>⟨dS A,p.2*z+q.1,q.2.1 p.1,q.2.2 (q.2.1 p.1)⟩):=by
 have key:∀p∈xs.zipIdx,xs[p.2]?=some p.1:=fun p hp=>by have:=arg.1 hp;exact this
 refine⟨fun p hp=>?_,?_⟩
 .obtain⟨x,hx,hp⟩:=rc.1 hp;obtain⟨q,hq,rfl⟩:=rt.1 hp;have hxi:=key x hx;obtain⟨b,hA,_,_,hfz⟩:=kC h (fun e=>by rw[e]at hxi;simp at hxi);have hb:dS A=b:=by rw[hA];rfl
  obtain⟨o1,o2⟩:=ho q hq;show w.cell? ⟨dS A,x.2*z+q.1,none⟩=_/\w.frozen? ⟨dS A,x.2*z+q.1,none⟩=false/\dS A∈aO A;rw[hb];exact⟨jR hz h hA hxi (o2 x.1),hfz _,by simp[hA,aO]⟩
 .have hnd:∀(l:List (α×Nat)),(l.map Prod.snd).Nodup->((l.flatMap fun p=>os.map fun q=>(⟨dS A,p.2*z+q.1,q.2.1 p.1,q.2.2 (q.2.1 p.1)⟩:cQ)).map cQ.ad).Nodup:=by
   intro l
   induction l with
   |nil=>intro _;exact atN|cons p l ih=>
    intro hl;rw[UV,att]at hl;rw[ww,cH];refine rx.2 ⟨?_,ih hl.2,fun a ha b hb e=>?_⟩
    .rw[IR];refine(atu.2 ?_:List.Pairwise (·≠·) _);have hn:List.Pairwise (·≠·) (os.map Prod.fst):=hn;rw[atu]at hn;refine hn.imp fun{q r} hqr e=>hqr ?_;have:p.2*z+q.1=p.2*z+r.1:=OF Addr.off e;omega
    .obtain⟨P,hP,rfl⟩:=rt.1 ha;obtain⟨q,hq,rfl⟩:=rt.1 hP;obtain⟨P',hP',rfl⟩:=rt.1 hb;obtain⟨p',hp',hP'⟩:=rc.1 hP';obtain⟨q',hq',rfl⟩:=rt.1 hP';have e:p.2*z+q.1=p'.2*z+q'.1:=OF Addr.off e;have h1:=(ho q hq).1;have h2:=(ho q' hq').1;refine hl.1 (rt.2 ⟨p',hp',?_⟩);rcases Nat.lt_trichotomy p'.2 p.2 with h|h|h
     .have:(p'.2+1)*z<=p.2*z:=asm z h;rw[atj]at this;omega
     .exact h
     .have:(p.2+1)*z<=p'.2*z:=asm z h;rw[atj]at this;omega
  refine hnd _ ?_;rw[List.zipIdx_map_snd];exact List.nodup_range'
theorem fP.aa3{w0:World}{bs:md}{L L':List cQ}(h:fP w0 bs L)(hp:L.Perm L'):fP w0 bs L':=⟨fun p q=>h.at_ p (hp.mem_iff.2 q),(hp.map cQ.ad).nodup_iff.1 h.nd⟩
theorem NH{α β:Type}(f g:α->List β):∀l:List α,(l.flatMap f++l.flatMap g).Perm (l.flatMap fun x=>f x++g x)
 |[]=>List.Perm.refl _|x::l=>by
  rw[ww,ww,ww];have ih:=NH f g l;have h1:(f x++l.flatMap f++(g x++l.flatMap g)).Perm (f x++(g x++(l.flatMap f++l.flatMap g))):=by rw[bM];refine asU _ ?_;rw[<-bM,<-bM];exact List.Perm.append_right _ List.perm_append_comm
  refine h1.trans ?_;rw[bM];exact asU _ (asU _ ih)
theorem qN{B:Nat}{xs:jp}(g:Int->Int)(h:cX w B 3 1 cI A c xs):fP w (aO A) (cw g A xs):=by
 have:=wT R9 h [(0,id,g)] (fun q hq=>by obtain rfl:=GE.1 hq;exact⟨auc,fun x=>rfl⟩) aue;have e:(xs.zipIdx.flatMap fun p=>[((0,id,g):Nat×(Int->Int)×(Int->Int))].map fun q=>(⟨dS A,p.2*1+q.1,q.2.1 p.1,q.2.2 (q.2.1 p.1)⟩:cQ))=cw g A xs:=by unfold cw;rw[List.map_eq_flatMap];exact NR fun p _=>aue
 rwa [e]at this
theorem xe{α β:Type}(f:α->List β):∀(l:List α) (n:Nat),(l.zipIdx n).flatMap (fun p=>f p.1)=l.flatMap f
 |[],_=>rfl|x::l,n=>by rw[List.zipIdx_cons,ww,ww,xe f l (n+1)]
theorem anN{B:Nat}{m:aQ}(f g:Int->Int)(h:m.own w B)(hd:(aO m.A++m.reads.flatMap bZ.bs).Nodup):fP w (aO m.A++m.reads.flatMap bZ.bs) (m.reads.zipIdx.flatMap (gr f g m.A)):=by
 have h1:=wT sX h.rd [(0,bZ.var,f)] (fun q hq=>by obtain rfl:=GE.1 hq;exact⟨auc,fun x=>rfl⟩) aue;have h2:fP w (m.reads.flatMap bZ.bs) (m.reads.zipIdx.flatMap fun p=>cw g p.1.A p.1.addr):=by
  have:=fP.flat (w0:=w) (l:=m.reads.zipIdx) (bf:=fun p=>p.1.bs) (pf:=fun p=>cw g p.1.A p.1.addr) (fun p hp=>qN g (h.fq p.1 (asu hp))) (by rw[xe bZ.bs];exact(rx.1 hd).2.1)
  rwa [xe bZ.bs]at this
 exact(h1.append h2 hd).aa3 (NH _ _ _)
theorem anZ{B:Nat}{m:aQ}(g:Int->Int)(h:m.own w B)(hd:(aO m.A2++m.writes.flatMap cj.bs).Nodup):fP w (aO m.A2++m.writes.flatMap cj.bs) (m.writes.zipIdx.flatMap (j8 g m.A2)):=by
 have h1:=wT ov h.wr [(0,cj.on,g)] (fun q hq=>by obtain rfl:=GE.1 hq;exact⟨auc,fun x=>rfl⟩) aue;have hdw:=(rx.1 hd).2.1;have h2:fP w (m.writes.flatMap cj.bs) (m.writes.zipIdx.flatMap fun p=>cw g p.1.A p.1.addr++cw g p.1.A2 p.1.data):=by
  have:=fP.flat (w0:=w) (l:=m.writes.zipIdx) (bf:=fun p=>p.1.bs) (pf:=fun p=>cw g p.1.A p.1.addr++cw g p.1.A2 p.1.data) (fun p hp=>by have hm:=asu hp;have hx:=h.gY p.1 hm;refine(qN g hx.1).append (qN g hx.2) ?_;obtain⟨i,hi,e⟩:=ash hm;have hs:=pq cj.bs (bA hi);rw[hs,e]at hdw;exact(rx.1 (rx.1 hdw).2.1).1) (by rw[xe cj.bs];exact hdw)
  rwa [xe cj.bs]at this
 exact(h1.append h2 hd).aa3 (NH _ _ _)
theorem Fg{B:Nat}{m:aQ}(f g:Int->Int)(h:m.own w B)(hd:m.bs.Nodup):fP w m.bs (dz f g m):=by unfold aQ.bs at hd |-;unfold dz;rw[<-bM]at hd |-;exact(anN f g h (rx.1 hd).1).append (anZ g h (rx.1 hd).2.1) hd
theorem Oy{B:Nat}{M:aY}(f g:Int->Int)(h:M.own w B):fP w M.bs (iN f g M):=by
 have hd:=h.nd;unfold aY.bs aY.fl at hd;have hm:fP w (M.af.flatMap aQ.bs) (M.af.flatMap (dz f g)):=fP.flat (fun m hm=>Fg f g (h.kA m hm) (by have hdm:=(rx.1 hd).2.1;obtain⟨i,hi,e⟩:=ash hm;have hs:=pq aQ.bs (bA hi);rw[hs,e]at hdm;exact(rx.1 (rx.1 hdm).2.1).1)) (rx.1 hd).2.1;have hl:=wT Ow h.aT [(0,dI.var,f),(1,dI.next,g)] (fun q hq=>by
  rcases Fn.1 hq with rfl|hq
  .exact⟨auc,fun x=>rfl⟩
  .obtain rfl:=GE.1 hq;exact⟨auc,fun x=>rfl⟩) aue
 have ha:=wT abw h.and [(0,dM.var,f),(1,dM.a,g),(2,dM.b,g)] (fun q hq=>by
  rcases Fn.1 hq with rfl|hq
  .exact⟨auc,fun x=>rfl⟩
  .rcases Fn.1 hq with rfl|hq
   .exact⟨auc,fun x=>rfl⟩
   .obtain rfl:=GE.1 hq;exact⟨auc,fun x=>rfl⟩) aue
 have hp:(M.af.flatMap aQ.bs++(aO M.Ai++(aO M.Al++((aO M.Ao++(aO M.Ab++aO M.Ac))++aO M.An)))).Nodup:=by
  have e0:(aO M.Ai++(aO M.Ao++(aO M.Ab++(aO M.Ac++(aO M.Al++(aO M.An++aO M.Am)))))++M.af.flatMap aQ.bs).Perm (M.af.flatMap aQ.bs++((aO M.Ai++(aO M.Al++((aO M.Ao++(aO M.Ab++aO M.Ac))++aO M.An)))++aO M.Am)):=by
   refine List.perm_append_comm.trans (asU _ ?_);simp only[bM];refine asU _ ?_;have:(aO M.Ao++(aO M.Ab++(aO M.Ac++(aO M.Al++(aO M.An++aO M.Am)))))=(aO M.Ao++(aO M.Ab++aO M.Ac))++(aO M.Al++(aO M.An++aO M.Am)):=by simp only[bM]
   rw[this,show(aO M.Al++(aO M.Ao++(aO M.Ab++(aO M.Ac++(aO M.An++aO M.Am)))))=aO M.Al++((aO M.Ao++(aO M.Ab++aO M.Ac))++(aO M.An++aO M.Am)) by simp only[bM]];rw[<-bM,<-bM (aO M.Al)];exact List.Perm.append_right _ List.perm_append_comm
  have:=e0.nodup_iff.1 hd;rw[<-bM]at this;exact(rx.1 this).1
 have k1:=(rx.1 hp).2.1;have k2:=(rx.1 k1).2.1;have k3:=(rx.1 k2).2.1;have k4:=(rx.1 k3).1;have k5:=(rx.1 k4).2.1;have all:=hm.append ((qN f h.ins).append (hl.append (((qN g h.out).append ((qN g h.fe).append (qN g h.ga) k5) k4).append ha k3) k2) k1) hp;refine fP.perm all fun b hb=>?_;unfold aY.bs aY.fl;simp only[qr]at hb |-;rcases hb with q|q|q|(q|q|q)|q
 .exact .inr q
 .exact .inl (.inl q)
 .exact .inl (.inr (.inr (.inr (.inr (.inl q)))))
 .exact .inl (.inr (.inl q))
 .exact .inl (.inr (.inr (.inl q)))
 .exact .inl (.inr (.inr (.inr (.inl q))))
 .exact .inl (.inr (.inr (.inr (.inr (.inr (.inl q))))))
variable{l:Nat}{b':Nat}{n:Nat}
theorem OA{w0 x:World}{B:Nat}{L r:List cQ}(h:fQ w0 B n b' (L++r))(hs:Below B (cN id w0 (dg L)) x){a:Addr}{A':pi}(hb:a.block<B)(hp:a.spot=none)(hc:w0.cell? a=some (.slice A' l c)):x.cell? a=some (.slice A' l c):=by refine sH hs hp hb (fun u hu e=>?_) hc;obtain⟨p,hq,rfl⟩:=rt.1 hu;have:=(h.at_ p (AI _ hq)).1;have e:p.ad=a:=e;rw[e,hc]at this;cases this
structure uJ(n:Nat)(d:aB):Prop where
 ins:∀x∈d.ax,0<=x/\x<n
 aT:∀l∈d.ah,0<=l.var/\l.var<n/\0<=l.next/\l.next / 2<n
 out:∀x∈d.bk,0<=x/\x / 2<n
 fe:∀x∈d.aU,0<=x/\x / 2<n
 ga:∀x∈d.constraints,0<=x/\x / 2<n
 fq:∀m∈d.af,∀r∈m.reads,0<=r.var/\r.var<n/\∀y∈r.addr,0<=y/\y / 2<n
 gY:∀m∈d.af,∀x∈m.writes,0<=x.on/\x.on / 2<n/\(∀y∈x.addr,0<=y/\y / 2<n)/\∀y∈x.data,0<=y/\y / 2<n
 and:∀a∈d.ag,0<=a.var/\a.var<n/\0<=a.a/\a.a / 2<n/\0<=a.b/\a.b / 2<n
variable{g:Int->Int}
theorem sN{xs:jp}(h:∀x∈xs,0<=x):∀p∈cw g A xs,0<=p.x:=by intro p hp;obtain⟨z,hz,rfl⟩:=rt.1 hp;exact h _ (asu hz)
theorem anz{M:aY}(f g:Int->Int)(h:uJ n M.d):∀p∈iN f g M,0<=p.x:=by
 intro p hp;unfold iN at hp;simp only[qr]at hp;rcases hp with hp|hp|hp|(hp|hp|hp)|hp
 .obtain⟨m,hm,hp⟩:=rc.1 hp;have hmd:m.d∈M.d.af:=AT hm;rcases qr.1 hp with hp|hp
  .obtain⟨z,hz,hp⟩:=rc.1 hp;have hr:=h.fq _ hmd z.1.d (AT (asu hz));rcases Fn.1 hp with rfl|hp
   .exact hr.1
   .exact sN (fun x hx=>(hr.2.2 x hx).1) p hp
  .obtain⟨z,hz,hp⟩:=rc.1 hp;have hr:=h.gY _ hmd z.1.d (AT (asu hz));rcases Fn.1 hp with rfl|hp
   .exact hr.1
   .rcases qr.1 hp with hp|hp
    .exact sN (fun x hx=>(hr.2.2.1 x hx).1) p hp
    .exact sN (fun x hx=>(hr.2.2.2 x hx).1) p hp
 .exact sN (fun x hx=>(h.ins x hx).1) p hp
 .obtain⟨z,hz,hp⟩:=rc.1 hp;have hr:=h.aT z.1 (asu hz);rcases Fn.1 hp with rfl|hp
  .exact hr.1
  .obtain rfl:=GE.1 hp;exact hr.2.2.1
 .exact sN (fun x hx=>(h.out x hx).1) p hp
 .exact sN (fun x hx=>(h.fe x hx).1) p hp
 .exact sN (fun x hx=>(h.ga x hx).1) p hp
 .obtain⟨z,hz,hp⟩:=rc.1 hp;have hr:=h.and z.1 (asu hz);rcases Fn.1 hp with rfl|hp
  .exact hr.1
  .rcases Fn.1 hp with rfl|hp
   .exact hr.2.2.1
   .obtain rfl:=GE.1 hp;exact hr.2.2.2.2.1
theorem alg{w0:World}{B0:Nat}{M:aY}(f g:Int->Int)(h:M.own w0 B0)(hb:b'<B0)(hn:uJ n M.d)(hlow:∀b∈M.bs,B0<=b):fQ w0 w0.heap.size n b' (iN f g M):=by have k:=Oy f g h;exact⟨fun p hp=>⟨(k.at_ p hp).1,(k.at_ p hp).2.1,anz f g hn p hp,by have:=hlow _ (k.at_ p hp).2.2;omega,h.lt _ (k.at_ p hp).2.2⟩,k.nd⟩
theorem iH{B:Nat}(h:cX w B e z f A c xs):∀b∈aO A,B<=b:=by
 obtain⟨hl,h⟩:=h;intro b hb;rcases h with⟨h,h0⟩|⟨g,cap,cur,e1,hg,hh,hc,hm,hs,ht⟩
 .obtain⟨rfl,_,rfl⟩:=(by simpa using h:A=none/\xs=[]/\c=0);cases hb
 .obtain⟨rfl,_,rfl⟩:=(by simpa using e1:A=some ⟨g,0,none⟩/\True/\c=cap);have:b=g:=by simpa[aO]using hb
  omega
theorem aQ.iH{B:Nat}{m:aQ}(h:m.own w B):∀b∈m.bs,B<=b:=by
 intro b hb;unfold aQ.bs at hb;simp only[qr]at hb;rcases hb with q|q|q|q
 .exact Go.Proofs.YtmkbdfidnfmgmaaGreat.iH h.rd b q
 .obtain⟨r,hr,q⟩:=rc.1 q;exact Go.Proofs.YtmkbdfidnfmgmaaGreat.iH (h.fq r hr) b q
 .exact Go.Proofs.YtmkbdfidnfmgmaaGreat.iH h.wr b q
 .obtain⟨r,hr,q⟩:=rc.1 q;rcases qr.1 q with q|q
  .exact Go.Proofs.YtmkbdfidnfmgmaaGreat.iH (h.gY r hr).1 b q
  .exact Go.Proofs.YtmkbdfidnfmgmaaGreat.iH (h.gY r hr).2 b q
variable{m:aQ}
theorem aY.iH{B:Nat}{M:aY}(h:M.own w B):∀b∈M.bs,B<=b:=by
 intro b hb;unfold aY.bs aY.fl at hb;simp only[qr]at hb;rcases hb with(q|q|q|q|q|q|q)|q
 .exact Go.Proofs.YtmkbdfidnfmgmaaGreat.iH h.ins b q
 .exact Go.Proofs.YtmkbdfidnfmgmaaGreat.iH h.out b q
 .exact Go.Proofs.YtmkbdfidnfmgmaaGreat.iH h.fe b q
 .exact Go.Proofs.YtmkbdfidnfmgmaaGreat.iH h.ga b q
 .exact Go.Proofs.YtmkbdfidnfmgmaaGreat.iH h.aT b q
 .exact Go.Proofs.YtmkbdfidnfmgmaaGreat.iH h.and b q
 .exact Go.Proofs.YtmkbdfidnfmgmaaGreat.iH h.mem b q
 .obtain⟨m,hm,q⟩:=rc.1 q;exact aQ.iH (h.kA m hm) b q
variable{M:aY}
theorem aY.dB{w':World}{B B':Nat}(h:M.own w B)(hb:∀b∈M.bs,w'.heap[b]?=w.heap[b]?/\B'<=b)(hs:w.heap.size<=w'.heap.size):M.own w' B':=by
 have k0:∀b∈M.fl,w'.heap[b]?=w.heap[b]?/\B'<=b:=fun b q=>hb b (AI _ q);unfold aY.fl at k0;simp only[qr]at k0;exact⟨Go.Proofs.YtmkbdfidnfmgmaaGreat.dB h.ins fun b q=>k0 b (.inl q),Go.Proofs.YtmkbdfidnfmgmaaGreat.dB h.out fun b q=>k0 b (.inr (.inl q)),Go.Proofs.YtmkbdfidnfmgmaaGreat.dB h.fe fun b q=>k0 b (.inr (.inr (.inl q))),Go.Proofs.YtmkbdfidnfmgmaaGreat.dB h.ga fun b q=>k0 b (.inr (.inr (.inr (.inl q)))),
  Go.Proofs.YtmkbdfidnfmgmaaGreat.dB h.aT fun b q=>k0 b (.inr (.inr (.inr (.inr (.inl q))))),Go.Proofs.YtmkbdfidnfmgmaaGreat.dB h.and fun b q=>k0 b (.inr (.inr (.inr (.inr (.inr (.inl q)))))),Go.Proofs.YtmkbdfidnfmgmaaGreat.dB h.mem fun b q=>k0 b (.inr (.inr (.inr (.inr (.inr (.inr q)))))),
  fun m hm=>aQ.dB (h.kA m hm) fun b q=>hb b (Fd _ (rc.2 ⟨m,hm,q⟩)),h.nd,fun b q=>arm (h.lt b q) hs⟩
variable{D:List cQ}{R:List cQ}{h:α->List cQ}
theorem OD{w0:World}{B k:Nat}{l:List α}{x:α}{L:List cQ}(hL:L=D++(l.flatMap h++R))(hP:fQ w0 B n b' L)(hx:l[k]?=some x) :
  fQ w0 B n b' ((D++(l.take k).flatMap h)++(h x++((l.drop (k+1)).flatMap h++R)))/\D++(l.take (k+1)).flatMap h=(D++(l.take k).flatMap h)++h x:=by
 subst hL;refine⟨?_,by rw[EP h hx,bM]⟩;rw[pq h hx]at hP;simpa only[bM]using hP
theorem Fl{w0:World}{B:Nat}{l:List α}{L:List cQ}(hL:L=D++(l.flatMap h++R))(hP:fQ w0 B n b' L)(k:Nat):∃rest,fQ w0 B n b' ((D++(l.take k).flatMap h)++rest):=by subst hL;refine⟨(l.drop k).flatMap h++R,?_⟩;rw[<-GT k l,BT]at hP;simpa only[bM]using hP
def fA(f:Int->Int)(A:pi)(p:Int×Nat):List cQ:=[⟨dS A,p.2,p.1,f p.1⟩]
theorem amF(f:Int->Int)(A:pi)(xs:jp):cw f A xs=xs.zipIdx.flatMap (fA f A):=by unfold cw;rw[List.map_eq_flatMap];rfl
theorem Oe(l:List α):l.zipIdx.take l.length=l.zipIdx:=by rw[<-List.length_zipIdx (l:=l) (i:=0),cV]
theorem uE{w0 w':World}{B:Nat}{xs':List α}(h:cX w0 B e z f A c xs)(hz:∀x,(f x).length=z)(hz0:0<z)(hlen:xs'.length=xs.length)
  (hsh:∀b∈aO A,∀cur,w0.heap[b]?=some (.cells cur e (0,0))->∃cur',w'.heap[b]?=some (.cells cur' e (0,0))/\cur'.size=cur.size)
  (hc:∀b,A=some ⟨b,0,none⟩->∀i x' k u,xs'[i]?=some x'->(f x')[k]?=some u->w'.cell? ⟨b,i*z+k,none⟩=some u):cX w' B e z f A c xs':=by
 obtain⟨hl,h⟩:=h;refine⟨pU hz xs',?_⟩;rcases h with⟨h,h0⟩|⟨g,cap,cur,e1,hg,hh,hcp,hm,hs,ht⟩
 .obtain⟨rfl,_,rfl⟩:=(by simpa using h:A=none/\xs=[]/\c=0);exact .inl ⟨by rw[hlen,h0],auc⟩
 .obtain⟨rfl,_,rfl⟩:=(by simpa using e1:A=some ⟨g,0,none⟩/\True/\c=cap);obtain⟨cur',h1,h2⟩:=hsh g (by simp[aO]) cur hh;refine .inr ⟨g,c,cur',rfl,hg,h1,auc,hm,auc,?_⟩;refine asD fun j=>?_;by_cases hj:j<xs'.length*z
  .have hi:j / z<xs'.length:=Nat.div_lt_of_lt_mul (by rwa [Nat.mul_comm]at hj);have hx:=bA hi;have hk:j % z<(f xs'[j / z]).length:=by rw[hz];exact Nat.mod_lt _ hz0
   have hu:=bA hk;have ej:j / z*z+j % z=j:=by rw[Nat.mul_comm];exact Nat.div_add_mod j z
   have hcell:=hc g rfl _ _ _ _ hx hu;have hfl:=NX hz xs' _ _ _ _ hx hu;rw[ej]at hcell hfl;rw[hfl,List.getElem?_take_of_lt hj];simp only[World.cell?,h1]at hcell;simpa using hcell
  .rw[asj (by rw[dK];omega),asj (by rw[pU hz];omega)]
theorem ajC(w:World)(a:Addr)(u:Value)(b:Nat)(cur:Array Value)(t:TypeId)(fr:Nat×Nat)(ha:a.spot=none)(h:w.heap[b]?=some (.cells cur t fr)):∃cur',(w.setCell a u).heap[b]?=some (.cells cur' t fr)/\cur'.size=cur.size:=by
 by_cases e:a.block=b
 .obtain⟨ab,ao,aq⟩:=a;cases ha;have e:ab=b:=e;subst e;refine⟨cur.setIfInBounds ao u,?_,aue⟩;simp only[World.setCell,Array.getElem?_modify,IO,h];rfl
 .exact⟨cur,(sA w a u b e).trans h,rfl⟩
theorem Z5(f:Int->Int):∀(us:List fE) (w:World) (b:Nat) (cur:Array Value) (t:TypeId) (fr:Nat×Nat),w.heap[b]?=some (.cells cur t fr)->∃cur',(cN f w us).heap[b]?=some (.cells cur' t fr)/\cur'.size=cur.size
 |[],w,b,cur,t,fr,h=>⟨cur,h,rfl⟩|u::us,w,b,cur,t,fr,h=>by obtain⟨c1,h1,s1⟩:=ajC w u.ad (.int .i64 (f u.2.2)) b cur t fr rfl h;obtain⟨c2,h2,s2⟩:=Z5 f us _ b c1 t fr h1;exact⟨c2,h2,s2.trans s1⟩
def fF(f g:Int->Int)(l:dI):dI:=⟨f l.var,g l.next,l.init⟩
def fO(f g:Int->Int)(a:dM):dM:=⟨f a.var,g a.a,g a.b⟩
def bZ.fu(f g:Int->Int)(r:bZ):bZ:={ r with var:=f r.var,addr:=r.addr.map g }
def cj.fu(g:Int->Int)(x:cj):cj:={ x with on:=g x.on,addr:=x.addr.map g,data:=x.data.map g }
def aQ.fu(f g:Int->Int)(m:aQ):aQ:={ m with reads:=m.reads.map (bZ.fu f g),writes:=m.writes.map (cj.fu g) }
def aY.fu(f g:Int->Int)(M:aY):aY:={ M with ax:=M.ax.map f,ah:=M.ah.map (fF f g),bk:=M.bk.map g,aU:=M.aU.map g,constraints:=M.constraints.map g,af:=M.af.map (aQ.fu f g),ag:=M.ag.map (fO f g) }
theorem ake(f g:Int->Int)(m:aQ):(m.fu f g).bs=m.bs:=by show aO m.A++((m.reads.map (bZ.fu f g)).flatMap bZ.bs++(aO m.A2++(m.writes.map (cj.fu g)).flatMap cj.bs))=_;rw[asK,asK];rfl
theorem abC(f g:Int->Int)(M:aY):(M.fu f g).bs=M.bs:=by show M.fl++(M.af.map (aQ.fu f g)).flatMap aQ.bs=_;rw[asK];unfold aY.bs;congr 1;exact NR fun m _=>ake f g m
structure xf(w0 w':World)(bs:md)(L:List cQ):Prop where
 sh:∀b∈bs,∀cur t,w0.heap[b]?=some (.cells cur t (0,0))->∃cur',w'.heap[b]?=some (.cells cur' t (0,0))/\cur'.size=cur.size
 pre:∀p∈L,w0.cell? p.ad=some (.int .i64 p.x)
 new:∀p∈L,w'.cell? p.ad=some (.int .i64 p.y)
 old:∀b∈bs,∀o v,(∀p∈L,p.ad≠⟨b,o,none⟩)->w0.cell? ⟨b,o,none⟩=some v->w'.cell? ⟨b,o,none⟩=some v
theorem akf{w0 w':World}{x:Nat}{bs:md}{L:List cQ}(hP:fP w0 bs L)(hlt:∀b∈bs,b<w0.heap.size/\b≠x)(hg:(cN id w0 (dg L)).grownBy w' (some x)):xf w0 w' bs L:=by
 have hb:∀b∈bs,w'.heap[b]?=(cN id w0 (dg L)).heap[b]?:=fun b q=>hg.block b (by rw[mE];exact(hlt b q).1) fun e=>(hlt b q).2 (BY e);refine⟨fun b q cur t h=>?_,fun p hp=>(hP.at_ p hp).1,fun p hp=>?_,fun b q o v hn h=>?_⟩
 .obtain⟨c',h1,h2⟩:=Z5 id (dg L) w0 b cur t (0,0) h;exact⟨c',(hb b q).trans h1,h2⟩
 .have:=aa8 id (dg L) w0 (by rw[IR];exact hP.nd) (fun u hu=>by obtain⟨z,hz,rfl⟩:=rt.1 hu;exact⟨_,(hP.at_ z hz).1⟩) p.u (AT hp);exact(World.cell?_of_block (a:=p.ad) (hb p.b (hP.at_ p hp).2.2)).trans this
 .refine(World.cell?_of_block (a:=⟨b,o,none⟩) (hb b q)).trans ((nz id (dg L) w0 _ rfl fun u hu e=>?_).trans h);obtain⟨z,hz,rfl⟩:=rt.1 hu;exact hn z hz e
section
variable{w0 w':World}{B:Nat}{bs:md}{L:List cQ}(hR:xf w0 w' bs L)
include hR
theorem xf.sl{b o:Nat}(hb:b∈bs)(h:w0.cell? ⟨b,o,none⟩=some (.slice A l c)):w'.cell? ⟨b,o,none⟩=some (.slice A l c):=hR.old b hb o _ (fun p hp e=>by have:=hR.pre p hp;rw[e,h]at this;cases this) h
theorem xf.bo{b o:Nat}{x:Bool}(hb:b∈bs)(h:w0.cell? ⟨b,o,none⟩=some (.bool x)):w'.cell? ⟨b,o,none⟩=some (.bool x):=hR.old b hb o _ (fun p hp e=>by have:=hR.pre p hp;rw[e,h]at this;cases this) h
theorem sF{xs:jp}(h:cX w0 B 3 1 cI A c xs)(hb:∀b∈aO A,b∈bs)(hL:∀p∈cw g A xs,p∈L):cX w' B 3 1 cI A c (xs.map g):=by
 refine uE h R9 auc (aG _) (fun b q cur hc=>hR.sh b (hb b q) cur _ hc) fun b hA i x' k u hx hu=>?_;rw[cW,asy]at hx;obtain⟨x,hx,rfl⟩:=hx;have hk:=(rg.1 hu).1;have hk:k=0:=by simp[cI]at hk;exact hk
 subst hk;have hu:Value.int .i64 (g x)=u:=by simpa[cI]using hu
 have:=hR.new ⟨dS A,i,x,g x⟩ (hL _ (rt.2 ⟨(x,i),arg.2 hx,rfl⟩));have e:dS A=b:=by rw[hA];rfl
 rw[Nat.mul_one,atf,<-hu,<-e];exact this
theorem alm{f:Int->Int}{r:bZ}(h:r.own w0 B)(hb:∀b∈r.bs,b∈bs)(hL:∀p∈cw g r.A r.addr,p∈L):(r.fu f g).own w' B:=sF hR h hb hL
theorem akF{x:cj}(h:x.own w0 B)(hb:∀b∈x.bs,b∈bs)(hL:∀p∈cw g x.A x.addr++cw g x.A2 x.data,p∈L):(x.fu g).own w' B:=⟨sF hR h.1 (fun b q=>hb b (AI _ q)) fun p q=>hL p (AI _ q),sF hR h.2 (fun b q=>hb b (Fd _ q)) fun p q=>hL p (Fd _ q)⟩
theorem amh{f:Int->Int}(h:m.own w0 B)(hb:∀b∈m.bs,b∈bs)(hL:∀p∈dz f g m,p∈L):(m.fu f g).own w' B:=by
 have hb2:=hb;unfold aQ.bs at hb2;simp only[qr]at hb2;unfold dz at hL;simp only[qr]at hL;refine⟨?_,?_,?_,?_⟩
 .refine uE (xs':=m.reads.map (bZ.fu f g)) h.rd sX auc (aG _) (fun b q cur hc=>hR.sh b (hb2 b (.inl q)) cur _ hc) fun b hA i x' k u hx hu=>?_;rw[cW,asy]at hx;obtain⟨x,hx,rfl⟩:=hx
  replace hA:m.A=some ⟨b,0,none⟩:=hA
  have e:dS m.A=b:=by rw[hA];rfl
  have hbb:b∈bs:=hb2 b (.inl (by simp[hA,aO]))
  match k,hu with
  |0,hu=>
   have hu:Value.int .i64 (f x.var)=u:=by simpa[bZ.cells,bZ.fu]using hu
   have:=hR.new ⟨dS m.A,i*2,x.var,f x.var⟩ (hL _ (.inl (rc.2 ⟨(x,i),arg.2 hx,Pi ..⟩)));rw[<-hu,<-e];exact this
  |1,hu=>
   have hu:Value.slice x.A x.addr.length x.c=u:=by simpa[bZ.cells,bZ.fu]using hu
   rw[<-hu];exact hR.sl hbb (jR sX h.rd hA hx rfl)
  |k+2,hu=>simp[bZ.cells]at hu
 .intro r hr;obtain⟨x,hx,rfl⟩:=rt.1 (show r∈m.reads.map (bZ.fu f g)from hr);obtain⟨i,hi,e⟩:=ash hx;exact alm hR (h.fq x hx) (fun b q=>hb2 b (.inr (.inl (rc.2 ⟨x,hx,q⟩)))) fun p q=>hL p (.inl (rc.2 ⟨(x,i),arg.2 (by rw[bA hi,e]),Id _ q⟩))
 .refine uE (xs':=m.writes.map (cj.fu g)) h.wr ov auc (aG _) (fun b q cur hc=>hR.sh b (hb2 b (.inr (.inr (.inl q)))) cur _ hc) fun b hA i x' k u hx hu=>?_;rw[cW,asy]at hx;obtain⟨x,hx,rfl⟩:=hx
  replace hA:m.A2=some ⟨b,0,none⟩:=hA
  have e:dS m.A2=b:=by rw[hA];rfl
  have hbb:b∈bs:=hb2 b (.inr (.inr (.inl (by simp[hA,aO]))))
  match k,hu with
  |0,hu=>
   have hu:Value.int .i64 (g x.on)=u:=by simpa[cj.cells,cj.fu]using hu
   have:=hR.new ⟨dS m.A2,i*3,x.on,g x.on⟩ (hL _ (.inr (rc.2 ⟨(x,i),arg.2 hx,Pi ..⟩)));rw[<-hu,<-e];exact this
  |1,hu=>
   have hu:Value.slice x.A x.addr.length x.c=u:=by simpa[cj.cells,cj.fu]using hu
   rw[<-hu];exact hR.sl hbb (jR ov h.wr hA hx rfl)
  |2,hu=>
   have hu:Value.slice x.A2 x.data.length x.c2=u:=by simpa[cj.cells,cj.fu]using hu
   rw[<-hu];exact hR.sl hbb (jR ov h.wr hA hx rfl)
  |k+3,hu=>simp[cj.cells]at hu
 .intro r hr;obtain⟨x,hx,rfl⟩:=rt.1 (show r∈m.writes.map (cj.fu g)from hr);obtain⟨i,hi,e⟩:=ash hx;exact akF hR (h.gY x hx) (fun b q=>hb2 b (.inr (.inr (.inr (rc.2 ⟨x,hx,q⟩))))) fun p q=>hL p (.inr (rc.2 ⟨(x,i),arg.2 (by rw[bA hi,e]),Id _ q⟩))
end
theorem alf{B:Nat}(f g:Int->Int)(h:M.own w B):(∀p∈iN f g M,p.b∉aO M.Am)/\∀p∈iN f g M,p.b∈aO M.Al->p∈M.ah.zipIdx.flatMap (eY f g M.Al):=by
 have hd:=h.nd;unfold aY.bs aY.fl at hd;have hm:∀p∈M.af.flatMap (dz f g),p.b∈M.af.flatMap aQ.bs:=(fP.flat (w0:=w) (fun m hm=>Fg f g (h.kA m hm) (by have hdm:=(rx.1 hd).2.1;obtain⟨i,hi,e⟩:=ash hm;have hs:=pq aQ.bs (bA hi);rw[hs,e]at hdm;exact(rx.1 (rx.1 hdm).2.1).1)) (rx.1 hd).2.1).at_ |> fun q p hp=>(q p hp).2.2;have hand:∀p∈M.ag.zipIdx.flatMap (ib f g M.An),p.b∈aO M.An:=by
  intro p hp;obtain⟨z,hz,hp⟩:=rc.1 hp;have hz2:=arg.1 hz;obtain⟨b,hA,_⟩:=kC h.and (fun e=>by rw[e]at hz2;simp at hz2);have:p.b=dS M.An:=by simp only[ib,Fn,atX,or_false]at hp;rcases hp with rfl|rfl|rfl<;>rfl
  rw[this,hA];simp[dS,aO]
 have hlat:∀p∈M.ah.zipIdx.flatMap (eY f g M.Al),p.b∈aO M.Al:=by
  intro p hp;obtain⟨z,hz,hp⟩:=rc.1 hp;have hz2:=arg.1 hz;obtain⟨b,hA,_⟩:=kC h.aT (fun e=>by rw[e]at hz2;simp at hz2);have:p.b=dS M.Al:=by simp only[eY,Fn,atX,or_false]at hp;rcases hp with rfl|rfl<;>rfl
  rw[this,hA];simp[dS,aO]
 have hpl:∀{A c xs}(g:Int->Int),cX w B 3 1 cI A c xs->∀p∈cw g A xs,p.b∈aO A:=fun g ho p hp=>((qN g ho).at_ p hp).2.2;have key:∀b,(b∈aO M.Am->b∉M.af.flatMap aQ.bs/\b∉aO M.Ai/\b∉aO M.Al/\b∉aO M.Ao/\b∉aO M.Ab/\b∉aO M.Ac/\b∉aO M.An)/\(b∈aO M.Al->b∉M.af.flatMap aQ.bs/\b∉aO M.Ai/\b∉aO M.Ao/\b∉aO M.Ab/\b∉aO M.Ac/\b∉aO M.An):=by
  intro b;simp only[rx,qr]at hd;obtain⟨⟨_,⟨_,⟨_,⟨_,⟨_,⟨_,_,x6⟩,x5⟩,x4⟩,x3⟩,x2⟩,x1⟩,_,x0⟩:=hd;refine⟨fun hb=>⟨fun q=>x0 b (.inr (.inr (.inr (.inr (.inr (.inr hb)))))) b q rfl,fun q=>x1 b q b (.inr (.inr (.inr (.inr (.inr hb))))) rfl,fun q=>x5 b q b (.inr hb) rfl,fun q=>x2 b q b (.inr (.inr (.inr (.inr hb)))) rfl,fun q=>x3 b q b (.inr (.inr (.inr hb))) rfl,fun q=>x4 b q b (.inr (.inr hb)) rfl,fun q=>x6 b q b hb rfl⟩,
   fun hb=>⟨fun q=>x0 b (.inr (.inr (.inr (.inr (.inl hb))))) b q rfl,fun q=>x1 b q b (.inr (.inr (.inr (.inl hb)))) rfl,fun q=>x2 b q b (.inr (.inr (.inl hb))) rfl,fun q=>x3 b q b (.inr (.inl hb)) rfl,fun q=>x4 b q b (.inl hb) rfl,fun q=>x5 b hb b (.inl q) rfl⟩⟩
 refine⟨fun p hp q=>?_,fun p hp q=>?_⟩
 .obtain⟨k0,k1,k2,k3,k4,k5,k6⟩:=(key p.b).1 q;unfold iN at hp;simp only[qr]at hp;rcases hp with hp|hp|hp|(hp|hp|hp)|hp
  .exact k0 (hm p hp)
  .exact k1 (hpl f h.ins p hp)
  .exact k2 (hlat p hp)
  .exact k3 (hpl g h.out p hp)
  .exact k4 (hpl g h.fe p hp)
  .exact k5 (hpl g h.ga p hp)
  .exact k6 (hand p hp)
 .obtain⟨k0,k1,k3,k4,k5,k6⟩:=(key p.b).2 q;unfold iN at hp;simp only[qr]at hp;rcases hp with hp|hp|hp|(hp|hp|hp)|hp
  .exact absurd (hm p hp) k0
  .exact absurd (hpl f h.ins p hp) k1
  .exact hp
  .exact absurd (hpl g h.out p hp) k3
  .exact absurd (hpl g h.fe p hp) k4
  .exact absurd (hpl g h.ga p hp) k5
  .exact absurd (hand p hp) k6
theorem aml{w0 w':World}{B:Nat}{f:Int->Int}(h:M.own w0 B)(hR:xf w0 w' M.bs (iN f g M))(hs:∀b∈M.bs,b<w'.heap.size):(M.fu f g).own w' B:=by
 have k0:∀b∈M.fl,b∈M.bs:=fun b q=>AI _ q;unfold aY.fl at k0;simp only[qr]at k0;obtain⟨far1,far2⟩:=alf f g h;have hL:∀p,p∈iN f g M↔p∈M.af.flatMap (dz f g)\/p∈cw f M.Ai M.ax\/p∈M.ah.zipIdx.flatMap (eY f g M.Al)\/(p∈cw g M.Ao M.bk\/p∈cw g M.Ab M.aU\/p∈cw g M.Ac M.constraints)\/p∈M.ag.zipIdx.flatMap (ib f g M.An):=fun p=>by unfold iN;simp only[qr]
 refine⟨sF hR h.ins (fun b q=>k0 b (.inl q)) fun p q=>(hL p).2 (.inr (.inl q)),sF hR h.out (fun b q=>k0 b (.inr (.inl q))) fun p q=>(hL p).2 (.inr (.inr (.inr (.inl (.inl q))))),sF hR h.fe (fun b q=>k0 b (.inr (.inr (.inl q)))) fun p q=>(hL p).2 (.inr (.inr (.inr (.inl (.inr (.inl q)))))),
  sF hR h.ga (fun b q=>k0 b (.inr (.inr (.inr (.inl q))))) fun p q=>(hL p).2 (.inr (.inr (.inr (.inl (.inr (.inr q)))))),?_,?_,?_,?_,?_,?_⟩
 .refine uE (xs':=M.ah.map (fF f g)) h.aT Ow auc (aG _) (fun b q cur hc=>hR.sh b (k0 b (.inr (.inr (.inr (.inr (.inl q)))))) cur _ hc) fun b hA i x' k u hx hu=>?_;rw[cW,asy]at hx;obtain⟨x,hx,rfl⟩:=hx
  replace hA:M.Al=some ⟨b,0,none⟩:=hA
  have e:dS M.Al=b:=by rw[hA];rfl
  have hba:b∈aO M.Al:=by simp[hA,aO]
  have hbb:b∈M.bs:=k0 b (.inr (.inr (.inr (.inr (.inl hba)))));have aS:∀p∈eY f g M.Al (x,i),p∈iN f g M:=fun p q=>(hL p).2 (.inr (.inr (.inl (rc.2 ⟨(x,i),arg.2 hx,q⟩))))
  match k,hu with
  |0,hu=>
   have hu:Value.int .i64 (f x.var)=u:=by simpa[dI.cells,fF]using hu
   have:=hR.new _ (aS _ (Pi ..));rw[<-hu,<-e];exact this
  |1,hu=>
   have hu:Value.int .i64 (g x.next)=u:=by simpa[dI.cells,fF]using hu
   have:=hR.new _ (aS _ (Id _ (Pi ..)));rw[<-hu,<-e];exact this
  |2,hu=>
   have hu:Value.int .i64 x.init=u:=by simpa[dI.cells,fF]using hu
   rw[<-hu];refine hR.old b hbb _ _ (fun p hp q=>?_) (jR (k:=2) Ow h.aT hA hx rfl);have hpb:p.b=b:=OF Addr.block q;have hpo:p.o=i*3+2:=OF Addr.off q;obtain⟨z,hz,hp⟩:=rc.1 (far2 p hp (by rw[hpb];exact hba));simp only[eY,Fn,atX,or_false]at hp;rcases hp with rfl|rfl
   .have hpo:z.2*3=i*3+2:=hpo;omega
   .have hpo:z.2*3+1=i*3+2:=hpo;omega
  |k+3,hu=>simp[dI.cells]at hu
 .refine uE (xs':=M.ag.map (fO f g)) h.and abw auc (aG _) (fun b q cur hc=>hR.sh b (k0 b (.inr (.inr (.inr (.inr (.inr (.inl q))))))) cur _ hc) fun b hA i x' k u hx hu=>?_;rw[cW,asy]at hx;obtain⟨x,hx,rfl⟩:=hx
  replace hA:M.An=some ⟨b,0,none⟩:=hA
  have e:dS M.An=b:=by rw[hA];rfl
  have aS:∀p∈ib f g M.An (x,i),p∈iN f g M:=fun p q=>(hL p).2 (.inr (.inr (.inr (.inr (rc.2 ⟨(x,i),arg.2 hx,q⟩)))))
  match k,hu with
  |0,hu=>
   have hu:Value.int .i64 (f x.var)=u:=by simpa[dM.cells,fO]using hu
   have:=hR.new _ (aS _ (Pi ..));rw[<-hu,<-e];exact this
  |1,hu=>
   have hu:Value.int .i64 (g x.a)=u:=by simpa[dM.cells,fO]using hu
   have:=hR.new _ (aS _ (Id _ (Pi ..)));rw[<-hu,<-e];exact this
  |2,hu=>
   have hu:Value.int .i64 (g x.b)=u:=by simpa[dM.cells,fO]using hu
   have:=hR.new _ (aS _ (Id _ (Id _ (Pi ..))));rw[<-hu,<-e];exact this
  |k+3,hu=>simp[dM.cells]at hu
 .refine uE (xs':=M.af.map (aQ.fu f g)) h.mem nD auc (aG _) (fun b q cur hc=>hR.sh b (k0 b (.inr (.inr (.inr (.inr (.inr (.inr q))))))) cur _ hc) fun b hA i x' k u hx hu=>?_;rw[cW,asy]at hx;obtain⟨x,hx,rfl⟩:=hx
  replace hA:M.Am=some ⟨b,0,none⟩:=hA
  have hba:b∈aO M.Am:=by simp[hA,aO]
  have hbb:b∈M.bs:=k0 b (.inr (.inr (.inr (.inr (.inr (.inr hba))))));have hu2:x.cells[k]?=some u:=by
   have e:(x.fu f g).cells=x.cells:=by show[_,_,_,Value.slice x.A (x.reads.map (bZ.fu f g)).length x.c,Value.slice x.A2 (x.writes.map (cj.fu g)).length x.c2]=_;rw[aG,aG];rfl
   rw[<-e];exact hu
  refine hR.old b hbb _ _ (fun p hp q=>far1 p hp ?_) (jR nD h.mem hA hx hu2);have hpb:p.b=b:=OF Addr.block q;rw[hpb];exact hba
 .intro m hm;obtain⟨x,hx,rfl⟩:=rt.1 (show m∈M.af.map (aQ.fu f g)from hm);exact amh hR (h.kA x hx) (fun b q=>Fd _ (rc.2 ⟨x,hx,q⟩)) fun p q=>(hL p).2 (.inl (rc.2 ⟨x,hx,q⟩))
 .rw[abC];exact h.nd
 .rw[abC];exact hs
end Go.Proofs.YtmkbdfidnfmgmaaGreat
end
section
namespace Go.Proofs.YtmkbdfidnfmgmaaGreat.V
open Go Go.RowKit Go.Proofs.YtmkbdfidnfmgmaaGreat.Pl
theorem EY{α:Type}{σ:Sh}{w:World}{P:Nat->Prop}{f:α->mt}{T:α->σ.T}:∀{xs:List α},(∀x∈xs,Cs w P σ (T x) (f x))->cF (Cs w P σ) (xs.map T) (xs.flatMap f)
 |[],_=>rfl|x::xs,h=>⟨f x,xs.flatMap f,rfl,h x (Pi ..),EY fun y hy=>h y (Id _ hy)⟩
variable{σ:Sh}{A:pi}{c:Nat}
theorem oq{α:Type}{w:World}{P:Nat->Prop}{B:Nat}{e:TypeId}{z:Nat}{f:α->mt}{T:α->σ.T}{xs:List α}(h:cX w B e z f A c xs)(hf:∀x∈xs,Cs w P σ (T x) (f x))(hA:∀b∈aO A,¬P b) :
  Cs w P (.sl σ) (xs.map T) [.slice A xs.length c]:=by
 obtain⟨k1,k2,_,_⟩:=aaG h;refine⟨A,xs.length,c,rfl,(aG _).symm,k1,fun hne=>?_⟩;have hx:xs≠[]:=fun e=>hne (by rw[e];rfl);obtain⟨hl,h⟩:=h;rcases h with⟨h,h0⟩|⟨g,cap,cur,e1,hg,hh,hc,hm,hs,ht⟩
 .exact absurd (AC h0) hx
 .obtain⟨rfl,_,rfl⟩:=(by simpa using e1:A=some ⟨g,0,none⟩/\True/\c=cap);refine⟨g,0,xs.flatMap f,rfl,hA g (by simp[aO]),EY hf,cur,e,(0,0),hh,fun j u hj=>?_⟩;rw[<-ht,atC]at hj;split at hj
  .simpa using hj
  .cases hj
variable{xs:jp}
theorem kP{w:World}{P:Nat->Prop}{B:Nat}(h:cX w B 3 1 cI A c xs)(hA:∀b∈aO A,¬P b):Cs w P (.sl .I) xs [.slice A xs.length c]:=by have:=oq (σ:=.I) (T:=fun x:Int=>x) h (fun x _=>rfl) hA;have e:xs.map (fun x:Int=>x)=xs:=List.map_id' xs;exact(OF (fun L:jp=>Cs w P (.sl .I) L [.slice A xs.length c]) e).mp this
section
variable{w:World}{P:Nat->Prop}{B:Nat}
theorem amH{r:bZ}(h:r.own w B)(hA:∀b∈r.bs,¬P b):Cs w P bO (bS r.d) r.cells:=⟨[.int .i64 r.var],_,rfl,rfl,_,[],rfl,kP h hA,rfl⟩
theorem alJ{x:cj}(h:x.own w B)(hA:∀b∈x.bs,¬P b):Cs w P bu (bX x.d) x.cells:=⟨[.int .i64 x.on],_,rfl,rfl,[_],_,rfl,kP h.1 (fun b q=>hA b (AI _ q)),[_],[],rfl,kP h.2 (fun b q=>hA b (Fd _ q)),rfl⟩
theorem Ox{m:aQ}(h:m.own w B)(hA:∀b∈m.bs,¬P b):Cs w P ai (aM m.d) m.cells:=by
 unfold aQ.bs at hA;simp only[qr]at hA;have k1:=oq (σ:=bO) (T:=fun r:bZ=>bS r.d) (P:=P) h.rd (fun r hr=>amH (h.fq r hr) fun b q=>hA b (.inr (.inl (rc.2 ⟨r,hr,q⟩)))) fun b q=>hA b (.inl q);have k2:=oq (σ:=bu) (T:=fun r:cj=>bX r.d) (P:=P) h.wr (fun r hr=>alJ (h.gY r hr) fun b q=>hA b (.inr (.inr (.inr (rc.2 ⟨r,hr,q⟩))))) fun b q=>hA b (.inr (.inr (.inl q)));refine⟨[.int .i64 m.addr],_,rfl,rfl,[.int .i64 m.word],_,rfl,rfl,[.bool m.any],_,rfl,rfl,[_],_,rfl,?_,[_],[],rfl,?_,rfl⟩
 .show Cs w P (.sl bO) ((m.reads.map bZ.d).map bS) _;rw[IR];exact k1
 .show Cs w P (.sl bu) ((m.writes.map cj.d).map bX) _;rw[IR];exact k2
theorem Ov(x:dI):Cs w P ae (aX x) x.cells:=⟨[_],_,rfl,rfl,[_],_,rfl,rfl,[_],[],rfl,rfl,rfl⟩
theorem abn(x:dM):Cs w P ae (aL x) x.cells:=⟨[_],_,rfl,rfl,[_],_,rfl,rfl,[_],[],rfl,rfl,rfl⟩
end
open Go.Proofs.YtmkbdfidnfmgmaaGreat.Ev (Tr Tr.d6 nth fc Ex)
def tE(X:Cx)(tr:Tr cp)(w':World)(loc:Loc):Cx:=⟨fun i=>if i=0 then some loc else none,⟨tr,1⟩,w',X.A⟩
variable{loc:Loc}{X:Cx}{b:Nat}{tr:Tr cp}{w':World}
theorem aaL(h:(tE X tr w' loc).dY b):loc.own b:=by
 obtain⟨i,o,l,h1,h2,h3⟩:=h;have h2:(if i=0 then some loc else none)=some l:=h2;split at h2
 .cases h2;exact h3
 .cases h2
variable{L:List σ.T}{ty:TypeId}
theorem amw(H:bn X)(hX:X.h=⟨.nil,0⟩)(hb:Below X.w.heap.size X.w w')(h0:tr.get 0=some (.arr σ L ty))(h1:∀i,i≠0->tr.get i=none)
  (hl:∀b,loc.own b->X.w.heap.size<=b/\b<w'.heap.size) (ho:jd (tE X tr w' loc) loc (.arr σ L ty)):bn (tE X tr w' loc)/\bL X (tE X tr w' loc):=by
 have sg:∀i l,(tE X tr w' loc).s i=some l->i=0/\l=loc:=fun i l h=>by
  have h:(if i=0 then some loc else none)=some l:=h;split at h
  .cases h;exact⟨by assumption,rfl⟩
  .cases h
 have s0:∀i l,X.s i≠some l:=fun i l h=>by have:=H.eh i l h;rw[hX]at this;exact absurd this (asn i)
 have noimg:∀b,¬X.dY b:=fun b ⟨i,o,l,_,q,_⟩=>s0 i l q;refine⟨⟨?_,?_,?_,?_,?_,?_⟩,⟨hb.os,hb.tape,hb.output,hb.size,?_,?_,?_,?_,?_,?_,?_,rfl⟩⟩
 .intro i o l hi hs;obtain⟨rfl,rfl⟩:=sg i l hs;have hi:tr.get 0=some o:=hi;rw[h0]at hi;cases hi;exact ho
 .intro i j o o' l l' b _ _ hi hj _ _;exact(sg i l hi).1.trans (sg j l' hj).1.symm
 .intro i o hi;show i<1;by_cases e:i=0
  .omega
  .have hi:tr.get i=some o:=hi;rw[h1 i e]at hi;cases hi
 .intro i l hs;show i<1;have:=(sg i l hs).1;omega
 .intro b hA;have:=H.alt b hA;have:=hb.size;show b<w'.heap.size;omega
 .intro i o l b _ hs hob hA;obtain⟨_,rfl⟩:=sg i l hs;have:=(hl b hob).1;have:=H.alt b hA;omega
 .intro i l h;exact absurd h (s0 i l)
 .intro i l hi _;rw[hX]at hi;exact absurd hi (asn i)
 .rw[hX];exact Do _
 .intro b hlt _;exact hb.block b hlt
 .intro b h;exact .inr (hl b (aaL h)).1
 .intro j n hj;rw[hX]at hj;exact absurd hj (asn j)
 .intro i hi;rw[hX]at hi;exact absurd hi (asn i)
def jG(A:pi)(c:Nat):Loc:=match A with|some a=>.at a.block c|none=>.nil
theorem uy:(jG A c).own b->b∈aO A:=by cases A with|none=>exact fun h=>h.elim|some a=>exact fun h=>by have h:b=a.block:=h;rw[h];simp[aO]
theorem aaA{B:Nat}{xs:List dM}(h:cX X.w B 113 3 dM.cells A c xs):jd X (jG A c) (.arr ae (xs.map aL) 113)/\Value.slice A xs.length c=(jG A c).slice xs.length:=by
 obtain⟨hl,h⟩:=h;rcases h with⟨h,h0⟩|⟨g,cap,cur,e1,hg,hh,hc,hm,hs,ht⟩
 .obtain⟨rfl,_,rfl⟩:=(by simpa using h:A=none/\xs=[]/\c=0);exact⟨by rw[AC h0];rfl,rfl⟩
 .obtain⟨rfl,_,rfl⟩:=(by simpa using e1:A=some ⟨g,0,none⟩/\True/\c=cap);refine⟨⟨xs.flatMap dM.cells,cur.toList.drop (xs.length*3),?_,EY fun x _=>abn x,?_,by rw[aG];exact hc⟩,rfl⟩
  .rw[<-ht,GT];exact hh
  .have hdr:(List.drop (xs.length*3) cur.toList).length=c*3-xs.length*3:=by rw[asR];simp[hs]
   rw[hl,hdr];show xs.length*3+(c*3-xs.length*3)=c*3;have:xs.length*3<=c*3:=asm 3 hc;omega
def mv(X:Cx)(tr:Tr cp)(w':World)(loc:Loc):Cx:=⟨dw X.s X.h.next loc,⟨tr,X.h.next+1⟩,w',X.A⟩
theorem aaC(H:bn X)(hb:Below X.w.heap.size X.w w'){o:cp}(h0:tr.get X.h.next=some o)(h1:∀i,i≠X.h.next->tr.get i=X.h.tr.get i)
  (hl:∀b,loc.own b->X.w.heap.size<=b/\b<w'.heap.size) (ho:jd (mv X tr w' loc) loc o):bn (mv X tr w' loc)/\bL X (mv X tr w' loc):=by
 have hn:X.s X.h.next=none:=by cases q:X.s X.h.next with|none=>rfl|some l=>have:=H.eh _ _ q;omega
 have sg:∀j l,(mv X tr w' loc).s j=some l->(j=X.h.next/\l=loc)\/(j≠X.h.next/\X.s j=some l):=fun j l h=>by
  have h:dw X.s X.h.next loc j=some l:=h;by_cases q:j=X.h.next
  .subst q;rw[iu]at h;cases h;exact .inl ⟨rfl,rfl⟩
  .rw[fL _ _ _ q]at h;exact .inr ⟨q,h⟩
 have tg:∀j,j≠X.h.next->(mv X tr w' loc).h.tr.get j=X.h.tr.get j:=h1;have E:bL X (mv X tr w' loc):=by
  refine⟨hb.os,hb.tape,hb.output,hb.size,?_,?_,Nat.le_succ _,?_,?_,?_,?_,rfl⟩
  .intro i l h;have:=H.eh i l h;show dw X.s _ _ i=_;rw[fL _ _ _ auc];exact h
  .intro i l hi h;rcases sg i l h with⟨rfl,_⟩|⟨_,h⟩
   .omega
   .exact h
  .intro b hlt _;exact hb.block b hlt
  .rintro b ⟨i,avN,l,a,b2,c⟩;rcases sg i l b2 with⟨rfl,rfl⟩|⟨q,h⟩
   .exact .inr (hl b c).1
   .rw[tg i q]at a;exact .inl ⟨i,avN,l,a,h,c⟩
  .intro j n hj h;have h:rowOf tr j=some n:=h;unfold rowOf at h |-;rw[h1 j auc]at h;exact h
  .intro i hi _;exact h1 i auc
 refine⟨⟨?_,?_,?_,?_,?_,?_⟩,E⟩
 .intro i avN l a b;rcases sg i l b with⟨rfl,rfl⟩|⟨q,h⟩
  .have a:tr.get X.h.next=some avN:=a;rw[h0]at a;cases a;exact ho
  .rw[tg i q]at a;exact(H.obj i avN l a h).ext (E.fC H) fun b hob=>hb.block b (H.ng a h hob)
 .intro i j avN avO l l' b a1 a2 b1 b2 c1 c2;rcases sg i l b1 with⟨rfl,rfl⟩|⟨q,h⟩
  .rcases sg j l' b2 with⟨rfl,rfl⟩|⟨q',h'⟩
   .rfl
   .rw[tg j q']at a2;have:=H.ng a2 h' c2;have:=(hl b c1).1;omega
  .rw[tg i q]at a1;rcases sg j l' b2 with⟨rfl,rfl⟩|⟨q',h'⟩
   .have:=H.ng a1 h c1;have:=(hl b c2).1;omega
   .rw[tg j q']at a2;exact H.inj i j avN avO l l' b a1 a2 h h' c1 c2
 .intro i avN a;show i<X.h.next+1;by_cases q:i=X.h.next
  .omega
  .rw[tg i q]at a;have:=H.lt i avN a;omega
 .intro i l h;show i<X.h.next+1;rcases sg i l h with⟨rfl,_⟩|⟨_,h⟩
  .omega
  .have:=H.eh i l h;omega
 .intro b hA;have:=H.alt b hA;have:=hb.size;show b<w'.heap.size;omega
 .intro i avN l b a hs hob hA;have hlt:=H.alt b hA;rcases sg i l hs with⟨rfl,rfl⟩|⟨q,h⟩
  .have:=(hl b hob).1;omega
  .rw[tg i q]at a;exact H.loc i avN l b a h hob hA
theorem aab(H:bn X)(hb:Below X.w.heap.size X.w w'):bn ⟨X.s,X.h,w',X.A⟩/\bL X ⟨X.s,X.h,w',X.A⟩:=by have E:bL X ⟨X.s,X.h,w',X.A⟩:=⟨hb.os,hb.tape,hb.output,hb.size,fun _ _ h=>h,fun _ _ _ h=>h,ro _,fun b h _=>hb.block b h,fun _ h=>.inl h,fun _ _ _ h=>h,fun _ _ _=>rfl,rfl⟩;refine⟨⟨fun i o l a b=>(H.obj i o l a b).ext (E.fC H) fun x hx=>hb.block x (H.ng a b hx),H.inj,H.lt,H.eh,fun b hA=>arm (H.alt b hA) hb.size,H.loc⟩,E⟩
theorem NT(w:World)(A:Nat->Prop):ka w A w (fun _=>False):=fun _ _ _ q=>⟨q,fun f=>f⟩
theorem abD(H:bn X){i:Nat}{l:Loc}(hi:X.h.tr.get i=some (.arr σ L ty))(hs:X.s i=some l):Cs X.w (fun _=>False) (.sl σ) L [l.slice L.length]:=by
 have h:=H.obj i _ l hi hs;cases l with
 |nil=>have h:L=[]:=h;subst h;exact⟨none,0,0,rfl,rfl,ro _,fun q=>absurd rfl q⟩|«at» b c=>
  obtain⟨cs,tail,h1,h2,h3,h4⟩:=h;by_cases q:X.out b
  .refine⟨some ⟨b,0,none⟩,L.length,c,rfl,rfl,h4,fun _=>⟨b,0,cs,rfl,fun f=>f,cF.mono (fun x c q=>Cs.bU (NT X.w X.out) q) h2,?_⟩⟩;refine⟨_,ty,(0,0),h1,fun j u hj=>?_⟩;have hl:=(rg.1 hj).1;rw[asz,IN,Ne hl];exact hj
  .exact absurd (.inr ⟨i,_,_,hi,hs,rfl⟩) q
 |gW b c m=>exact h.elim
theorem ak2{B:Nat}(h:cX X.w B 3 1 cI A c xs):jd X (jG A c) (.arr .I xs 3)/\Value.slice A xs.length c=(jG A c).slice xs.length:=by
 obtain⟨hl,h⟩:=h;rcases h with⟨h,h0⟩|⟨g,cap,cur,e1,hg,hh,hc,hm,hs,ht⟩
 .obtain⟨rfl,_,rfl⟩:=(by simpa using h:A=none/\xs=[]/\c=0);exact⟨by rw[AC h0];rfl,rfl⟩
 .obtain⟨rfl,_,rfl⟩:=(by simpa using e1:A=some ⟨g,0,none⟩/\True/\c=cap);refine⟨⟨xs.flatMap cI,cur.toList.drop (xs.length*1),?_,((OF (fun L:jp=>cF (Cs X.w X.out .I) L (xs.flatMap cI)) (List.map_id' xs)).mp (EY (σ:=.I) (w:=X.w) (P:=X.out) (f:=cI) (T:=fun x:Int=>x) (xs:=xs) fun x _=>rfl)),?_,hc⟩,rfl⟩
  .rw[<-ht,GT];exact hh
  .have hdr:(List.drop (xs.length*1) cur.toList).length=c*1-xs.length*1:=by rw[asR];simp[hs]
   rw[hl,hdr];show xs.length*1+(c*1-xs.length*1)=c*1;omega
end Go.Proofs.YtmkbdfidnfmgmaaGreat.V
end
section
namespace Go.Proofs.YtmkbdfidnfmgmaaGreat
open Go Go.RowKit Pl
set_option maxRecDepth 20000
set_option maxHeartbeats 4000000
variable{bm:Nat}{n:Nat}{W:World}{w0:World}{off':Nat}{c':Nat}{tl:jp}{m:aQ}{b':Nat}
theorem akz{B off:Nat}{d r:List cQ}(hP:fQ w0 B n b' (d++(dz (pp tl) (az tl) m++r)))(hB:B=w0.heap.size)(hb:Below B (cN id w0 (dg d)) W)
  (hR:Reads w0 B 1 (some ⟨b',off',none⟩) n (tl.map (Value.int .i64))) (d8:∀y∈tl,0<=y/\y<=1000000) (hn:n<=1048576) (hM:sU w0 B bm off m) (hF:rb m.d) (hd:∀u∈dg d,u.1∉m.bs/\u.1≠bm) (hL:∀p∈dz (pp tl) (az tl) m,p.b≠bm)
  (hok:xy tl m.d) (hv:∀x∈m.reads,x.var<n/\∀y∈x.addr,y / 2<n) (hw:∀x∈m.writes,x.on / 2<n/\(∀y∈x.addr,y / 2<n)/\∀y∈x.data,y / 2<n) :
  Calls Tryz.prog 150 #[.agg #[.slice (some ⟨b',off',none⟩) n c'],.pointer (some ⟨bm,off,none⟩)] W fun e w'=>e=.returned (.bool true)/\Below B (cN id w0 (dg (d++dz (pp tl) (az tl) m))) w':=by
 have hBs:=E3 hb hB;have hN:=hM.now hb hd hBs;have hdb:∀u∈dg d,u.1≠b':=fun u hu=>by obtain⟨z,hz,rfl⟩:=rt.1 hu;exact(hP.at_ z (by simp[hz])).2.2.2.1
 have hRW:=ET hb hdb hBs hR;have hrl:m.reads.length<=100:=by have h:=hF.kO;rwa [show m.d.reads.length=m.reads.length from aG _]at h
 have hwl:m.writes.length<=100:=by have h:=hF.ph;rwa [show m.d.writes.length=m.writes.length from aG _]at h
 have m0:W.cell? ⟨bm,off,none⟩=some (.int .i64 m.addr):=hN.c 0 _ rfl;have m1:=hN.c 1 _ rfl;have m2:=hN.c 2 _ rfl;have m3:=hN.c 3 _ rfl;have m4:=hN.c 4 _ rfl;have hbmW:=hN.bm;have HP:=Lib.hid hP;have HB:=Lib.hid hb;have HR:=Lib.hid hR;have HRW:=Lib.hid hRW;have HT:=Lib.hid d8;have HM:=Lib.hid hM;have HN:=Lib.hid hN;have HF:=Lib.hid hF;have HD:=Lib.hid hd;have HL:=Lib.hid hL;have HO:=Lib.hid hok;have HV:=Lib.hid hv;have HW:=Lib.hid hw;clear hP hb hR hRW d8 hM hN hF hd hL hok hv hw hdb
 go_enter Tryz.func150,Tryz.ntmps150
 go_wp2_with fail
 go_loopw [17] (fun i wr=>∃j:Nat,j<=m.reads.length/\i=.int .i64 j/\wr.cell? ⟨W.heap.size,0,none⟩=some (.slice (some ⟨b',off',none⟩) n c')/\W.heap.size<wr.heap.size/\Below W.heap.size W wr) (fun i _=>m.reads.length-(intOf i).toNat)
 case atStart=>
  refine⟨0,Do _,rfl,?_,aue,(Below.refl _ W).alloc (ro _) _⟩
  go_simp
 case round=>
  obtain⟨j,hj,rfl,hbox,hsz,hbl⟩:=hrel;have n0:=(hbl.cell (p:=⟨bm,off,none⟩) hbmW).trans m0;have n1:=(hbl.cell (p:=⟨bm,off+1,none⟩) hbmW).trans m1;have n2:=(hbl.cell (p:=⟨bm,off+2,none⟩) hbmW).trans m2;have n3:=(hbl.cell (p:=⟨bm,off+3,none⟩) hbmW).trans m3;have n4:=(hbl.cell (p:=⟨bm,off+4,none⟩) hbmW).trans m4;by_cases hlt:j<m.reads.length
  .have hrj:m.reads[j]?=some m.reads[j]:=bA hlt;have hrm:=ut hlt;obtain⟨br,hA,hbr0,hbr1,hbrf⟩:=kC HN.out.own.rd (fun e=>by rw[e]at hlt;exact asn _ hlt);have cv:wr.cell? ⟨br,j*2,none⟩=some (.int .i64 m.reads[j].var):=(hbl.cell (p:=⟨br,j*2,none⟩) hbr1).trans (jR (k:=0) sX HN.out.own.rd hA hrj rfl);have hmf:=HF.out.fq m.reads[j].d (AT hrm);have hsw:W.heap.size<=wr.heap.size:=asZ hsz;have HDt:Hid (Calls Tryz.prog 108 #[.agg #[.int .i64 m.addr,.int .i64 m.word,.bool m.any,.slice (some ⟨br,0,none⟩) m.reads.length m.c,.slice m.A2 m.writes.length m.c2],.int .i64 j] wr (tS 3 wr (ints (cM m.reads[j].var m.word.toNat)))):=by
    have:=akJ m j m.reads[j] wr ((HN.out.dk.below hbl).more hsw) hrj hrl HF.out.word.2 HF.out.word.1.1 hmf.2.1 hmf.2.2.1;unfold aQ.v at this
    rwa [hA]at this
   rw[hA]at n3;have hok:=HO.out m.reads[j].d (AT hrm);have HOK:=Lib.hid (show ∀i:Nat,i<m.word.toNat->0<=m.reads[j].var/\m.reads[j].var+i<tl.length/\tl.getD (m.reads[j].var+i).toNat 0=tl.getD m.reads[j].var.toNat 0+i from hok);have hK:m.word.toNat<=4000:=by have:=HF.out.word.2;have h:m.word<=4000:=this;omega
   clear hrj hrm hA hbrf hmf hok hbr0;generalize m.reads[j].var=v at *
   generalize m.word.toNat=K at *
   go_wp2_with (refine HDt.out.mono ?_;rintro e w1 ⟨Ad,cd,rfl,hd1,hd2,hod,hbd⟩;have hdl:(ints (cM v K)).length=K:=(by simp[ints,cM]);have HOD:=Lib.hid hod;rw[hdl])
   have hod2:cX w1 wr.heap.size 3 1 cI Ad cd (cM v K):=by have:=HOD.out;rw[show(ints (cM v K)).length=(cM v K).length from by simp[ints],ES]at this;exact this
   clear hod hd1 hd2 HOD hdl HDt;have hs1:=hbd.size;obtain⟨wo,rfl⟩:∃x,x=wr:=⟨_,rfl⟩;have HOD:=Lib.hid hod2;clear hod2
   go_loopw [32] (fun i wq=>∃k:Nat,k<=K/\i=.int .i64 k/\Below w1.heap.size w1 wq) (fun i _=>K-(intOf i).toNat)
   case atStart=>exact⟨0,Do _,rfl,Below.refl _ _⟩
   case round=>
    obtain⟨wq,rfl⟩:∃x,x=wr:=⟨_,rfl⟩;obtain⟨k,hk,rfl,hbq⟩:=hrel;have hs2:=hbq.size;have box2:wq.cell? ⟨W.heap.size,0,none⟩=some (.slice (some ⟨b',off',none⟩) n c'):=(hbq.cell (by show W.heap.size<_;omega)).trans ((hbd.cell hsz).trans hbox);have cv2:wq.cell? ⟨br,j*2,none⟩=some (.int .i64 v):=(hbq.cell (by show br<_;omega)).trans ((hbd.cell (by show br<_;omega)).trans cv);by_cases hkl:k<K
    .obtain⟨h1,h2,h3⟩:=HOK.out k hkl;obtain⟨vn,rfl⟩:=By h1;have hdk:(cM (vn:Int) K)[k]?=some ((vn+k:Nat):Int):=by unfold cM;rw[cW,atd hkl];rfl
     obtain⟨dv,rfl,hdv0,hdv1,hdvf⟩:=kC HOD.out (fun e=>by rw[e]at hdk;cases hdk);have cdv:wq.cell? ⟨dv,k,none⟩=some (.int .i64 ((vn+k:Nat):Int)):=by have:=jR R9 HOD.out rfl (k:=0) hdk rfl;rw[Nat.mul_one]at this;exact(hbq.cell (p:=⟨dv,k,none⟩) hdv1).trans this
     have hln:tl.length=n:=by have:=HRW.out.1;simpa using this
     have e0:((vn:Int)+(k:Int)).toNat=vn+k:=auc
     rw[e0,ST]at h3;obtain⟨tb,toff,te,htB,htz⟩:=HRW.out.pJ (k:=vn+k) auc;cases te;obtain⟨tb,toff,te,_,ht0⟩:=HRW.out.pJ (k:=vn) auc;cases te;rw[h3]at htz;have hlow:∀{a:Addr}{u:Value},a.block<W.heap.size->W.cell? a=some u->wq.cell? a=some u:=fun ha hu=>(hbq.cell auc).trans ((hbd.cell auc).trans ((hbl.cell ha).trans hu));have tz:=hlow (a:=⟨b',off'+(vn+k),none⟩) htB htz;have t0:=hlow (a:=⟨b',off'+vn,none⟩) htB ht0;have hy:0<=tl.getD vn 0/\tl.getD vn 0<=1000000:=by rw[ff,bA auc];exact HT.out _ (ut _)
     have hz:vn+k<n:=auc
     have hz0:vn<n:=auc
     clear h1 h2 h3 hdk hdvf hlow ht0 htz hln e0;generalize tl.getD vn 0=y at *
     go_wp2_with fail
     go_region
     all_goals go_wp2_with fail
     go_roundw
     case rel=>exact⟨k+1,auc,by go_num,hbq.drew⟩
     case measure=>simp[intOf];omega
    .obtain rfl:k=K:=auc
     go_wp2_with fail
     go_roundw
     case rel=>exact⟨j+1,auc,by go_num,box2,auc,(hbl.trans (hbd.mono hsw)).trans (hbq.mono auc)⟩
     case measure=>simp[intOf];omega
  .obtain rfl:j=m.reads.length:=auc
   have hst0:Hid (f8 w0 B W.heap.size (.slice (some ⟨b',off',none⟩) n c') (d++(m.reads.zipIdx.take 0).flatMap (gr (pp tl) (az tl) m.A)) wr):=by rw[WP,NE,di];exact⟨hbox,hBs,hsz,HB.out.trans (hbl.mono hBs)⟩
   go_wp2_with fail
   go_loopw [60] (fun i wq=>∃k:Nat,k<=m.reads.length/\i=.int .i64 k/\Hid (f8 w0 B W.heap.size (.slice (some ⟨b',off',none⟩) n c') (d++(m.reads.zipIdx.take k).flatMap (gr (pp tl) (az tl) m.A)) wq)) (fun i _=>m.reads.length-(intOf i).toNat)
   case atStart=>exact⟨0,Do _,rfl,hst0⟩
   case round=>
    clear hst0 n0 n1 n2 n3 n4 hbox hbl hsz;obtain⟨wq,rfl⟩:∃x,x=wr:=⟨_,rfl⟩;obtain⟨k,hk,rfl,HS⟩:=hrel;have hbox:=HS.out.box;have hsz:=HS.out.lt;have hc3:w0.cell? ⟨bm,off+3,none⟩=some (.slice m.A m.reads.length m.c):=HM.out.c 3 _ rfl;by_cases hkl:k<m.reads.length
    .have hrk:m.reads[k]?=some m.reads[k]:=bA hkl;have hrm:=ut hkl;obtain⟨br,hA,_,hbrW,hbrf⟩:=kC HM.out.own.rd (fun e=>by rw[e]at hkl;exact asn _ hkl);have hbrB:br<B:=HM.out.lt br (by unfold aQ.bs;simp[hA,aO]);have hcr:w0.cell? ⟨br,k*2+1,none⟩=some (.slice m.reads[k].A m.reads[k].addr.length m.reads[k].c):=jR sX HM.out.own.rd hA hrk rfl;have hbk:dS m.A=br:=by rw[hA];rfl
     have hsp:=pq (gr (pp tl) (az tl) m.A) (sO hrk);have hup:=EP (gr (pp tl) (az tl) m.A) (sO hrk);have hrd:gr (pp tl) (az tl) m.A (m.reads[k],k)=[(⟨br,k*2,m.reads[k].var,tl.getD m.reads[k].var.toNat 0⟩:cQ)]++cw (az tl) m.reads[k].A m.reads[k].addr:=by unfold gr;rw[hbk];rfl
     obtain⟨e1,e2,e3⟩:=uH (az tl) (HM.out.own.fq _ hrm);obtain⟨hvx,hvy⟩:=HV.out _ hrm;have hal:m.reads[k].addr.length<=4000:=(HF.out.fq m.reads[k].d (AT hrm)).1;obtain⟨rest,P1⟩:∃rest,fQ w0 B n b' ((d++(m.reads.zipIdx.take k).flatMap (gr (pp tl) (az tl) m.A))++([(⟨br,k*2,m.reads[k].var,tl.getD m.reads[k].var.toNat 0⟩:cQ)]++(cw (az tl) m.reads[k].A m.reads[k].addr++rest))):=by refine⟨(m.reads.zipIdx.drop (k+1)).flatMap (gr (pp tl) (az tl) m.A)++(m.writes.zipIdx.flatMap (j8 (az tl) m.A2)++r),?_⟩;have:=HP.out;unfold dz at this;rw[hsp,hrd]at this;simpa only[bM]using this
     have P2:fQ w0 B n b' (((d++(m.reads.zipIdx.take k).flatMap (gr (pp tl) (az tl) m.A))++[(⟨br,k*2,m.reads[k].var,tl.getD m.reads[k].var.toNat 0⟩:cQ)])++(cw (az tl) m.reads[k].A m.reads[k].addr++rest)):=by simpa only[bM]using P1
     have hc3q:wq.cell? ⟨bm,off+3,none⟩=some (.slice (some ⟨br,0,none⟩) m.reads.length m.c):=by rw[<-hA];exact nv P1 HS.out HM.out.bm rfl hc3
     have hpl:∀p∈d++(m.reads.zipIdx.take k).flatMap (gr (pp tl) (az tl) m.A),p.b<B:=fun p hp=>(P1.at_ p (AI _ hp)).2.2.2.2;rw[hA]at hc3;have C1:Hid (∀(W':World) (q':Nat) (ad:Addr),q'=wq.heap.size->W'=(wq.alloc (Obj.cells #[Value.pointer (some ad)] 224)).drew->ad=⟨br,k*2,none⟩->Calls Tryz.prog 151 #[.agg #[.slice (some ⟨b',off',none⟩) n c'],.slice (some ⟨q',0,none⟩) 1 1] W'
       fun e w'=>e=.returned (.tuple #[])/\f8 w0 B W.heap.size (.slice (some ⟨b',off',none⟩) n c') ((d++(m.reads.zipIdx.take k).flatMap (gr (pp tl) (az tl) m.A))++[(⟨br,k*2,m.reads[k].var,tl.getD m.reads[k].var.toNat 0⟩:cQ)]) w'):=by
      intro W' q' ad h1 h2 h3;subst h1 h2 h3;exact anU P1 hB (HS.out.alloc _).drew HR.out hn hvx rfl ((bD.new wq 224 #[Value.pointer (some ⟨br,k*2,none⟩)]).cell 0)
     have C2:Hid (∀(w1 W':World) (q':Nat),f8 w0 B W.heap.size (.slice (some ⟨b',off',none⟩) n c') ((d++(m.reads.zipIdx.take k).flatMap (gr (pp tl) (az tl) m.A))++[(⟨br,k*2,m.reads[k].var,tl.getD m.reads[k].var.toNat 0⟩:cQ)]) w1->q'=w1.heap.size->W'=(w1.alloc (Obj.cells #[Value.slice m.reads[k].A m.reads[k].addr.length m.reads[k].c] 22)).drew ->
       Calls Tryz.prog 153 #[.agg #[.slice (some ⟨b',off',none⟩) n c'],.slice (some ⟨q',0,none⟩) 1 1] W' fun e w'=>e=.returned (.tuple #[])/\Hid (f8 w0 B W.heap.size (.slice (some ⟨b',off',none⟩) n c') (d++(m.reads.zipIdx.take (k+1)).flatMap (gr (pp tl) (az tl) m.A)) w')):=by
      intro w1 W' q' hs1 h1 h2;subst h1 h2;have:=aaO (r:=rest) (ls:=[⟨m.reads[k].A.map Addr.block,m.reads[k].c,m.reads[k].addr⟩]) (c:=c') (k:=1) (q:=w1.heap.size) (by rw[ww,NE,di,e1];exact P2) hB (hs1.alloc (Obj.cells #[Value.slice m.reads[k].A m.reads[k].addr.length m.reads[k].c] 22)).drew HR.out HT.out hn
       (fun l hl=>by obtain rfl:=GE.1 hl;exact⟨by show m.reads[k].addr.length<=_;omega,e3,hvy⟩) aue rfl (by rw[UV,asr,e2];exact uq w1 [_] _ (by simp[Value.oneCell']))
      refine this.mono ?_;rintro e w' ⟨rfl,h⟩;refine⟨rfl,Lib.hid ?_⟩;rw[ww,NE,di,e1,bM,bM,<-hrd,<-hup]at h;exact h
     have C3:Hid (∀w1,f8 w0 B W.heap.size (.slice (some ⟨b',off',none⟩) n c') ((d++(m.reads.zipIdx.take k).flatMap (gr (pp tl) (az tl) m.A))++[(⟨br,k*2,m.reads[k].var,tl.getD m.reads[k].var.toNat 0⟩:cQ)]) w1->w1.cell? ⟨bm,off+3,none⟩=some (.slice (some ⟨br,0,none⟩) m.reads.length m.c)/\w1.cell? ⟨br,k*2+1,none⟩=some (.slice m.reads[k].A m.reads[k].addr.length m.reads[k].c)):=fun w1 h=>⟨nv P2 h HM.out.bm rfl hc3,nv P2 h hbrB rfl hcr⟩;have P3:∃rest,fQ w0 B n b' ((d++(m.reads.zipIdx.take (k+1)).flatMap (gr (pp tl) (az tl) m.A))++rest):=⟨rest,by rw[hup,hrd];simpa only[bM]using P1⟩;have C4:Hid (∀w1,Hid (f8 w0 B W.heap.size (.slice (some ⟨b',off',none⟩) n c') (d++(m.reads.zipIdx.take (k+1)).flatMap (gr (pp tl) (az tl) m.A)) w1)->w1.cell? ⟨bm,off+3,none⟩=some (.slice (some ⟨br,0,none⟩) m.reads.length m.c)):=fun w1 h=>by obtain⟨rest,P3⟩:=P3;exact nv P3 h.out HM.out.bm rfl hc3
     have C5:Hid (∀w1,Hid (f8 w0 B W.heap.size (.slice (some ⟨b',off',none⟩) n c') (d++(m.reads.zipIdx.take (k+1)).flatMap (gr (pp tl) (az tl) m.A)) w1)->w1.cell? ⟨br,k*2+1,none⟩=some (.slice m.reads[k].A m.reads[k].addr.length m.reads[k].c)):=fun w1 h=>by obtain⟨rest,P3⟩:=P3;exact nv P3 h.out hbrB rfl hcr
     clear P3;clear hc3 hcr hsp hup hrd e1 e2 e3 hvx hvy P1 P2 hpl hrk hrm hA hbk hbrf;generalize m.reads[k].A=Ar at *
     generalize m.reads[k].addr=ar at *
     generalize m.reads[k].c=cr at *
     generalize m.reads[k].var=vr at *
     go_wp2_with fail
     go_region_held3 (fun w'=>w'.cell? ⟨W.heap.size,0,none⟩=some (.slice (some ⟨b',off',none⟩) n c')/\w'.cell? ⟨bm,off+3,none⟩=some (.slice (some ⟨br,0,none⟩) m.reads.length m.c)) (first|assumption|(refine⟨?_,?_⟩<;>assumption)|exact⟨(World.cell?_alloc_lt _ _ ⟨W.heap.size,0,none⟩ hsz).trans hbox,(World.cell?_alloc_lt _ _ ⟨bm,off+3,none⟩ (by show bm<_;omega)).trans hc3q⟩)
      (first|(go_at_call 151;refine(C1.out _ _ _ rfl rfl rfl).mono ?_;rintro e w1 ⟨rfl,hst1⟩;have hx1:=hst1.box;have hx2:=(C3.out _ hst1).1;have hx3:=(C3.out _ hst1).2))
     have hl1:=hst1.lt
     go_wp2_with fail
     go_region_held3 (fun w'=>w'.cell? ⟨W.heap.size,0,none⟩=some (.slice (some ⟨b',off',none⟩) n c')/\w'.cell? ⟨bm,off+3,none⟩=some (.slice (some ⟨br,0,none⟩) m.reads.length m.c)/\w'.cell? ⟨br,k*2+1,none⟩=some (.slice Ar ar.length cr)) (first|assumption|(refine⟨?_,?_,?_⟩<;>assumption)|exact⟨(World.cell?_alloc_lt _ _ ⟨W.heap.size,0,none⟩ hl1).trans hx1,(World.cell?_alloc_lt _ _ ⟨bm,off+3,none⟩ (by show bm<_;omega)).trans hx2,(World.cell?_alloc_lt _ _ ⟨br,k*2+1,none⟩ (by show br<_;omega)).trans hx3⟩)
      (first|(go_at_call 153;refine(C2.out w1 _ _ hst1 rfl rfl).mono ?_;rintro e w2 ⟨rfl,hst2⟩;have hy1:=hst2.out.box;have hy2:=C4.out _ hst2;have hy3:=C5.out _ hst2))
     go_wp2_with fail
     go_roundw
     case rel=>exact⟨k+1,auc,by go_num,hst2⟩
     case measure=>simp[intOf];omega
    .obtain rfl:k=m.reads.length:=auc
     have htk:m.reads.zipIdx.take m.reads.length=m.reads.zipIdx:=by rw[<-List.length_zipIdx (l:=m.reads) (i:=0),cV]
     have hs0:Hid (f8 w0 B W.heap.size (.slice (some ⟨b',off',none⟩) n c') ((d++m.reads.zipIdx.flatMap (gr (pp tl) (az tl) m.A))++(m.writes.zipIdx.take 0).flatMap (j8 (az tl) m.A2)) wq):=by have:=HS.out;rw[htk]at this;rw[WP,NE,di];exact this
     have PD:∃rest,fQ w0 B n b' ((d++m.reads.zipIdx.flatMap (gr (pp tl) (az tl) m.A))++rest):=⟨m.writes.zipIdx.flatMap (j8 (az tl) m.A2)++r,by have:=HP.out;unfold dz at this;simpa only[bM]using this⟩;have hc4:w0.cell? ⟨bm,off+4,none⟩=some (.slice m.A2 m.writes.length m.c2):=HM.out.c 4 _ rfl;have hc4q:wq.cell? ⟨bm,off+4,none⟩=some (.slice m.A2 m.writes.length m.c2):=by obtain⟨rest,PD⟩:=PD;have hs:=hs0.out;rw[WP,NE,di]at hs;exact nv PD hs HM.out.bm rfl hc4
     clear htk PD HS hc3 hc4 hkl hk
     go_wp2_with fail
     go_loopw [90] (fun i wz=>∃k:Nat,k<=m.writes.length/\i=.int .i64 k/\Hid (f8 w0 B W.heap.size (.slice (some ⟨b',off',none⟩) n c') ((d++m.reads.zipIdx.flatMap (gr (pp tl) (az tl) m.A))++(m.writes.zipIdx.take k).flatMap (j8 (az tl) m.A2)) wz)) (fun i _=>m.writes.length-(intOf i).toNat)
     case atStart=>exact⟨0,Do _,rfl,hs0⟩
     case round=>
      clear hs0 hc4q hbox hsz;obtain⟨wz,rfl⟩:∃x,x=wr:=⟨_,rfl⟩;obtain⟨k,hk,rfl,HS⟩:=hrel;have hbox:=HS.out.box;have hsz:=HS.out.lt;have hc4:w0.cell? ⟨bm,off+4,none⟩=some (.slice m.A2 m.writes.length m.c2):=HM.out.c 4 _ rfl;by_cases hkl:k<m.writes.length
      .have hrk:m.writes[k]?=some m.writes[k]:=bA hkl;have hrm:=ut hkl;obtain⟨bw,hA,_,hbwW,hbwf⟩:=kC HM.out.own.wr (fun e=>by rw[e]at hkl;exact asn _ hkl);have hbwB:bw<B:=HM.out.lt bw (by unfold aQ.bs;simp[hA,aO]);have hca:w0.cell? ⟨bw,k*3+1,none⟩=some (.slice m.writes[k].A m.writes[k].addr.length m.writes[k].c):=jR ov HM.out.own.wr hA hrk rfl;have hcd:w0.cell? ⟨bw,k*3+2,none⟩=some (.slice m.writes[k].A2 m.writes[k].data.length m.writes[k].c2):=jR ov HM.out.own.wr hA hrk rfl;have hbk:dS m.A2=bw:=by rw[hA];rfl
       have hsp:=pq (j8 (az tl) m.A2) (sO hrk);have hup:=EP (j8 (az tl) m.A2) (sO hrk);have hrd:j8 (az tl) m.A2 (m.writes[k],k)=[(⟨bw,k*3,m.writes[k].on,az tl m.writes[k].on⟩:cQ)]++(cw (az tl) m.writes[k].A m.writes[k].addr++cw (az tl) m.writes[k].A2 m.writes[k].data):=by unfold j8;rw[hbk];rfl
       obtain⟨e1,e2,e3⟩:=uH (az tl) (HM.out.own.gY _ hrm).1;obtain⟨f1,f2,f3⟩:=uH (az tl) (HM.out.own.gY _ hrm).2;obtain⟨hvo,hvy,hvz⟩:=HW.out _ hrm;have hln:=HF.out.gY m.writes[k].d (AT hrm);have hal:m.writes[k].addr.length<=4000:=hln.1;have hdl:m.writes[k].data.length<=4000:=hln.2.1;obtain⟨rest,P1⟩:∃rest,fQ w0 B n b' (((d++m.reads.zipIdx.flatMap (gr (pp tl) (az tl) m.A))++(m.writes.zipIdx.take k).flatMap (j8 (az tl) m.A2))++([(⟨bw,k*3,m.writes[k].on,az tl m.writes[k].on⟩:cQ)]++((cw (az tl) m.writes[k].A m.writes[k].addr++cw (az tl) m.writes[k].A2 m.writes[k].data)++rest))):=by refine⟨(m.writes.zipIdx.drop (k+1)).flatMap (j8 (az tl) m.A2)++r,?_⟩;have:=HP.out;unfold dz at this;rw[hsp,hrd]at this;simpa only[bM]using this
       have P2:fQ w0 B n b' ((((d++m.reads.zipIdx.flatMap (gr (pp tl) (az tl) m.A))++(m.writes.zipIdx.take k).flatMap (j8 (az tl) m.A2))++[(⟨bw,k*3,m.writes[k].on,az tl m.writes[k].on⟩:cQ)])++((cw (az tl) m.writes[k].A m.writes[k].addr++cw (az tl) m.writes[k].A2 m.writes[k].data)++rest)):=by simpa only[bM]using P1
       have hc4q:wz.cell? ⟨bm,off+4,none⟩=some (.slice (some ⟨bw,0,none⟩) m.writes.length m.c2):=by rw[<-hA];exact nv P1 HS.out HM.out.bm rfl hc4
       rw[hA]at hc4;have C1:Hid (∀(W':World) (q':Nat) (ad:Addr),q'=wz.heap.size->W'=(wz.alloc (Obj.cells #[Value.pointer (some ad)] 224)).drew->ad=⟨bw,k*3,none⟩->Calls Tryz.prog 152 #[.agg #[.slice (some ⟨b',off',none⟩) n c'],.slice (some ⟨q',0,none⟩) 1 1] W'
         fun e w'=>e=.returned (.tuple #[])/\f8 w0 B W.heap.size (.slice (some ⟨b',off',none⟩) n c') (((d++m.reads.zipIdx.flatMap (gr (pp tl) (az tl) m.A))++(m.writes.zipIdx.take k).flatMap (j8 (az tl) m.A2))++[(⟨bw,k*3,m.writes[k].on,az tl m.writes[k].on⟩:cQ)]) w'):=by
        intro W' q' ad h1 h2 h3;subst h1 h2 h3;exact amM P1 hB (HS.out.alloc _).drew HR.out HT.out hn (fun p hp=>by obtain rfl:=GE.1 hp;exact⟨hvo,rfl⟩) aue rfl (uq wz [_] _ (by simp[Value.oneCell']))
       have C2:Hid (∀(w1 W':World) (q':Nat),f8 w0 B W.heap.size (.slice (some ⟨b',off',none⟩) n c') (((d++m.reads.zipIdx.flatMap (gr (pp tl) (az tl) m.A))++(m.writes.zipIdx.take k).flatMap (j8 (az tl) m.A2))++[(⟨bw,k*3,m.writes[k].on,az tl m.writes[k].on⟩:cQ)]) w1->q'=w1.heap.size->W'=(w1.alloc (Obj.cells #[Value.slice m.writes[k].A m.writes[k].addr.length m.writes[k].c,Value.slice m.writes[k].A2 m.writes[k].data.length m.writes[k].c2] 22)).drew ->
         Calls Tryz.prog 153 #[.agg #[.slice (some ⟨b',off',none⟩) n c'],.slice (some ⟨q',0,none⟩) 2 2] W' fun e w'=>e=.returned (.tuple #[])/\Hid (f8 w0 B W.heap.size (.slice (some ⟨b',off',none⟩) n c') ((d++m.reads.zipIdx.flatMap (gr (pp tl) (az tl) m.A))++(m.writes.zipIdx.take (k+1)).flatMap (j8 (az tl) m.A2)) w')):=by
        intro w1 W' q' hs1 h1 h2;subst h1 h2;have:=aaO (r:=rest) (ls:=[⟨m.writes[k].A.map Addr.block,m.writes[k].c,m.writes[k].addr⟩,⟨m.writes[k].A2.map Addr.block,m.writes[k].c2,m.writes[k].data⟩]) (c:=c') (k:=2) (q:=w1.heap.size) (by rw[ww,ww,NE,di,e1,f1];exact P2) hB (hs1.alloc (Obj.cells #[Value.slice m.writes[k].A m.writes[k].addr.length m.writes[k].c,Value.slice m.writes[k].A2 m.writes[k].data.length m.writes[k].c2] 22)).drew HR.out HT.out hn
         (fun l hl=>by
          rcases Fn.1 hl with rfl|hl
          .exact⟨by show m.writes[k].addr.length<=_;omega,e3,hvy⟩
          .obtain rfl:=GE.1 hl;exact⟨by show m.writes[k].data.length<=_;omega,f3,hvz⟩) aue rfl (by rw[UV,UV,asr,e2,f2];exact uq w1 [_,_] _ (by simp[Value.oneCell']))
        refine this.mono ?_;rintro e w' ⟨rfl,h⟩;refine⟨rfl,Lib.hid ?_⟩;rw[ww,ww,NE,di,e1,f1,bM _ [(⟨bw,k*3,m.writes[k].on,az tl m.writes[k].on⟩:cQ)],<-hrd,bM,<-hup]at h;exact h
       have C3:Hid (∀w1,f8 w0 B W.heap.size (.slice (some ⟨b',off',none⟩) n c') (((d++m.reads.zipIdx.flatMap (gr (pp tl) (az tl) m.A))++(m.writes.zipIdx.take k).flatMap (j8 (az tl) m.A2))++[(⟨bw,k*3,m.writes[k].on,az tl m.writes[k].on⟩:cQ)]) w1->w1.cell? ⟨bw,k*3+1,none⟩=some (.slice m.writes[k].A m.writes[k].addr.length m.writes[k].c)/\w1.cell? ⟨bw,k*3+2,none⟩=some (.slice m.writes[k].A2 m.writes[k].data.length m.writes[k].c2)):=fun w1 h=>⟨nv P2 h hbwB rfl hca,nv P2 h hbwB rfl hcd⟩;have P3:∃rest,fQ w0 B n b' (((d++m.reads.zipIdx.flatMap (gr (pp tl) (az tl) m.A))++(m.writes.zipIdx.take (k+1)).flatMap (j8 (az tl) m.A2))++rest):=⟨rest,by rw[hup,hrd];simpa only[bM]using P1⟩;have C4:Hid (∀w1,Hid (f8 w0 B W.heap.size (.slice (some ⟨b',off',none⟩) n c') ((d++m.reads.zipIdx.flatMap (gr (pp tl) (az tl) m.A))++(m.writes.zipIdx.take (k+1)).flatMap (j8 (az tl) m.A2)) w1)->w1.cell? ⟨bw,k*3+1,none⟩=some (.slice m.writes[k].A m.writes[k].addr.length m.writes[k].c)/\w1.cell? ⟨bw,k*3+2,none⟩=some (.slice m.writes[k].A2 m.writes[k].data.length m.writes[k].c2)):=fun w1 h=>by obtain⟨rest,P3⟩:=P3;exact⟨nv P3 h.out hbwB rfl hca,nv P3 h.out hbwB rfl hcd⟩
       clear P3;clear hc4 hca hcd hsp hup hrd e1 e2 e3 f1 f2 f3 hvo hvy hvz P1 P2 hrk hrm hA hbk hbwf hln;generalize m.writes[k].A=Aa at *
       generalize m.writes[k].addr=la at *
       generalize m.writes[k].c=ca at *
       generalize m.writes[k].A2=Ad at *
       generalize m.writes[k].data=ld at *
       generalize m.writes[k].c2=cd at *
       generalize m.writes[k].on=vo at *
       go_wp2_with fail
       go_region_held3 (fun w'=>w'.cell? ⟨W.heap.size,0,none⟩=some (.slice (some ⟨b',off',none⟩) n c')) (first|assumption|exact(World.cell?_alloc_lt _ _ ⟨W.heap.size,0,none⟩ hsz).trans hbox)
        (first|(go_at_call 152;refine(C1.out _ _ _ rfl rfl rfl).mono ?_;rintro e w1 ⟨rfl,hst1⟩;have hx1:=hst1.box;have hx2:=(C3.out _ hst1).1;have hx3:=(C3.out _ hst1).2))
       have hl1:=hst1.lt
       go_wp2_with fail
       go_region_held3 (fun w'=>w'.cell? ⟨W.heap.size,0,none⟩=some (.slice (some ⟨b',off',none⟩) n c')/\w'.cell? ⟨bw,k*3+1,none⟩=some (.slice Aa la.length ca)/\w'.cell? ⟨bw,k*3+2,none⟩=some (.slice Ad ld.length cd)) (first|assumption|(refine⟨?_,?_,?_⟩<;>assumption)|exact⟨(World.cell?_alloc_lt _ _ ⟨W.heap.size,0,none⟩ hl1).trans hx1,(World.cell?_alloc_lt _ _ ⟨bw,k*3+1,none⟩ (by show bw<_;omega)).trans hx2,(World.cell?_alloc_lt _ _ ⟨bw,k*3+2,none⟩ (by show bw<_;omega)).trans hx3⟩)
        (first|(go_at_call 153;refine(C2.out w1 _ _ hst1 rfl rfl).mono ?_;rintro e w2 ⟨rfl,hst2⟩;have hy1:=hst2.out.box;have hy2:=(C4.out _ hst2).1;have hy3:=(C4.out _ hst2).2))
       go_wp2_with fail
       go_roundw
       case rel=>exact⟨k+1,auc,by go_num,hst2⟩
       case measure=>simp[intOf];omega
      .obtain rfl:k=m.writes.length:=auc
       have htk:m.writes.zipIdx.take m.writes.length=m.writes.zipIdx:=by rw[<-List.length_zipIdx (l:=m.writes) (i:=0),cV]
       have HZ:Hid (Below B (cN id w0 (dg (d++dz (pp tl) (az tl) m))) wz):=by have:=HS.out.low;rw[htk,bM]at this;exact this
       clear htk HS
       go_wp2_with fail
       go_ret
       exact⟨rfl,HZ.out⟩
theorem ajm{P:Program}{fn:Func}{p u:Tmp}{ty:TypeId}(h:fn.results=#[.cell p ty,.tmp u])(tmps:Array Value)(w:World)(g:Nat)(t:TypeId)(cs:Array Value)(fr:Nat×Nat)(d:TypeDesc)
  (hp:tmps.getD p undef=.pointer (some ⟨g,0,none⟩)) (hg:w.heap[g]?=some (.cells cs t fr))
  (hu:P.underlying ty=some d) (hd:(match d with|.struct _|.array _ _=>true|_=>false)=true) (hi:(P.info? ty).map (·.size)=some cs.size) :
  (results fn tmps).run P w=.ok (.tuple #[.agg cs,tmps.getD u undef]) w:=by
 have hp':tmps[p]?.getD undef=.pointer (some ⟨g,0,none⟩):=by simpa using hp
 simp[results,h,hp',asAddr,run_loadVar_row w g t ty cs fr d hg hu hd hi]
variable{N:aY}{w:World}
theorem oH{g:Nat}{t:TypeId}(h:bD w g t N.fs):w.cell? ⟨g,0,none⟩=some (.int .i64 N.vars)/\w.cell? ⟨g,1,none⟩=some (.slice N.Ai N.ax.length N.ci)/\w.cell? ⟨g,2,none⟩=some (.slice N.Al N.ah.length N.cl)/\w.cell? ⟨g,3,none⟩=some (.slice N.Ao N.bk.length N.co) /\
  w.cell? ⟨g,4,none⟩=some (.slice N.Ab N.aU.length N.cb)/\w.cell? ⟨g,5,none⟩=some (.slice N.Ac N.constraints.length N.cc)/\w.cell? ⟨g,6,none⟩=some (.slice N.Am N.af.length N.cm)/\w.cell? ⟨g,7,none⟩=some (.slice N.An N.ag.length N.cn):=
 ⟨h.cell 0,h.cell 1,h.cell 2,h.cell 3,h.cell 4,h.cell 5,h.cell 6,h.cell 7⟩
theorem aky{B0 j:Nat}{M:aY}(hMO:M.own w0 B0)(hP:fQ w0 w0.heap.size n b' (iN (pp tl) (az tl) M))(hF:Fit M.d)(hnum:uJ n M.d)(hmo:∀m∈M.d.af,xy tl m)
  (hR:Reads w0 w0.heap.size 1 (some ⟨b',off',none⟩) n (tl.map (Value.int .i64))) (d8:∀y∈tl,0<=y/\y<=1000000) (hn:n<=1048576) (hm:M.af[j]?=some m) (hA:M.Am=some ⟨bm,0,none⟩) (hb:Below w0.heap.size (cN id w0 (dg ((M.af.take j).flatMap (dz (pp tl) (az tl))))) W) :
  Calls Tryz.prog 150 #[.agg #[.slice (some ⟨b',off',none⟩) n c'],.pointer (some ⟨bm,j*5,none⟩)] W fun e w'=>e=.returned (.bool true)/\Below w0.heap.size (cN id w0 (dg ((M.af.take (j+1)).flatMap (dz (pp tl) (az tl))))) w':=by
 have hmm:=d5 hm;have hmd:m.d∈M.d.af:=AT hmm;have hup:=EP (dz (pp tl) (az tl)) hm;have hsp:=pq (dz (pp tl) (az tl)) hm;have hown:=hMO.kA m hmm;have hbsm:∀b∈m.bs,b∈M.af.flatMap aQ.bs:=fun b q=>rc.2 ⟨m,hmm,q⟩;have hnd:=hMO.nd;unfold aY.bs at hnd;have hbm0:bm∈M.fl:=by unfold aY.fl;simp[hA,aO]
 have hbs:=pq aQ.bs hm;have hn2:=(rx.1 hnd).2.1;rw[hbs]at hn2;have aS:∀p∈(M.af.take j).flatMap (dz (pp tl) (az tl)),p.b∈(M.af.take j).flatMap aQ.bs:=by intro p hp;obtain⟨x,hx,hp⟩:=rc.1 hp;have hxm:=asf hx;obtain⟨i,hi,e⟩:=ash hxm;have hs:=pq aQ.bs (bA hi);have hn3:=(rx.1 hnd).2.1;rw[hs,e]at hn3;exact rc.2 ⟨x,hx,((Fg (pp tl) (az tl) (hMO.kA x hxm) (rx.1 (rx.1 hn3).2.1).1).at_ p hp).2.2⟩
 have hmin:∀p∈dz (pp tl) (az tl) m,p.b∈m.bs:=fun p hp=>((Fg (pp tl) (az tl) hown (rx.1 (rx.1 hn2).2.1).1).at_ p hp).2.2;have hP1:fQ w0 w0.heap.size n b' ((M.af.take j).flatMap (dz (pp tl) (az tl))++(dz (pp tl) (az tl) m++((M.af.drop (j+1)).flatMap (dz (pp tl) (az tl))++(cw (pp tl) M.Ai M.ax++(M.ah.zipIdx.flatMap (eY (pp tl) (az tl) M.Al)++((cw (az tl) M.Ao M.bk++(cw (az tl) M.Ab M.aU++cw (az tl) M.Ac M.constraints))++M.ag.zipIdx.flatMap (ib (pp tl) (az tl) M.An))))))):=by unfold iN at hP;rw[hsp]at hP;simpa only[bM]using hP
 have hMA:sU w0 w0.heap.size bm (j*5) m:=⟨fun k u hu=>jR nD hMO.mem hA hm hu,aQ.dB hown fun b q=>⟨rfl,Do _⟩,fun b q=>hMO.lt b (Fd _ (hbsm b q)),hMO.lt bm (AI _ hbm0)⟩;have:=akz (c':=c') hP1 rfl hb hR d8 hn hMA (hF.af.2 _ hmd) (fun u hu=>by
  obtain⟨p,hp,rfl⟩:=rt.1 hu;have hpb:=aS p hp;refine⟨fun q=>?_,fun e=>?_⟩
  .exact(rx.1 hn2).2.2 _ hpb _ (AI _ q) rfl
  .have hpa:p.b∈M.af.flatMap aQ.bs:=by rw[hbs];exact AI _ hpb
   exact(rx.1 hnd).2.2 bm hbm0 _ hpa e.symm) (fun p hp e=>(rx.1 hnd).2.2 bm hbm0 _ (hbsm _ (hmin p hp)) e.symm) (hmo _ hmd)
  (fun x hx=>by have:=hnum.fq _ hmd x.d (AT hx);exact⟨this.2.1,fun y hy=>(this.2.2 y hy).2⟩) (fun x hx=>by have:=hnum.gY _ hmd x.d (AT hx);exact⟨this.2.1,fun y hy=>(this.2.2.1 y hy).2,fun y hy=>(this.2.2.2 y hy).2⟩)
 refine this.mono ?_;rintro e w' ⟨rfl,h⟩;exact⟨rfl,by rw[hup];exact h⟩
theorem akA(hN:N.dk w w.heap.size)(hF:Fit N.d)(hR:Reads w w.heap.size 1 (some ⟨b',off',none⟩) n (tl.map (Value.int .i64)))
  (d8:∀y∈tl,0<=y/\y<=1000000) (hn:n<=1048576) (hn0:0<n) (hvars:N.vars+1=(n:Int)) (hnum:uJ n N.d) (hmo:∀m∈N.d.af,xy tl m)
  (hC:∀w',Below w.heap.size w w'->Calls Tryz.prog 38 #[N.v] w' fun e w2=>e=.returned (.int .i64 0)/\Below w'.heap.size w' w2)
  (hI:∀w',Below w.heap.size w w'->Calls Tryz.prog 149 #[.slice (some ⟨b',off',none⟩) n c'] w' fun e w2=>∃v,e=.returned (.tuple #[v,.bool true])/\Below w'.heap.size w' w2) :
  Calls Tryz.prog 112 #[N.v,.slice (some ⟨b',off',none⟩) n c'] w fun e w'=>∃(M:aY) (w0:World),M.d=N.d/\e=.returned (.tuple #[M.v,.int .i64 0])/\Below w.heap.size w w0/\M.own w0 w.heap.size/\(∀b∈M.bs,w.heap.size+2<=b)/\(cN id w0 (dg (iN (pp tl) (az tl) M))).grownBy w' (some (w.heap.size+1)):=by
 have hv:N.v=.agg #[.int .i64 N.vars,.slice N.Ai N.ax.length N.ci,.slice N.Al N.ah.length N.cl,.slice N.Ao N.bk.length N.co,.slice N.Ab N.aU.length N.cb,.slice N.Ac N.constraints.length N.cc,.slice N.Am N.af.length N.cm,.slice N.An N.ag.length N.cn]:=rfl;have HC:=Lib.hid hC;have HI:=Lib.hid hI;have HCl:Hid (∀w',Below w.heap.size w w'->Calls Tryz.prog 41 #[N.v] w' fun e w2=>∃M:aY,M.d=N.d/\e=.returned M.v/\Below w'.heap.size w' w2/\M.own w2 w'.heap.size):=fun w' hb=>Z8 w' N w.heap.size (hN.below hb) hb.size hF;have HN:=Lib.hid hN;have HF:=Lib.hid hF;have HR:=Lib.hid hR;have HT:=Lib.hid d8;have HV:=Lib.hid hvars;have HNum:=Lib.hid hnum;have HMo:=Lib.hid hmo;rw[hv]at HC HCl |-;clear hC hI hN hF hR d8 hvars hv hnum hmo
 go_enter Tryz.func112,Tryz.ntmps112
 go_wp2_with fail
 have hbA:Below w.heap.size w ((w.alloc (Obj.cells N.fs 27)).alloc (Obj.cells kL 27)):=((Below.refl _ w).alloc (ro _) _).alloc aue _;have kb:bD ((w.alloc (Obj.cells N.fs 27)).alloc (Obj.cells kL 27)) w.heap.size 27 N.fs:=(bD.new w _ _).alloc _;have kz:bD ((w.alloc (Obj.cells N.fs 27)).alloc (Obj.cells kL 27)) (w.heap.size+1) 27 kL:=by
  have e:(w.alloc (Obj.cells N.fs 27)).heap.size=w.heap.size+1:=aue
  rw[<-e];exact bD.new _ _ _
 have ks:((w.alloc (Obj.cells N.fs 27)).alloc (Obj.cells kL 27)).heap.size=w.heap.size+1+1:=aue
 simp only[aY.fs,kL]at hbA kb kz ks;generalize (w.alloc (Obj.cells #[Value.int IntKind.i64 N.vars,Value.slice N.Ai N.ax.length N.ci,Value.slice N.Al N.ah.length N.cl,Value.slice N.Ao N.bk.length N.co,Value.slice N.Ab N.aU.length N.cb,Value.slice N.Ac N.constraints.length N.cc,Value.slice N.Am N.af.length N.cm,Value.slice N.An N.ag.length N.cn] 27)).alloc (Obj.cells #[Value.int IntKind.i64 0,Value.slice none 0 0,Value.slice none 0 0,Value.slice none 0 0,Value.slice none 0 0,Value.slice none 0 0,Value.slice none 0 0,Value.slice none 0 0] 27)=WA at *
 refine(HC.out WA hbA).mono ?_;rintro e w1 ⟨rfl,hb1⟩;have hbw1:Below w.heap.size w w1:=hbA.trans (hb1.mono hbA.size);have s1:=hb1.size;have K1:=Lib.hid (kb.below hb1 auc);have Z1:=Lib.hid (kz.below hb1 auc);have HB1:=Lib.hid hbw1;have hw1:w.heap.size+2<=w1.heap.size:=auc
 clear hbA kb kz hb1 s1 ks hbw1 HC;have hv1:=HV.out;have hwv:wrap64 (N.vars+1)=(n:Int):=by rw[hv1];exact IntWalk.wrap64_in (n:Int) ⟨auc,auc⟩
 go_wp2_with (refine(HI.out w1 HB1.out).mono ?_;rintro e w2 ⟨iv,rfl,hb2⟩;have HB2:=Lib.hid hb2;have hx0:=(hb2.cell (p:=⟨w.heap.size,0,none⟩) (by show w.heap.size<_;omega)).trans (oH K1.out).1;have hx1:=(hb2.cell (p:=⟨w.heap.size,1,none⟩) (by show w.heap.size<_;omega)).trans (oH K1.out).2.1;have hx2:=(hb2.cell (p:=⟨w.heap.size,2,none⟩) (by show w.heap.size<_;omega)).trans (oH K1.out).2.2.1;have hx3:=(hb2.cell (p:=⟨w.heap.size,3,none⟩) (by show w.heap.size<_;omega)).trans (oH K1.out).2.2.2.1;have hx4:=(hb2.cell (p:=⟨w.heap.size,4,none⟩) (by show w.heap.size<_;omega)).trans (oH K1.out).2.2.2.2.1;have hx5:=(hb2.cell (p:=⟨w.heap.size,5,none⟩) (by show w.heap.size<_;omega)).trans (oH K1.out).2.2.2.2.2.1;have hx6:=(hb2.cell (p:=⟨w.heap.size,6,none⟩) (by show w.heap.size<_;omega)).trans (oH K1.out).2.2.2.2.2.2.1;have hx7:=(hb2.cell (p:=⟨w.heap.size,7,none⟩) (by show w.heap.size<_;omega)).trans (oH K1.out).2.2.2.2.2.2.2)
 have hbw2:Below w.heap.size w w2:=HB1.out.trans (HB2.out.mono auc);have s2:=HB2.out.size;have Z2:=Lib.hid (Z1.out.below HB2.out auc);have H2:=Lib.hid hbw2;refine(HCl.out w2 hbw2).mono ?_;rintro e w3 ⟨M,hMd,he,hb3,hMo⟩;have hMv:M.v=.agg #[.int .i64 M.vars,.slice M.Ai M.ax.length M.ci,.slice M.Al M.ah.length M.cl,.slice M.Ao M.bk.length M.co,.slice M.Ab M.aU.length M.cb,.slice M.Ac M.constraints.length M.cc,.slice M.Am M.af.length M.cm,.slice M.An M.ag.length M.cn]:=rfl;rw[hMv]at he;subst he;have s3:=hb3.size;have hw3:Below w.heap.size w w3:=hbw2.trans (hb3.mono auc);have Z3:=Lib.hid (Z2.out.below hb3 auc);have HMO:=Lib.hid hMo;have HMD:=Lib.hid hMd;have H3:=Lib.hid hw3;clear hx0 hx1 hx2 hx3 hx4 hx5 hx6 hx7 hb3 hMo hMd hMv hw3 hbw2 HCl HI K1 Z1 Z2 HB1 HB2 H2 hwv hv1;have hbB:b'<w.heap.size:=by obtain⟨ad,e,h,_⟩:=HR.out.2 auc;obtain rfl:=BY e;exact h
 obtain⟨w0,hw0,hB0,k9,k10,kz,ksz⟩:∃w0,w0=(w3.alloc (Obj.cells M.fs 27)).alloc (Obj.cells #[Value.slice (some ⟨b',off',none⟩) n c'] 221)/\Below w3.heap.size w3 w0/\bD w0 w3.heap.size 27 M.fs/\bD w0 (w3.heap.size+1) 221 #[Value.slice (some ⟨b',off',none⟩) n c']/\bD w0 (w.heap.size+1) 27 kL/\w0.heap.size=w3.heap.size+2:=by
  refine⟨_,rfl,((Below.refl _ w3).alloc (ro _) _).alloc aue _,(bD.new w3 _ _).alloc _,?_,(Z3.out.alloc _).alloc _,aue⟩;have e:(w3.alloc (Obj.cells M.fs 27)).heap.size=w3.heap.size+1:=aue
  rw[<-e];exact bD.new _ _ _
 have h30:w3.heap.size<=w0.heap.size:=auc
 have hMO0:M.own w0 w.heap.size:=aY.dB HMO.out (fun b q=>⟨hB0.block b (HMO.out.lt b q),by have:=aY.iH HMO.out b q;omega⟩) h30;have HLO:Hid (∀b∈M.bs,w.heap.size+2<=b/\b<w3.heap.size):=fun b q=>⟨by have:=aY.iH HMO.out b q;omega,HMO.out.lt b q⟩;have hnumM:uJ n M.d:=HMD.out.symm▸HNum.out;have HP0:=Lib.hid (alg (pp tl) (az tl) hMO0 hbB hnumM (aY.iH hMO0));have hBw0:Below w.heap.size w w0:=H3.out.trans (hB0.mono auc);have HRW:=Lib.hid ((HR.out.below hBw0).more (show w.heap.size<=w0.heap.size by omega));have HFM:Hid (Fit M.d):=HMD.out.symm▸HF.out;have HMoM:Hid (∀m∈M.d.af,xy tl m):=HMD.out.symm▸HMo.out;have HNumM:=Lib.hid hnumM;have HMO0:=Lib.hid hMO0;have HBw0:=Lib.hid hBw0;have HK9:=Lib.hid k9;have HK10:=Lib.hid k10;have HKz:=Lib.hid kz;have c10:w0.cell? ⟨w3.heap.size+1,0,none⟩=some (.slice (some ⟨b',off',none⟩) n c'):=k10.cell 0;obtain⟨c90,c91,c92,c93,c94,c95,c96,c97⟩:=oH k9;clear hB0 kz hMO0 hnumM hBw0 HMO HMo HNum HF HR Z3 H3 k9 k10
 go_wp2_with fail
 simp only[aY.fs]at hw0;rw[<-hw0];have st0:Hid (Below w0.heap.size (cN id w0 (dg ((M.af.take 0).flatMap (dz (pp tl) (az tl))))) w0):=Lib.hid (by rw[WP];exact Below.refl _ _)
 go_loopw [46] (fun i wr=>∃j:Nat,j<=M.af.length/\i=.int .i64 j/\Hid (Below w0.heap.size (cN id w0 (dg ((M.af.take j).flatMap (dz (pp tl) (az tl))))) wr)) (fun i _=>M.af.length-(intOf i).toNat)
 case atStart=>exact⟨0,Do _,rfl,st0⟩
 case round=>
  clear st0;obtain⟨j,hj,rfl,HS⟩:=hrel;have PJ:∀j,∃rest,fQ w0 w0.heap.size n b' ((M.af.take j).flatMap (dz (pp tl) (az tl))++rest):=fun j=>by refine⟨(M.af.drop j).flatMap (dz (pp tl) (az tl))++(cw (pp tl) M.Ai M.ax++(M.ah.zipIdx.flatMap (eY (pp tl) (az tl) M.Al)++((cw (az tl) M.Ao M.bk++(cw (az tl) M.Ab M.aU++cw (az tl) M.Ac M.constraints))++M.ag.zipIdx.flatMap (ib (pp tl) (az tl) M.An)))),?_⟩;have:=HP0.out;unfold iN at this;rw[<-GT j M.af,BT,bM]at this;simpa only[GT]using this
  have hsl:Hid (∀j x a A' l c,Below w0.heap.size (cN id w0 (dg ((M.af.take j).flatMap (dz (pp tl) (az tl))))) x->a.block<w0.heap.size->a.spot=none->w0.cell? a=some (.slice A' l c)->x.cell? a=some (.slice A' l c)):=fun j x a A' l c h h1 h2 h3=>by obtain⟨rest,hp⟩:=PJ j;exact OA hp h h1 h2 h3
  clear PJ;have d10:=hsl.out j wr _ _ _ _ HS.out (by show w3.heap.size+1<_;omega) rfl c10;have d96:=hsl.out j wr _ _ _ _ HS.out (by show w3.heap.size<_;omega) rfl c96;by_cases hlt:j<M.af.length
  .have hm:M.af[j]?=some M.af[j]:=bA hlt;obtain⟨bm,hA,_,_,_⟩:=kC HMO0.out.mem (fun e=>by rw[e]at hlt;exact asn _ hlt);have C:Hid (∀W',Below w0.heap.size (cN id w0 (dg ((M.af.take j).flatMap (dz (pp tl) (az tl))))) W'->Calls Tryz.prog 150 #[.agg #[.slice (some ⟨b',off',none⟩) n c'],.pointer (some ⟨bm,j*5,none⟩)] W' fun e w'=>e=.returned (.bool true)/\Below w0.heap.size (cN id w0 (dg ((M.af.take (j+1)).flatMap (dz (pp tl) (az tl))))) w'):=fun W' h=>aky HMO0.out HP0.out HFM.out HNumM.out HMoM.out HRW.out HT.out hn hm hA h;rw[hA]at d96;have hml:M.af.length<=100:=by have h:=HFM.out.af.1;rwa [show M.d.af.length=M.af.length from aG _]at h
   have hsd:=HS.out.drew;have HA:=Lib.hid hA;clear hm hA
   go_wp2_with fail
   go_region_held3 (fun w'=>w'.cell? ⟨w3.heap.size+1,0,none⟩=some (.slice (some ⟨b',off',none⟩) n c')/\w'.cell? ⟨w3.heap.size,6,none⟩=some (.slice (some ⟨bm,0,none⟩) M.af.length M.cm)) (first|assumption|(refine⟨?_,?_⟩<;>assumption))
    (first|(go_at_call 150;refine(C.out _ hsd).mono ?_;rintro e w4 ⟨rfl,h4⟩;have e10:=hsl.out _ _ _ _ _ _ h4 (by show w3.heap.size+1<_;omega) rfl c10;have e96:=(hsl.out _ _ _ _ _ _ h4 (by show w3.heap.size<_;omega) rfl c96).trans (by rw[HA.out])))
   go_wp2_with fail
   go_roundw
   case rel=>exact⟨j+1,auc,by go_num,Lib.hid h4⟩
   case measure=>simp[intOf];omega
  .obtain rfl:j=M.af.length:=auc
   have st1:Hid (Below w0.heap.size (cN id w0 (dg (M.af.flatMap (dz (pp tl) (az tl))++(M.ax.zipIdx.take 0).flatMap (fA (pp tl) M.Ai)))) wr):=Lib.hid (by have:=HS.out;rw[cV]at this;rw[WP,NE,di];exact this);have d91:=hsl.out M.af.length wr _ _ _ _ HS.out (by show w3.heap.size<_;omega) rfl c91;clear hsl HS;have hL1:iN (pp tl) (az tl) M=M.af.flatMap (dz (pp tl) (az tl))++(M.ax.zipIdx.flatMap (fA (pp tl) M.Ai)++(M.ah.zipIdx.flatMap (eY (pp tl) (az tl) M.Al)++((cw (az tl) M.Ao M.bk++(cw (az tl) M.Ab M.aU++cw (az tl) M.Ac M.constraints))++M.ag.zipIdx.flatMap (ib (pp tl) (az tl) M.An)))):=by unfold iN;rw[amF]
   have HL1:=Lib.hid hL1;have hsl:Hid (∀j x a A' l c,Below w0.heap.size (cN id w0 (dg (M.af.flatMap (dz (pp tl) (az tl))++(M.ax.zipIdx.take j).flatMap (fA (pp tl) M.Ai)))) x->a.block<w0.heap.size->a.spot=none->w0.cell? a=some (.slice A' l c)->x.cell? a=some (.slice A' l c)):=fun j x a A' l c h h1 h2 h3=>by obtain⟨rest,hp⟩:=Fl hL1 HP0.out j;exact OA hp h h1 h2 h3
   clear hL1;have hil:M.ax.length<=4000:=HFM.out.ins.1
   go_wp2_with fail
   obtain⟨wo,rfl⟩:∃x,x=wr:=⟨_,rfl⟩
   go_loopw [63] (fun i wr=>∃j:Nat,j<=M.ax.length/\i=.int .i64 j/\Hid (Below w0.heap.size (cN id w0 (dg (M.af.flatMap (dz (pp tl) (az tl))++(M.ax.zipIdx.take j).flatMap (fA (pp tl) M.Ai)))) wr)) (fun i _=>M.ax.length-(intOf i).toNat)
   case atStart=>exact⟨0,Do _,rfl,st1⟩
   case round=>
    clear st1 d10 d96 d91;obtain⟨j,hj,rfl,HS⟩:=hrel;have d91:=hsl.out j wr _ _ _ _ HS.out (by show w3.heap.size<_;omega) rfl c91;by_cases hlt:j<M.ax.length
    .have hx:M.ax[j]?=some M.ax[j]:=bA hlt;obtain⟨bi,hA,_,_,_⟩:=kC HMO0.out.ins (fun e=>by rw[e]at hlt;exact asn _ hlt);obtain⟨P1,hup⟩:=OD HL1.out HP0.out (sO hx);have hbk:dS M.Ai=bi:=by rw[hA];rfl
     have hxn:=(HNumM.out.ins _ (ut hlt)).2;have C:Hid (∀W' q' ad,Below w0.heap.size (cN id w0 (dg (M.af.flatMap (dz (pp tl) (az tl))++(M.ax.zipIdx.take j).flatMap (fA (pp tl) M.Ai)))) W'->W'.cell? ⟨q',0,none⟩=some (.pointer (some ad))->ad=⟨bi,j,none⟩->Calls Tryz.prog 151 #[.agg #[.slice (some ⟨b',off',none⟩) n c'],.slice (some ⟨q',0,none⟩) 1 1] W' fun e w'=>e=.returned (.tuple #[])/\Below w0.heap.size (cN id w0 (dg (M.af.flatMap (dz (pp tl) (az tl))++(M.ax.zipIdx.take (j+1)).flatMap (fA (pp tl) M.Ai)))) w'):=fun W' q' ad h hq e=>by subst e;refine(Fk (p:=⟨dS M.Ai,j,M.ax[j],tl.getD M.ax[j].toNat 0⟩) P1 rfl h HRW.out hn hxn rfl (by rw[hq,<-hbk];rfl)).mono ?_;rintro e w' ⟨rfl,h1,_⟩;exact⟨rfl,by rw[hup];exact h1⟩
     rw[hA]at d91;have hss:w0.heap.size<=wr.heap.size:=by have:=HS.out.size;rwa [mE]at this
     have hba:=HS.out.alloc hss (Obj.cells #[Value.pointer (some ⟨bi,j,none⟩)] 224);have hbc:=(bD.new wr 224 #[Value.pointer (some ⟨bi,j,none⟩)]).cell 0;clear hx hA P1 hup hbk hxn
     go_wp2_with (refine(C.out _ _ _ hba hbc rfl).mono ?_;rintro e w4 ⟨rfl,h4⟩)
     go_roundw
     case rel=>exact⟨j+1,auc,by go_num,Lib.hid h4⟩
     case measure=>simp[intOf];omega
    .obtain rfl:j=M.ax.length:=auc
     have st2:Hid (Below w0.heap.size (cN id w0 (dg ((M.af.flatMap (dz (pp tl) (az tl))++M.ax.zipIdx.flatMap (fA (pp tl) M.Ai))++(M.ah.zipIdx.take 0).flatMap (eY (pp tl) (az tl) M.Al)))) wr):=Lib.hid (by have:=HS.out;rw[Oe]at this;rw[WP,NE,di];exact this);have d92:=hsl.out M.ax.length wr _ _ _ _ HS.out (by show w3.heap.size<_;omega) rfl c92;clear hsl HS d91;have hL2:iN (pp tl) (az tl) M=(M.af.flatMap (dz (pp tl) (az tl))++M.ax.zipIdx.flatMap (fA (pp tl) M.Ai))++(M.ah.zipIdx.flatMap (eY (pp tl) (az tl) M.Al)++((cw (az tl) M.Ao M.bk++(cw (az tl) M.Ab M.aU++cw (az tl) M.Ac M.constraints))++M.ag.zipIdx.flatMap (ib (pp tl) (az tl) M.An))):=by rw[HL1.out];simp only[bM]
     have HL2:=Lib.hid hL2;have hsl:Hid (∀L' x a A' l c,Below w0.heap.size (cN id w0 (dg (L'))) x->(∃rest,fQ w0 w0.heap.size n b' (L'++rest))->a.block<w0.heap.size->a.spot=none->w0.cell? a=some (.slice A' l c)->x.cell? a=some (.slice A' l c)):=fun L' x a A' l c h hp h1 h2 h3=>by obtain⟨rest,hp⟩:=hp;exact OA hp h h1 h2 h3
     clear hL2;have hil2:M.ah.length<=4000:=HFM.out.aT.1
     go_wp2_with fail
     obtain⟨wo2,rfl⟩:∃x,x=wr:=⟨_,rfl⟩
     go_loopw [77] (fun i wr=>∃j:Nat,j<=M.ah.length/\i=.int .i64 j/\Hid (Below w0.heap.size (cN id w0 (dg ((M.af.flatMap (dz (pp tl) (az tl))++M.ax.zipIdx.flatMap (fA (pp tl) M.Ai))++(M.ah.zipIdx.take j).flatMap (eY (pp tl) (az tl) M.Al)))) wr)) (fun i _=>M.ah.length-(intOf i).toNat)
     case atStart=>exact⟨0,Do _,rfl,st2⟩
     case round=>
      clear st2 d92;obtain⟨j,hj,rfl,HS⟩:=hrel;have hss:w0.heap.size<=wr.heap.size:=by have:=HS.out.size;rwa [mE]at this
      by_cases hlt:j<M.ah.length
      .have hx:M.ah[j]?=some M.ah[j]:=bA hlt;obtain⟨bl,hA,_,_,_⟩:=kC HMO0.out.aT (fun e=>by rw[e]at hlt;exact asn _ hlt);obtain⟨P1,hup⟩:=OD HL2.out HP0.out (sO hx);have hbk:dS M.Al=bl:=by rw[hA];rfl
       have hxn:=HNumM.out.aT _ (ut hlt);have hlp:eY (pp tl) (az tl) M.Al (M.ah[j],j)=[(⟨dS M.Al,j*3,M.ah[j].var,tl.getD M.ah[j].var.toNat 0⟩:cQ)]++[(⟨dS M.Al,j*3+1,M.ah[j].next,az tl M.ah[j].next⟩:cQ)]:=rfl;rw[hlp]at P1 hup;have P1':fQ w0 w0.heap.size n b' (((M.af.flatMap (dz (pp tl) (az tl))++M.ax.zipIdx.flatMap (fA (pp tl) M.Ai))++(M.ah.zipIdx.take j).flatMap (eY (pp tl) (az tl) M.Al))++([(⟨dS M.Al,j*3,M.ah[j].var,tl.getD M.ah[j].var.toNat 0⟩:cQ)]++([(⟨dS M.Al,j*3+1,M.ah[j].next,az tl M.ah[j].next⟩:cQ)]++((M.ah.zipIdx.drop (j+1)).flatMap (eY (pp tl) (az tl) M.Al)++((cw (az tl) M.Ao M.bk++(cw (az tl) M.Ab M.aU++cw (az tl) M.Ac M.constraints))++M.ag.zipIdx.flatMap (ib (pp tl) (az tl) M.An)))))):=by simpa only[bM]using P1
       have P2:fQ w0 w0.heap.size n b' ((((M.af.flatMap (dz (pp tl) (az tl))++M.ax.zipIdx.flatMap (fA (pp tl) M.Ai))++(M.ah.zipIdx.take j).flatMap (eY (pp tl) (az tl) M.Al))++[(⟨dS M.Al,j*3,M.ah[j].var,tl.getD M.ah[j].var.toNat 0⟩:cQ)])++([(⟨dS M.Al,j*3+1,M.ah[j].next,az tl M.ah[j].next⟩:cQ)]++((M.ah.zipIdx.drop (j+1)).flatMap (eY (pp tl) (az tl) M.Al)++((cw (az tl) M.Ao M.bk++(cw (az tl) M.Ab M.aU++cw (az tl) M.Ac M.constraints))++M.ag.zipIdx.flatMap (ib (pp tl) (az tl) M.An))))):=by simpa only[bM]using P1
       have d92:=hsl.out _ wr _ _ _ _ HS.out ⟨_,P1'⟩ (by show w3.heap.size<_;omega) rfl c92;have C1:Hid (∀W' q' ad,Below w0.heap.size (cN id w0 (dg ((M.af.flatMap (dz (pp tl) (az tl))++M.ax.zipIdx.flatMap (fA (pp tl) M.Ai))++(M.ah.zipIdx.take j).flatMap (eY (pp tl) (az tl) M.Al)))) W'->W'.cell? ⟨q',0,none⟩=some (.pointer (some ad))->ad=⟨bl,j*3,none⟩->Calls Tryz.prog 151 #[.agg #[.slice (some ⟨b',off',none⟩) n c'],.slice (some ⟨q',0,none⟩) 1 1] W' fun e w'=>e=.returned (.tuple #[])/\Below w0.heap.size (cN id w0 (dg (((M.af.flatMap (dz (pp tl) (az tl))++M.ax.zipIdx.flatMap (fA (pp tl) M.Ai))++(M.ah.zipIdx.take j).flatMap (eY (pp tl) (az tl) M.Al))++[(⟨dS M.Al,j*3,M.ah[j].var,tl.getD M.ah[j].var.toNat 0⟩:cQ)]))) w'):=fun W' q' ad h hq e=>by subst e;refine(Fk P1' rfl h HRW.out hn hxn.2.1 rfl (by rw[hq,<-hbk];rfl)).mono ?_;rintro e w' ⟨rfl,h1,_⟩;exact⟨rfl,h1⟩
       have C2:Hid (∀(w1 W':World) (q':Nat) (ad:Addr),Below w0.heap.size (cN id w0 (dg (((M.af.flatMap (dz (pp tl) (az tl))++M.ax.zipIdx.flatMap (fA (pp tl) M.Ai))++(M.ah.zipIdx.take j).flatMap (eY (pp tl) (az tl) M.Al))++[(⟨dS M.Al,j*3,M.ah[j].var,tl.getD M.ah[j].var.toNat 0⟩:cQ)]))) w1->w0.heap.size<=w1.heap.size->q'=w1.heap.size->W'=(w1.alloc (Obj.cells #[Value.pointer (some ad)] 224)).drew->ad=⟨bl,j*3+1,none⟩->Calls Tryz.prog 152 #[.agg #[.slice (some ⟨b',off',none⟩) n c'],.slice (some ⟨q',0,none⟩) 1 1] W' fun e w'=>e=.returned (.tuple #[])/\Below w0.heap.size (cN id w0 (dg ((M.af.flatMap (dz (pp tl) (az tl))++M.ax.zipIdx.flatMap (fA (pp tl) M.Ai))++(M.ah.zipIdx.take (j+1)).flatMap (eY (pp tl) (az tl) M.Al)))) w'):=fun w1 W' q' ad h hs e1 e2 e3=>by subst e1 e2 e3;refine(Om (c:=c') (k:=1) (q:=w1.heap.size) P2 rfl (h.alloc hs (Obj.cells #[Value.pointer (some ⟨bl,j*3+1,none⟩)] 224)).drew HRW.out HT.out hn (fun p hp=>by obtain rfl:=GE.1 hp;exact⟨hxn.2.2.2,rfl⟩) aue rfl (by rw[<-hbk];exact uq w1 [_] _ (by simp[Value.oneCell']))).mono ?_;rintro e w' ⟨rfl,h1,_⟩;exact⟨rfl,by rw[hup,<-bM];exact h1⟩
       have C3:Hid (∀w1,Below w0.heap.size (cN id w0 (dg (((M.af.flatMap (dz (pp tl) (az tl))++M.ax.zipIdx.flatMap (fA (pp tl) M.Ai))++(M.ah.zipIdx.take j).flatMap (eY (pp tl) (az tl) M.Al))++[(⟨dS M.Al,j*3,M.ah[j].var,tl.getD M.ah[j].var.toNat 0⟩:cQ)]))) w1->w1.cell? ⟨w3.heap.size+1,0,none⟩=some (.slice (some ⟨b',off',none⟩) n c')/\w1.cell? ⟨w3.heap.size,2,none⟩=some (.slice (some ⟨bl,0,none⟩) M.ah.length M.cl)/\w0.heap.size<=w1.heap.size):=fun w1 h=>⟨hsl.out _ w1 _ _ _ _ h ⟨_,P2⟩ (by show w3.heap.size+1<_;omega) rfl c10,(hsl.out _ w1 _ _ _ _ h ⟨_,P2⟩ (by show w3.heap.size<_;omega) rfl c92).trans (by rw[hA]),by have:=h.size;rwa [mE]at this⟩;have C4:Hid (∀w1,Below w0.heap.size (cN id w0 (dg ((M.af.flatMap (dz (pp tl) (az tl))++M.ax.zipIdx.flatMap (fA (pp tl) M.Ai))++(M.ah.zipIdx.take (j+1)).flatMap (eY (pp tl) (az tl) M.Al)))) w1->w1.cell? ⟨w3.heap.size+1,0,none⟩=some (.slice (some ⟨b',off',none⟩) n c')/\w1.cell? ⟨w3.heap.size,2,none⟩=some (.slice (some ⟨bl,0,none⟩) M.ah.length M.cl)):=fun w1 h=>⟨hsl.out _ w1 _ _ _ _ h (Fl HL2.out HP0.out _) (by show w3.heap.size+1<_;omega) rfl c10,(hsl.out _ w1 _ _ _ _ h (Fl HL2.out HP0.out _) (by show w3.heap.size<_;omega) rfl c92).trans (by rw[hA])⟩;rw[hA]at d92;have hba:=HS.out.alloc hss (Obj.cells #[Value.pointer (some ⟨bl,j*3,none⟩)] 224);have hbc:=(bD.new wr 224 #[Value.pointer (some ⟨bl,j*3,none⟩)]).cell 0;clear hx hA P1 P1' P2 hup hbk hxn hlp
       go_wp2_with (refine(C1.out _ _ _ hba hbc rfl).mono ?_;rintro e w4 ⟨rfl,h4⟩;have e10:=(C3.out _ h4).1;have e92:=(C3.out _ h4).2.1;have ess:=(C3.out _ h4).2.2)
       go_region_held3 (fun w'=>w'.cell? ⟨w3.heap.size+1,0,none⟩=some (.slice (some ⟨b',off',none⟩) n c')/\w'.cell? ⟨w3.heap.size,2,none⟩=some (.slice (some ⟨bl,0,none⟩) M.ah.length M.cl)) (first|assumption|(refine⟨?_,?_⟩<;>assumption)|exact⟨(World.cell?_alloc_lt _ _ ⟨w3.heap.size+1,0,none⟩ (by show w3.heap.size+1<_;omega)).trans e10,(World.cell?_alloc_lt _ _ ⟨w3.heap.size,2,none⟩ (by show w3.heap.size<_;omega)).trans e92⟩)
        (first|(go_at_call 152;refine(C2.out w4 _ _ _ h4 ess rfl rfl rfl).mono ?_;rintro e w5 ⟨rfl,h5⟩;have f10:=(C4.out _ h5).1;have f92:=(C4.out _ h5).2))
       go_wp2_with fail
       go_roundw
       case rel=>exact⟨j+1,auc,by go_num,Lib.hid h5⟩
       case measure=>simp[intOf];omega
      .obtain rfl:j=M.ah.length:=auc
       have st3:Below w0.heap.size (cN id w0 (dg (((M.af.flatMap (dz (pp tl) (az tl))++M.ax.zipIdx.flatMap (fA (pp tl) M.Ai))++M.ah.zipIdx.flatMap (eY (pp tl) (az tl) M.Al))))) wr:=by have:=HS.out;rw[Oe]at this;exact this
       have PD2:fQ w0 w0.heap.size n b' (((M.af.flatMap (dz (pp tl) (az tl))++M.ax.zipIdx.flatMap (fA (pp tl) M.Ai))++M.ah.zipIdx.flatMap (eY (pp tl) (az tl) M.Al))++((cw (az tl) M.Ao M.bk++(cw (az tl) M.Ab M.aU++cw (az tl) M.Ac M.constraints))++M.ag.zipIdx.flatMap (ib (pp tl) (az tl) M.An))):=by have:=HP0.out;rw[HL2.out]at this;simpa only[bM]using this
       have d10:=hsl.out _ wr _ _ _ _ st3 ⟨_,PD2⟩ (by show w3.heap.size+1<_;omega) rfl c10;have d93:=hsl.out _ wr _ _ _ _ st3 ⟨_,PD2⟩ (by show w3.heap.size<_;omega) rfl c93;have d94:=hsl.out _ wr _ _ _ _ st3 ⟨_,PD2⟩ (by show w3.heap.size<_;omega) rfl c94;have d95:=hsl.out _ wr _ _ _ _ st3 ⟨_,PD2⟩ (by show w3.heap.size<_;omega) rfl c95;obtain⟨e1,e2,e3⟩:=uH (az tl) HMO0.out.out;obtain⟨f1,f2,f3⟩:=uH (az tl) HMO0.out.fe;obtain⟨g1,g2,g3⟩:=uH (az tl) HMO0.out.ga;have C1:Hid (∀W' q',Below w0.heap.size (cN id w0 (dg (((M.af.flatMap (dz (pp tl) (az tl))++M.ax.zipIdx.flatMap (fA (pp tl) M.Ai))++M.ah.zipIdx.flatMap (eY (pp tl) (az tl) M.Al))))) W'->Reads W' W'.heap.size 1 (some ⟨q',0,none⟩) 3 [.slice M.Ao M.bk.length M.co,.slice M.Ab M.aU.length M.cb,.slice M.Ac M.constraints.length M.cc]->Calls Tryz.prog 153 #[.agg #[.slice (some ⟨b',off',none⟩) n c'],.slice (some ⟨q',0,none⟩) 3 3] W' fun e w'=>e=.returned (.tuple #[])/\Below w0.heap.size (cN id w0 (dg ((((M.af.flatMap (dz (pp tl) (az tl))++M.ax.zipIdx.flatMap (fA (pp tl) M.Ai))++M.ah.zipIdx.flatMap (eY (pp tl) (az tl) M.Al))++(cw (az tl) M.Ao M.bk++(cw (az tl) M.Ab M.aU++cw (az tl) M.Ac M.constraints)))))) w'):=fun W' q' h hq=>by
        have hout:=HFM.out.out.1;have hbad:=HFM.out.fe.1;have hcon:=HFM.out.ga.1;have k1:M.bk.length<=4000:=hout;have k2:M.aU.length<=4000:=hbad;have k3:M.constraints.length<=4000:=hcon;refine(aaI (r:=M.ag.zipIdx.flatMap (ib (pp tl) (az tl) M.An)) (c:=c') (k:=3) (q:=q') (ls:=[⟨M.Ao.map Addr.block,M.co,M.bk⟩,⟨M.Ab.map Addr.block,M.cb,M.aU⟩,⟨M.Ac.map Addr.block,M.cc,M.constraints⟩]) (by rw[ww,ww,ww,NE,di,e1,f1,g1];exact PD2) rfl h HRW.out HT.out hn (fun l hl=>by
         rcases Fn.1 hl with rfl|hl
         .exact⟨by show M.bk.length<=_;omega,e3,fun x hx=>(HNumM.out.out x hx).2⟩
         .rcases Fn.1 hl with rfl|hl
          .exact⟨by show M.aU.length<=_;omega,f3,fun x hx=>(HNumM.out.fe x hx).2⟩
          .obtain rfl:=GE.1 hl;exact⟨by show M.constraints.length<=_;omega,g3,fun x hx=>(HNumM.out.ga x hx).2⟩) aue rfl (by rw[UV,UV,UV,asr,e2,f2,g2];exact hq)).mono ?_
        rintro e w' ⟨rfl,h1,_⟩;rw[ww,ww,ww,NE,di,e1,f1,g1]at h1;exact⟨rfl,h1⟩
       have hba:=st3.alloc hss (Obj.cells #[.slice M.Ao M.bk.length M.co,.slice M.Ab M.aU.length M.cb,.slice M.Ac M.constraints.length M.cc] 22);have hbq:Reads (wr.alloc (Obj.cells #[.slice M.Ao M.bk.length M.co,.slice M.Ab M.aU.length M.cb,.slice M.Ac M.constraints.length M.cc] 22)) (wr.alloc (Obj.cells #[.slice M.Ao M.bk.length M.co,.slice M.Ab M.aU.length M.cb,.slice M.Ac M.constraints.length M.cc] 22)).heap.size 1 (some ⟨wr.heap.size,0,none⟩) 3 [.slice M.Ao M.bk.length M.co,.slice M.Ab M.aU.length M.cb,.slice M.Ac M.constraints.length M.cc]:=uq wr [_,_,_] _ (by simp[Value.oneCell']);have hL3:iN (pp tl) (az tl) M=(((M.af.flatMap (dz (pp tl) (az tl))++M.ax.zipIdx.flatMap (fA (pp tl) M.Ai))++M.ah.zipIdx.flatMap (eY (pp tl) (az tl) M.Al))++(cw (az tl) M.Ao M.bk++(cw (az tl) M.Ab M.aU++cw (az tl) M.Ac M.constraints)))++(M.ag.zipIdx.flatMap (ib (pp tl) (az tl) M.An)++[]):=by rw[HL2.out];simp only[bM,di]
       have HL3:=Lib.hid hL3;have C2:Hid (∀w1,Below w0.heap.size (cN id w0 (dg ((((M.af.flatMap (dz (pp tl) (az tl))++M.ax.zipIdx.flatMap (fA (pp tl) M.Ai))++M.ah.zipIdx.flatMap (eY (pp tl) (az tl) M.Al))++(cw (az tl) M.Ao M.bk++(cw (az tl) M.Ab M.aU++cw (az tl) M.Ac M.constraints)))))) w1->w1.cell? ⟨w3.heap.size,7,none⟩=some (.slice M.An M.ag.length M.cn)):=fun w1 h=>by refine hsl.out _ w1 _ _ _ _ h ?_ (by show w3.heap.size<_;omega) rfl c97;have:=HP0.out;rw[HL3.out]at this;exact⟨_,this⟩
       have hnl:M.ag.length<=4000:=HFM.out.ag.1;clear hL3 e1 e2 e3 f1 f2 f3 g1 g2 g3 PD2 HS
       go_wp2_with (refine(C1.out _ _ hba hbq).mono ?_;rintro e w4 ⟨rfl,h4⟩;have e97:=C2.out _ h4)
       clear hba hbq st3 d10 d93 d94 d95;have st4:Hid (Below w0.heap.size (cN id w0 (dg ((((M.af.flatMap (dz (pp tl) (az tl))++M.ax.zipIdx.flatMap (fA (pp tl) M.Ai))++M.ah.zipIdx.flatMap (eY (pp tl) (az tl) M.Al))++(cw (az tl) M.Ao M.bk++(cw (az tl) M.Ab M.aU++cw (az tl) M.Ac M.constraints)))++(M.ag.zipIdx.take 0).flatMap (ib (pp tl) (az tl) M.An)))) w4):=Lib.hid (by rw[WP,NE,di];exact h4);clear h4;obtain⟨wo3,rfl⟩:∃x,x=wr:=⟨_,rfl⟩
       go_loopw [109] (fun i wr=>∃j:Nat,j<=M.ag.length/\i=.int .i64 j/\Hid (Below w0.heap.size (cN id w0 (dg ((((M.af.flatMap (dz (pp tl) (az tl))++M.ax.zipIdx.flatMap (fA (pp tl) M.Ai))++M.ah.zipIdx.flatMap (eY (pp tl) (az tl) M.Al))++(cw (az tl) M.Ao M.bk++(cw (az tl) M.Ab M.aU++cw (az tl) M.Ac M.constraints)))++(M.ag.zipIdx.take j).flatMap (ib (pp tl) (az tl) M.An)))) wr)) (fun i _=>M.ag.length-(intOf i).toNat)
       case atStart=>exact⟨0,Do _,rfl,st4⟩
       case round=>
        clear st4 e97;obtain⟨j,hj,rfl,HS⟩:=hrel;have hss:w0.heap.size<=wr.heap.size:=by have:=HS.out.size;rwa [mE]at this
        by_cases hlt:j<M.ag.length
        .have hx:M.ag[j]?=some M.ag[j]:=bA hlt;obtain⟨bl,hA,_,_,_⟩:=kC HMO0.out.and (fun e=>by rw[e]at hlt;exact asn _ hlt);obtain⟨P1,hup⟩:=OD HL3.out HP0.out (sO hx);have hbk:dS M.An=bl:=by rw[hA];rfl
         have hxn:=HNumM.out.and _ (ut hlt);have hlp:ib (pp tl) (az tl) M.An (M.ag[j],j)=[(⟨dS M.An,j*3,M.ag[j].var,tl.getD M.ag[j].var.toNat 0⟩:cQ)]++[(⟨dS M.An,j*3+1,M.ag[j].a,az tl M.ag[j].a⟩:cQ),(⟨dS M.An,j*3+2,M.ag[j].b,az tl M.ag[j].b⟩:cQ)]:=rfl;rw[hlp]at P1 hup;have P1':fQ w0 w0.heap.size n b' (((((M.af.flatMap (dz (pp tl) (az tl))++M.ax.zipIdx.flatMap (fA (pp tl) M.Ai))++M.ah.zipIdx.flatMap (eY (pp tl) (az tl) M.Al))++(cw (az tl) M.Ao M.bk++(cw (az tl) M.Ab M.aU++cw (az tl) M.Ac M.constraints)))++(M.ag.zipIdx.take j).flatMap (ib (pp tl) (az tl) M.An))++([(⟨dS M.An,j*3,M.ag[j].var,tl.getD M.ag[j].var.toNat 0⟩:cQ)]++([(⟨dS M.An,j*3+1,M.ag[j].a,az tl M.ag[j].a⟩:cQ),(⟨dS M.An,j*3+2,M.ag[j].b,az tl M.ag[j].b⟩:cQ)]++((M.ag.zipIdx.drop (j+1)).flatMap (ib (pp tl) (az tl) M.An)++[])))):=by simpa only[bM]using P1
         have P2:fQ w0 w0.heap.size n b' ((((((M.af.flatMap (dz (pp tl) (az tl))++M.ax.zipIdx.flatMap (fA (pp tl) M.Ai))++M.ah.zipIdx.flatMap (eY (pp tl) (az tl) M.Al))++(cw (az tl) M.Ao M.bk++(cw (az tl) M.Ab M.aU++cw (az tl) M.Ac M.constraints)))++(M.ag.zipIdx.take j).flatMap (ib (pp tl) (az tl) M.An))++[(⟨dS M.An,j*3,M.ag[j].var,tl.getD M.ag[j].var.toNat 0⟩:cQ)])++([(⟨dS M.An,j*3+1,M.ag[j].a,az tl M.ag[j].a⟩:cQ),(⟨dS M.An,j*3+2,M.ag[j].b,az tl M.ag[j].b⟩:cQ)]++((M.ag.zipIdx.drop (j+1)).flatMap (ib (pp tl) (az tl) M.An)++[]))):=by simpa only[bM]using P1
         have d97:=hsl.out _ wr _ _ _ _ HS.out ⟨_,P1'⟩ (by show w3.heap.size<_;omega) rfl c97;have C1:Hid (∀W' q' ad,Below w0.heap.size (cN id w0 (dg ((((M.af.flatMap (dz (pp tl) (az tl))++M.ax.zipIdx.flatMap (fA (pp tl) M.Ai))++M.ah.zipIdx.flatMap (eY (pp tl) (az tl) M.Al))++(cw (az tl) M.Ao M.bk++(cw (az tl) M.Ab M.aU++cw (az tl) M.Ac M.constraints)))++(M.ag.zipIdx.take j).flatMap (ib (pp tl) (az tl) M.An)))) W'->W'.cell? ⟨q',0,none⟩=some (.pointer (some ad))->ad=⟨bl,j*3,none⟩->Calls Tryz.prog 151 #[.agg #[.slice (some ⟨b',off',none⟩) n c'],.slice (some ⟨q',0,none⟩) 1 1] W' fun e w'=>e=.returned (.tuple #[])/\Below w0.heap.size (cN id w0 (dg (((((M.af.flatMap (dz (pp tl) (az tl))++M.ax.zipIdx.flatMap (fA (pp tl) M.Ai))++M.ah.zipIdx.flatMap (eY (pp tl) (az tl) M.Al))++(cw (az tl) M.Ao M.bk++(cw (az tl) M.Ab M.aU++cw (az tl) M.Ac M.constraints)))++(M.ag.zipIdx.take j).flatMap (ib (pp tl) (az tl) M.An))++[(⟨dS M.An,j*3,M.ag[j].var,tl.getD M.ag[j].var.toNat 0⟩:cQ)]))) w'):=fun W' q' ad h hq e=>by subst e;refine(Fk P1' rfl h HRW.out hn hxn.2.1 rfl (by rw[hq,<-hbk];rfl)).mono ?_;rintro e w' ⟨rfl,h1,_⟩;exact⟨rfl,h1⟩
         have C2:Hid (∀(w1 W':World) (q':Nat) (ad ad2:Addr),Below w0.heap.size (cN id w0 (dg (((((M.af.flatMap (dz (pp tl) (az tl))++M.ax.zipIdx.flatMap (fA (pp tl) M.Ai))++M.ah.zipIdx.flatMap (eY (pp tl) (az tl) M.Al))++(cw (az tl) M.Ao M.bk++(cw (az tl) M.Ab M.aU++cw (az tl) M.Ac M.constraints)))++(M.ag.zipIdx.take j).flatMap (ib (pp tl) (az tl) M.An))++[(⟨dS M.An,j*3,M.ag[j].var,tl.getD M.ag[j].var.toNat 0⟩:cQ)]))) w1->w0.heap.size<=w1.heap.size->q'=w1.heap.size->W'=(w1.alloc (Obj.cells #[Value.pointer (some ad),Value.pointer (some ad2)] 224)).drew->ad=⟨bl,j*3+1,none⟩->ad2=⟨bl,j*3+2,none⟩->Calls Tryz.prog 152 #[.agg #[.slice (some ⟨b',off',none⟩) n c'],.slice (some ⟨q',0,none⟩) 2 2] W' fun e w'=>e=.returned (.tuple #[])/\Below w0.heap.size (cN id w0 (dg ((((M.af.flatMap (dz (pp tl) (az tl))++M.ax.zipIdx.flatMap (fA (pp tl) M.Ai))++M.ah.zipIdx.flatMap (eY (pp tl) (az tl) M.Al))++(cw (az tl) M.Ao M.bk++(cw (az tl) M.Ab M.aU++cw (az tl) M.Ac M.constraints)))++(M.ag.zipIdx.take (j+1)).flatMap (ib (pp tl) (az tl) M.An)))) w'):=fun w1 W' q' ad ad2 h hs e1 e2 e3 e4=>by
          subst e1 e2 e3 e4;refine(Om (c:=c') (k:=2) (q:=w1.heap.size) P2 rfl (h.alloc hs (Obj.cells #[Value.pointer (some ⟨bl,j*3+1,none⟩),Value.pointer (some ⟨bl,j*3+2,none⟩)] 224)).drew HRW.out HT.out hn (fun p hp=>by
           rcases Fn.1 hp with rfl|hp
           .exact⟨hxn.2.2.2.1,rfl⟩
           .obtain rfl:=GE.1 hp;exact⟨hxn.2.2.2.2.2,rfl⟩) aue rfl (by rw[<-hbk];exact uq w1 [_,_] _ (by simp[Value.oneCell']))).mono ?_
          rintro e w' ⟨rfl,h1,_⟩;exact⟨rfl,by rw[hup,<-bM];exact h1⟩
         have C3:Hid (∀w1,Below w0.heap.size (cN id w0 (dg (((((M.af.flatMap (dz (pp tl) (az tl))++M.ax.zipIdx.flatMap (fA (pp tl) M.Ai))++M.ah.zipIdx.flatMap (eY (pp tl) (az tl) M.Al))++(cw (az tl) M.Ao M.bk++(cw (az tl) M.Ab M.aU++cw (az tl) M.Ac M.constraints)))++(M.ag.zipIdx.take j).flatMap (ib (pp tl) (az tl) M.An))++[(⟨dS M.An,j*3,M.ag[j].var,tl.getD M.ag[j].var.toNat 0⟩:cQ)]))) w1->w1.cell? ⟨w3.heap.size+1,0,none⟩=some (.slice (some ⟨b',off',none⟩) n c')/\w0.heap.size<=w1.heap.size):=fun w1 h=>⟨hsl.out _ w1 _ _ _ _ h ⟨_,P2⟩ (by show w3.heap.size+1<_;omega) rfl c10,by have:=h.size;rwa [mE]at this⟩;have C4:Hid (∀w1,Below w0.heap.size (cN id w0 (dg ((((M.af.flatMap (dz (pp tl) (az tl))++M.ax.zipIdx.flatMap (fA (pp tl) M.Ai))++M.ah.zipIdx.flatMap (eY (pp tl) (az tl) M.Al))++(cw (az tl) M.Ao M.bk++(cw (az tl) M.Ab M.aU++cw (az tl) M.Ac M.constraints)))++(M.ag.zipIdx.take (j+1)).flatMap (ib (pp tl) (az tl) M.An)))) w1->w1.cell? ⟨w3.heap.size+1,0,none⟩=some (.slice (some ⟨b',off',none⟩) n c')):=fun w1 h=>hsl.out _ w1 _ _ _ _ h (Fl HL3.out HP0.out _) (by show w3.heap.size+1<_;omega) rfl c10;rw[hA]at d97;have hba:=HS.out.alloc hss (Obj.cells #[Value.pointer (some ⟨bl,j*3,none⟩)] 224);have hbc:=(bD.new wr 224 #[Value.pointer (some ⟨bl,j*3,none⟩)]).cell 0;clear hx hA P1 P1' P2 hup hbk hxn hlp
         go_wp2_with (refine(C1.out _ _ _ hba hbc rfl).mono ?_;rintro e w5 ⟨rfl,h5⟩;have e10:=(C3.out _ h5).1;have ess:=(C3.out _ h5).2)
         go_region_held3 (fun w'=>w'.cell? ⟨w3.heap.size+1,0,none⟩=some (.slice (some ⟨b',off',none⟩) n c')) (first|assumption|exact(World.cell?_alloc_lt _ _ ⟨w3.heap.size+1,0,none⟩ (by show w3.heap.size+1<_;omega)).trans e10)
          (first|(go_at_call 152;refine(C2.out w5 _ _ _ _ h5 ess rfl rfl rfl rfl).mono ?_;rintro e w6 ⟨rfl,h6⟩;have f10:=C4.out _ h6))
         go_wp2_with fail
         go_roundw
         case rel=>exact⟨j+1,auc,by go_num,Lib.hid h6⟩
         case measure=>simp[intOf];omega
        .obtain rfl:j=M.ag.length:=auc
         have st5:Below w0.heap.size (cN id w0 (dg (iN (pp tl) (az tl) M))) wr:=by have:=HS.out;rw[Oe]at this;rw[HL3.out,di];exact this
         have hne:∀(b:Nat),(b<w.heap.size+2\/w3.heap.size<=b)->∀u∈dg (iN (pp tl) (az tl) M),u.1≠b:=fun b hb u hu e=>by obtain⟨p,hp,rfl⟩:=rt.1 hu;have:=HLO.out _ ((Oy (pp tl) (az tl) HMO0.out).at_ p hp).2.2;have e:p.b=b:=e;omega
         have B9:bD wr w3.heap.size 27 M.fs:=(N8 st5 auc (hne _ (.inr (ro _)))).trans HK9.out;have B4:bD wr (w.heap.size+1) 27 kL:=(N8 st5 auc (hne _ (.inl auc))).trans HKz.out;have HST:=Lib.hid st5;have HB4:=Lib.hid B4;obtain⟨q0,q1,q2,q3,q4,q5,q6,q7⟩:=oH B9;have r0:=B4.cell 0;have r1:=B4.cell 1;have r2:=B4.cell 2;have r3:=B4.cell 3;have r4:=B4.cell 4;have r5:=B4.cell 5;have r6:=B4.cell 6;have r7:=B4.cell 7;simp only[kL,IN,asw,FS]at r0 r1 r2 r3 r4 r5 r6 r7;have z0:=B4.frozen 0;have z1:=B4.frozen 1;have z2:=B4.frozen 2;have z3:=B4.frozen 3;have z4:=B4.frozen 4;have z5:=B4.frozen 5;have z6:=B4.frozen 6;have z7:=B4.frozen 7;clear st5 hne B9 B4 HS
         go_wp2_with fail
         have hfin:=(((((((HB4.out.gO 0 (.int .i64 M.vars)).gO 1 (.slice M.Ai M.ax.length M.ci)).gO 2 (.slice M.Al M.ah.length M.cl)).gO 3 (.slice M.Ao M.bk.length M.co)).gO 4 (.slice M.Ab M.aU.length M.cb)).gO 5 (.slice M.Ac M.constraints.length M.cc)).gO 6 (.slice M.Am M.af.length M.cm)).gO 7 (.slice M.An M.ag.length M.cn);simp only[kL,atJ,atS,List.set_cons_succ]at hfin;have hszN:(Tryz.prog.info? 27).map (·.size)=some M.fs.size:=aud
         refine bodyPost_ret (v:=.tuple #[.agg M.fs,.int .i64 0]) (ajm Tryz.results112 _ _ (w.heap.size+1) 27 M.fs (0,0) _ ?_ hfin Tryz.underlying27 rfl hszN) rfl ?_
         .rfl
         refine⟨M,w0,HMD.out,rfl,HBw0.out,HMO0.out,fun b q=>(HLO.out b q).1,?_⟩;have hg0:(cN id w0 (dg (iN (pp tl) (az tl) M))).grownBy wr (some (w.heap.size+1)):=EM (by rw[mE];exact HST.out)
         iterate 8 refine pv ?_ (px _ _ _ _)
         exact hg0
