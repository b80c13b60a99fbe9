import Derived.Test.YtmkbdfidnfmgmaaGreatWMgConeWitnesses00
set_option linter.all false
/- ConeWitnesses: true of all data. -/
namespace Go.Proofs.YtmkbdfidnfmgmaaGreat.V
open Go Go.RowKit
open Go.Proofs.YtmkbdfidnfmgmaaGreat.Pl
set_option maxRecDepth 10000
variable{cs:List (List bA)}{ls:md}
theorem Mn{n:ak}:mT (bW n) ls cs=0↔jG (bW n) (ls,cs,())=0/\(List.range n.ag.length).all (py (n.ag.map bq) ls)=true/\(List.range n.ae.length).all (pM (n.ae.map aI) cs)=true:=by
 have e1:(bW n).2.2.1.length=n.ag.length:=aP _;have e2:(bW n).2.2.2.2.2.2.1.length=n.ae.length:=aP _;unfold mT;rw[e1,e2];show(match decide (jG (bW n) (ls,cs,())=0)with|false=>jG (bW n) (ls,cs,())|true=>match(List.range n.ag.length).all (py (n.ag.map bq) ls)with|false=>(14:Int)|true=>match(List.range n.ae.length).all (pM (n.ae.map aI) cs)with|false=>14|true=>0)=0↔_;by_cases q:jG (bW n) (ls,cs,())=0
 .rw[dt q];cases(List.range n.ag.length).all (py (n.ag.map bq) ls)<;>cases(List.range n.ae.length).all (pM (n.ae.map aI) cs)<;>simp[q]
 .rw[eY q];simp[q]
variable{i:Nat}
theorem Nc{n:ak}{l:dJ}{b:Bool}(h:n.ag[i]?=some l)(h2:ls[i]?=some b):py (n.ag.map bq) ls i=(decide (l.init=2)||(decide (l.init=1) == b)):=by have g:gt af (n.ag.map bq) (i:Int)=bq l:=bI (σ:=af) (by rw[ct,h];rfl);have g2:xy ls (i:Int)=b:=bI (σ:=.bool) h2;unfold py mb;rw[g,g2];rfl
theorem NF{n:ak}{m:cf}{c:List bA}(h:n.ae[i]?=some m)(h2:cs[i]?=some c):pM (n.ae.map aI) cs i=(m.any||decide (c.length=0)):=by have g:gt ah (n.ae.map aI) (i:Int)=aI m:=bI (σ:=ah) (by rw[ct,h];rfl);have g2:n9 cs (i:Int)=c.length:=PP List.length (bI (σ:=.sl bk) h2);unfold pM wK;rw[g,g2];rfl
theorem MN{C:ak}{bad:Int}:∀(xs:List md) (i:Nat) (st:qj),(kT C bad xs i st).2=0->∀x∈xs,x.length=C.al.length
 |[],_,_,_,_,h=>by cases h
 |x::xs,i,st,h,y,hy=>by
  rw[kT]at h;by_cases q:x.length=C.al.length
  .rw[BT (fun w=>w q)]at h;rcases GE.1 hy with rfl|hy
   .exact q
   .split at h
    .cases h
    .split at h
     .cases h
     .exact MN xs (i+1) _ h y hy
  .rw[IO q]at h;cases h
section
variable{n:ak}{V:Nat}{s:S2}(hs:bR n V)(h0:cZ n=0)(ha:dT (aY n) V=true)(M:iZ n V s)
include hs h0 ha M
theorem Yh{bad:Int}:∀(xs:List md) (i K:Nat) (st:qj),nR n K st.1 st.2->(kT (dW n s V) bad xs i (pw n s st.1,oB n s st.2)).2=0->(kT n bad (xs.map (iK n (dm n s))) i st).2=0
 |[],_,_,_,_,_=>rfl|x::xs,i,K,st,ok,h=>by
  have E:=vJ hs h0 ha M;have hxl:x.length=(dm n s).length:=by have:=MN (x::xs) i _ h x (IN ..);rw[this,E.ins,aP]
  have hy:(iK n (dm n s) x).length=n.al.length:=by unfold iK;rw[ua,gp]
  have hb:xC (dm n s) (iK n (dm n s) x)=x:=by unfold xC iK;exact Mv (vE _ _) (fun i hi=>by rw[gp];exact nK hi) hxl
  obtain⟨b1,b2,b3,b4⟩:=ah1 hs h0 ha M ok hy;rw[hb]at b1 b2 b3 b4;have ih:=Yh (bad:=bad) xs (i+1) (K+4) (kH n st (iK n (dm n s) x)) (ae2 hs ok _);rw[arI,kT,BT (fun w=>w hy)];rw[kT]at h;have hci:x.length=(dW n s V).al.length:=by rw[hxl,E.ins,aP]
  rw[BT (fun w=>w hci)]at h;dsimp only at h;have es:kH (dW n s V) (pw n s st.1,oB n s st.2) x=(pw n s (kH n st (iK n (dm n s) x)).1,oB n s (kH n st (iK n (dm n s) x)).2):=Prod.ext b3 b4;rw[b1,b2,es]at h;by_cases q:kh n (cz n st.1 st.2 (iK n (dm n s) x))=false
  .rw[IO q]at h;cases h
  .rw[BT q]at h |-;by_cases q2:xs=[]/\(lj n (cz n st.1 st.2 (iK n (dm n s) x))).getD bad.toNat false=false
   .rw[IO q2]at h;cases h
   .rw[BT q2]at h;rw[BT (fun w=>q2 ⟨List.map_eq_nil_iff.1 w.1,w.2⟩)];exact ih h
variable{tl:md}{tm:List (List bA)}(hok:tF tm)(h:mT (bW (dW n s V)) tl tm=0)
include hok h
theorem Yu:nR n 4096 (eh (de n s) tl (iB n)) (eh (cL n s) tm (gV n))/\pw n s (eh (de n s) tl (iB n))=tl/\oB n s (eh (cL n s) tm (gV n))=tm/\tl.length=(de n s).length/\tm.length=(cL n s).length:=by
 have E:=vJ hs h0 ha M;have hf:=(ad8 h).2;have ok:=aeX hf hok;have hls:(iB n).length=n.ag.length:=by unfold iB;rw[JE,aP]
 have hcs:(gV n).length=n.ae.length:=gp;have k1:tl.length=(de n s).length:=by rw[ok.rK,E.aJ,aP]
 have k2:tm.length=(cL n s).length:=by rw[ok.rI,E.mem,aP]
 refine⟨⟨by rw[ua,hls],by rw[ua,hcs],fun i m c hm hc=>?_⟩,?_,?_,k1,k2⟩
 .by_cases q:i∈cL n s
  .obtain⟨k,hk⟩:=Fr q;have hkl:=(ut.1 hk).1;have ht:=ba (show k<tm.length by omega);have e:=yC (cL n s) tm (gV n) (vE _ _) (fun j hj=>by rw[hcs];exact nK hj) hk ht;rw[e]at hc;have hC:(dW n s V).ae[k]?=some (qy (rH n s V) (kE n s V) m):=by rw[E.mem,ct,hk];show some (qy _ _ (n.ae.getD i nv))=_;rw[eu,hm];rfl
   have o:=ok.ok k _ _ hC ht;cases hc;exact⟨o.Ba,o.len,o.at_,o.wd⟩
  .rw[yw _ _ _ q]at hc;have:c=[]:=by have:=dy hc;unfold gV at this;exact(List.mem_replicate.1 this).2
   subst this;exact⟨List.Pairwise.nil,GT _,fun p hp=>(by cases hp),fun p hp=>(by cases hp)⟩
 .unfold pw;exact Mv (vE _ _) (fun j hj=>by rw[hls];exact nK hj) k1
 .unfold oB;exact Mv (vE _ _) (fun j hj=>by rw[hcs];exact nK hj) k2
theorem ahM:mT (bW n) (eh (de n s) tl (iB n)) (eh (cL n s) tm (gV n))=0:=by
 have E:=vJ hs h0 ha M;obtain⟨ok,d1,d2,k1,k2⟩:=Yu hs h0 ha M hok h;have hch:Pl.eZ n=0:=rS hs h0 fun v hv=>(jL hs.apart _).1 ha v hv;obtain⟨_,hL,hM⟩:=Mn.1 h;have hls:(iB n).length=n.ag.length:=by unfold iB;rw[JE,aP]
 have hcs:(gV n).length=n.ae.length:=gp;refine Mn.2 ⟨ajX hch (ak9 hs (rt _) ok),?_,?_⟩
 .rw[In];intro i hi;have hi:=Id.1 hi;have hx:=ba hi;by_cases q:i∈de n s
  .obtain⟨k,hk⟩:=Fr q;have hkl:=(ut.1 hk).1;have ht:=ba (show k<tl.length by omega);have e:=yC (de n s) tl (iB n) (vE _ _) (fun j hj=>by rw[hls];exact nK hj) hk ht;have hC:(dW n s V).ag[k]?=some (JR (rH n s V) (kE n s V) n.ag[i]):=by rw[E.aJ,ct,hk];show some (JR _ _ (n.ag.getD i lT))=_;rw[eu,hx];rfl
   have h3:=In.1 hL k (Id.2 (ut.1 hC).1);rw[Nc hC ht]at h3;rw[Nc hx e];exact h3
  .have e:(eh (de n s) tl (iB n))[i]?=some (decide (n.ag[i].init=1)):=by rw[yw _ _ _ q];have g:gt af (n.ag.map bq) (i:Int)=bq n.ag[i]:=bI (σ:=af) (by rw[ct,hx];rfl);unfold iB qx;rw[ct,arT (by rw[aP];exact hi)];show some (decide (mb (n.ag.map bq) (i:Int)=1))=_;unfold mb;rw[g];rfl
   rw[Nc hx e];simp
 .rw[In];intro i hi;have hi:=Id.1 hi;have hx:=ba hi;by_cases q:i∈cL n s
  .obtain⟨k,hk⟩:=Fr q;have hkl:=(ut.1 hk).1;have ht:=ba (show k<tm.length by omega);have e:=yC (cL n s) tm (gV n) (vE _ _) (fun j hj=>by rw[hcs];exact nK hj) hk ht;have hC:(dW n s V).ae[k]?=some (qy (rH n s V) (kE n s V) n.ae[i]):=by rw[E.mem,ct,hk];show some (qy _ _ (n.ae.getD i nv))=_;rw[eu,hx];rfl
   have h3:=In.1 hM k (Id.2 (ut.1 hC).1);rw[NF hC ht]at h3;exact(NF hx e).trans h3
  .have e:(eh (cL n s) tm (gV n))[i]?=some []:=by rw[yw _ _ _ q];unfold gV;rw[atf,IO hi]
   exact(NF hx e).trans atQ
end
theorem ahZ{n:ak}(ft:Fit n)(tl:md)(tm:List (List bA))(ti:List md)(bad:Int)(hok:tF tm)(hL:YY tl tm ti)(el:Zfz (bW n,(tl,tm,()),ti,())=some (true,())) :
  UJ (bW n,xE tl tm ti bad,())=some (true,()):=by
 refine aB el (ax rfl ?_);by_cases hc:Pl.eZ n=0
 .obtain⟨V,hs,h0,hV,ha⟩:=G7 hc;obtain⟨s,M,_⟩:=ND hs h0 ha;have eo:=ofC hs h0 ha M;have C:=vK hs h0 ha M;have E:=vJ hs h0 ha M;have e1:=XW (Ea C) tl tm ti bad hok (by have:=hL.2.2.1;omega) (by have:=hL.1;omega);have hti:ti.length<=1000:=by have:=hL.2.2.1;omega
  have hcl:∀c∈tm,c.length<=100000:=fun c h=>by obtain⟨i,hi⟩:=Fr h;have h4:=hL.2.2.2.1 i (ut.1 hi).1;have:gt (.sl bk) tm (i:Int)=c:=bI (σ:=.sl bk) hi;unfold n9 at h4;rw[this]at h4;exact IS h4 atO
  obtain⟨z,hz⟩:∃z,z=ke (dW n s V) tl tm ti bad:=⟨_,rfl⟩;by_cases q:(ke (dW n s V) tl tm ti bad).2=0
  .have hcC:=ahI hs h0 ha M;by_cases q1:bad<0\/((dW n s V).aN.length:Int)<=bad\/ti=[]
   .rw[Ey hcC q1]at q;cases q
   .by_cases q2:mT (bW (dW n s V)) tl tm=0
    .have hr:=q;rw[Nq hcC q1 q2]at hr;have hwd:=MN ti 0 _ hr;have hw:wid (dm n s) ti=true:=by unfold wid;rw[In];intro x hx;exact dt (by rw[hwd x hx,E.ins,aP])
     have e2:=Ys hs h0 ha M tl tm ti bad hti (Mn.1 q2).1 hw hcl;obtain⟨ok,d1,d2,k1,k2⟩:=Yu hs h0 ha M hok q2;have lg:=ahM hs h0 ha M hok q2;have hok2:tF (eh (cL n s) tm (gV n)):=fun c hc=>by
      rcases Yz _ _ _ hc with hc|hc
      .exact hok c hc
      .unfold gV at hc;rw[(List.mem_replicate.1 hc).2];intro i hi;cases hi
     have hlen:(eh (de n s) tl (iB n)).length<=1000000:=by rw[ok.rK];have:=ft.aJ.1;omega
     have e3:=XW ft (eh (de n s) tl (iB n)) (eh (cL n s) tm (gV n)) (ti.map (iK n (dm n s))) bad hok2 (by rw[aP];have:=hL.2.2.1;omega) hlen;have hch:(ke n (eh (de n s) tl (iB n)) (eh (cL n s) tm (gV n)) (ti.map (iK n (dm n s))) bad).2=0:=by
      refine(PP Prod.snd (Nq hc (fun w=>q1 (by
       rcases w with w|w|w
       .exact .inl w
       .refine .inr (.inl ?_);rw[E.bad,aP];exact w
       .exact .inr (.inr (List.map_eq_nil_iff.1 w)))) lg)).trans ?_
      have e4:(pw n s (eh (de n s) tl (iB n)),oB n s (eh (cL n s) tm (gV n)))=(tl,tm):=Prod.ext d1 d2;exact Yh hs h0 ha M ti 0 4096 _ ok ((PP (fun z:qj=>(kT (dW n s V) bad ti 0 z).2) e4).trans hr)
     rw[q]at e1;rw[hch]at e3;unfold pN at eo e2;clear hwd hw hr q2 lg ok d1 d2 hok2 hlen hch q1 q hz hcC E C;generalize dW n s V=D at *
     generalize (ke D tl tm ti bad).1=z1 at *
     generalize (ke n (eh (de n s) tl (iB n)) (eh (cL n s) tm (gV n)) (ti.map (iK n (dm n s))) bad).1=z2 at *
     generalize eh (de n s) tl (iB n)=L1 at *
     generalize eh (cL n s) tm (gV n)=M1 at *
     generalize ti.map (iK n (dm n s))=t1 at *
     generalize cJ (dm n s)=I at *
     generalize cJ (de n s)=La at *
     generalize cJ (cL n s)=Me at *
     exact aB eo (ax rfl (aB e1 (aB e2 (ax rfl (aB e3 (aR rfl (aR rfl (aB DE rfl))))))))
    .rw[Zr hcC q1 q2]at q;cases q
  .have e2:∃r,xY (bW n,pN n s V,xE tl tm ti bad,())=some r:=by
    by_cases q1:jG (bW (dW n s V)) (tl,tm,())=0
    .cases q2:wid (dm n s) ti with|true=>exact⟨_,Ys hs h0 ha M tl tm ti bad hti q1 q2 hcl⟩|false=>exact⟨_,Yt hs h0 ha M tl tm ti bad hti (.inr q2)⟩
    .exact⟨_,Yt hs h0 ha M tl tm ti bad hti (.inl q1)⟩
   obtain⟨r,e2⟩:=e2;have hq:Bool.not (iQ (ke (dW n s V) tl tm ti bad).2 (0:Int))=true:=qQ (aF q);unfold pN at eo e2;clear E C hz q;generalize dW n s V=D at *
   generalize ke D tl tm ti bad=z at *
   generalize cJ (dm n s)=I at *
   generalize cJ (de n s)=La at *
   generalize cJ (cL n s)=Me at *
   exact aB eo (ax rfl (aB e1 (aB e2 (aR hq (aB DE rfl)))))
 .have eo:=alw ft hc;exact aB eo (aR (show Bool.not (iQ (Pl.eZ n) (0:Int))=true from qQ (aF hc)) (aB DE rfl))
theorem ahH(d:cA.T)(t:nm.T)(hd:nG cA d)(ht:nG nm t):UJ (d,t,())=some (true,()):=by obtain⟨⟨tl,tm,⟨⟩⟩,ti,bad,⟨⟩⟩:=t;obtain⟨b,eb,hb⟩:=anh d tl tm ti;cases b with|false=>exact aB eb (aR rfl (aB DE rfl))|true=>obtain⟨h5,hL⟩:=hb rfl;have ft:=ak8 hd h5;have r:=ahZ ft tl tm ti bad (aly ht.1.2.1) hL (by rw[Jr];exact eb);rw[Jr]at r;exact r
