import Derived.Test.YtmkbdfidnfmgmaaGreatWCa
import Derived.Test.YtmkbdfidnfmgmaaGreatWTd
set_option linter.all false
section
namespace Go.Proofs.YtmkbdfidnfmgmaaGreat.V
open Go Go.RowKit Go.Proofs.YtmkbdfidnfmgmaaGreat.Pl
variable{i:Nat}{p:Nat}{v:md}
theorem getD_set_ne{b:Bool}(h:p≠i):(v.set i b).getD p false=v.getD p false:=by rw[eu,eu,atu (fun e=>h e.symm)]
theorem vI:∀(l:List (Int×Bool)) (v:md) (p:Nat),(∀q∈l,q.1.toNat≠p)->(iS v l).getD p false=v.getD p false
 |[],v,p,_=>rfl|q::l,v,p,h=>by show(iS (v.set q.1.toNat q.2) l).getD p false=_;rw[vI l _ p (fun r hr=>h r (FS _ hr)),getD_set_ne (fun e=>h q (IN ..) e.symm)]
variable{x:cV×cx}
theorem DI{n:ak}{cs:List (List bA)}(v:md)(hne:x.2.to≠[])(hp:p∉x.2.nd.to):(fQ n cs v x).getD p false=v.getD p false:=by
 have hq:∀q∈x.2.to,q.toNat≠p:=fun q hq e=>hp (ro.2 ⟨q,hq,e⟩);unfold fQ;split
 .refine getD_set_ne (fun e=>hq (x.2.to.headD 0) ?_ e.symm)
  match he:x.2.to with|[]=>exact absurd he hne|a::l=>simp
 .refine vI _ _ _ (fun q h=>hq q.1 ?_);exact(List.of_mem_zip (show(q.1,q.2)∈_ from h)).1
theorem vH{n:ak}{cs:List (List bA)}{p:Nat}:∀(l:List (cV×cx)) (v:md),(∀x∈l,x.2.to≠[]/\p∉x.2.nd.to)->(l.foldl (fQ n cs) v).getD p false=v.getD p false
 |[],v,_=>rfl|x::l,v,h=>by rw[atn,vH l _ (fun y hy=>h y (FS _ hy)),DI v (h x (IN ..)).1 (h x (IN ..)).2]
variable{l:Int}
theorem yh{w:md}(h:v.getD (l / 2).toNat false=w.getD (l / 2).toNat false):bE l v=bE l w:=by unfold bE;rw[h]
section
variable{n:ak}{V:Nat}(hs:bR n V)(ha:dT (aY n) V=true)
include hs
theorem uB(hx:x∈n6 n):x.2.to≠[]:=hs.Ih (by rw[<-p9];exact AI hx)
include ha
theorem Eg(hx:x∈n6 n){u:Nat}(hu:u∈x.2.nd.to):∃k:Nat,dB (aY n) u k/\lk (lvl n V) x.2=(k:Int):=by obtain⟨h1,h2,h3⟩:=He hs hx;obtain⟨k,hk⟩:=(jL hs.apart V).1 ha _ h1;refine⟨k,hk.wL hs.apart h3 h2 hu,?_⟩;unfold lk;exact MZ hs h1 hk
theorem aj6(hx:x∈n6 n){u:Nat}(hu:u∈x.2.nd.bj):∃k:Nat,dB (aY n) u k/\(k:Int)<lk (lvl n V) x.2:=by obtain⟨h1,h2,h3⟩:=He hs hx;obtain⟨k,hk,e⟩:=Eg hs ha hx h2;obtain⟨j,hj,h⟩:=hk.bj hs.apart h3 h2 hu;exact⟨j,h,by rw[e];omega⟩
def Er(x y:cV×cx):Prop:=(∀u∈x.2.nd.to,u∉y.2.nd.to)/\∀u∈x.2.nd.bj,u∉y.2.nd.to
omit hs ha in
theorem ai3(hs:bR n V):(n6 n).Pairwise fun x y=>∀u∈x.2.nd.to,u∉y.2.nd.to:=by
 rw[asb];intro i j hi hj hij u h1 h2;have hi':(aY n)[i]?=some (n6 n)[i].2.nd:=by rw[<-yL,ct,ba hi];rfl
 have hj':(aY n)[j]?=some (n6 n)[j].2.nd:=by rw[<-yL,ct,ba hj];rfl
 have:=hs.apart i j _ _ u hi' hj' h1 h2;omega
theorem yA{y:cV×cx}(hx:x∈n6 n)(hy:y∈n6 n)(h:lk (lvl n V) x.2<=lk (lvl n V) y.2){u:Nat}(h1:u∈x.2.nd.bj):u∉y.2.nd.to:=by intro h2;obtain⟨k,e1,e2⟩:=aj6 hs ha hx h1;obtain⟨j,e3,e4⟩:=Eg hs ha hy h2;have:=e1.one hs.apart e3;omega
theorem Mo:(cG n V).Pairwise Er:=by
 unfold cG;rw[List.pairwise_flatMap];refine⟨fun i hi=>?_,?_⟩
 .have h:=(ai3 hs).filter (fun x=>decide (lk (lvl n V) x.2=(i:Int)+1));refine asJ (fun{x y} hx hy h=>⟨h,fun u h1=>?_⟩) h;obtain⟨mx,ex⟩:=arg.1 hx;obtain⟨my,ey⟩:=arg.1 hy;have ex:=aig ex;have ey:=aig ey;exact yA hs ha mx my (by rw[ex,ey];exact asQ _) h1
 .refine List.Pairwise.imp (fun{i j} hij=>?_) (atG (n:=(n6 n).length));intro x hx y hy;obtain⟨mx,ex⟩:=arg.1 hx;obtain⟨my,ey⟩:=arg.1 hy;have ex:=aig ex;have ey:=aig ey;refine⟨fun u h1 h2=>?_,fun u h1=>yA hs ha mx my (by rw[ex,ey];omega) h1⟩;obtain⟨k,e1,e2⟩:=Eg hs ha mx h1;obtain⟨l,e3,e4⟩:=Eg hs ha my h2;have:=e1.one hs.apart e3;omega
theorem MK(hx:x∈n6 n):x∈cG n V:=by have h:=MY hs ha hx;unfold cG;refine rg.2 ⟨(lk (lvl n V) x.2-1).toNat,Id.2 atO,arg.2 ⟨hx,dt atO⟩⟩
theorem D7(ls:md)(cs:List (List bA))(ins:md)(h:∀x∈n6 n,p∉x.2.nd.to):(cz n ls cs ins).getD p false=(lE n ls ins).getD p false:=by
 have hV:n.vars.toNat=V:=by rw[hs.vars];rfl
 unfold cz;exact vH _ _ (fun x hx=>⟨uB hs (uI hx),h x (uI hx)⟩)
theorem ajD(ls:md)(cs:List (List bA))(ins:md){a:dU}(h:a∈n.aj):(cz n ls cs ins).getD a.var.toNat false=(bE a.a (cz n ls cs ins)&&bE a.b (cz n ls cs ins)):=by
 have hV:n.vars.toNat=V:=by rw[hs.vars];rfl
 obtain⟨i,hi⟩:=Fr h;have hil:i<n.aj.length:=jj hi;have hx:((⟨false,0,i⟩:cV),jZ a)∈n6 n:=by refine AC _ ?_;refine List.mem_iff_getElem?.2 ⟨i,?_⟩;unfold A6;rw[arQ,eX,ct,hi];refine⟨?_,rfl⟩;unfold lB;rw[ct,arT hil];rfl
 obtain⟨A,B,e⟩:=asI (MK hs ha hx);have hp:=Mo hs ha;rw[e,atv]at hp;have hB:∀y∈B,Er ((⟨false,0,i⟩:cV),jZ a) y:=(arX.1 hp.2.1).1;have mB:∀y∈B,y∈n6 n:=fun y hy=>uI (V:=V) (by rw[e];simp[hy]);have ht:(jZ a).nd.to=[a.var.toNat]:=rfl;have hf:(jZ a).nd.bj=[(a.a / 2).toNat,(a.b / 2).toNat]:=rfl;obtain⟨v,hv⟩:∃v,v=A.foldl (fQ n cs) (lE n ls ins):=⟨_,rfl⟩;have eF:cz n ls cs ins=B.foldl (fQ n cs) (fQ n cs v ((⟨false,0,i⟩:cV),jZ a)):=by unfold cz;rw[hV,e,asd,<-hv];rfl
 have lv:v.length=V+1:=by rw[hv,zw,G0,hV]
 have hrng:a.var.toNat<v.length:=by have:=hs.dY a.var (by unfold aX;simp only[rc,ro];exact .inr ⟨a,h,rfl⟩);omega
 have bn:∀p,p∈(jZ a).nd.bj->(cz n ls cs ins).getD p false=v.getD p false:=by intro p hp';rw[eF,vH B _ (fun y hy=>⟨uB hs (mB y hy),(hB y hy).2 p hp'⟩)];exact DI (x:=((⟨false,0,i⟩:cV),jZ a)) v (by simp[jZ]) (yA hs ha hx hx (asQ _) hp')
 have k1:bE a.a (cz n ls cs ins)=bE a.a v:=yh (bn _ (by rw[hf];simp));have k2:bE a.b (cz n ls cs ins)=bE a.b v:=yh (bn _ (by rw[hf];simp));rw[k1,k2,eF,vH B _ (fun y hy=>⟨uB hs (mB y hy),(hB y hy).1 _ (by rw[ht];simp)⟩)];show(v.set a.var.toNat (bE a.a v&&bE a.b v)).getD a.var.toNat false=_;rw[eu,arK hrng];rfl
end
variable{a:dU}
theorem yz:∀(l:List (Int×Bool)) (v:md) (q:Int×Bool),(l.map fun p=>p.1.toNat).Nodup->q∈l->q.1.toNat<v.length->(iS v l).getD q.1.toNat false=q.2
 |[],_,_,_,h,_=>nomatch h
 |p::l,v,q,hn,h,hv=>by
  have hn:=arU.1 hn;show(iS (v.set p.1.toNat p.2) l).getD q.1.toNat false=_;rcases GE.1 h with rfl|h
  .rw[vI l _ _ (fun r hr e=>hn.1 (ro.2 ⟨r,hr,e⟩)),eu,arK hv];rfl
  .exact yz l _ q hn.2 h (by rw[acl];exact hv)
section
variable{n:ak}{V:Nat}(hs:bR n V)
include hs
theorem Zb{q:Int}(hq:q∈n.al++n.ag.map (·.var)):∀x∈n6 n,q.toNat∉x.2.nd.to:=by
 intro x hx hm;have hnd:=hs.nodup;have hdef:aX n=(n.al++n.ag.map (·.var))++(n.ae.flatMap fv++n.aj.map (·.var)):=by unfold aX;simp
 rw[hdef,rx]at hnd;have rq:=hs.dY q (by rw[hdef];exact AC _ hq);obtain⟨r,hr,hrq⟩:=ro.1 (show q.toNat∈x.2.to.map Int.toNat from hm);have hr2:r∈n.ae.flatMap fv++n.aj.map (·.var):=by
  rcases uv n hx with⟨_,a,h1,h2⟩|⟨_,m,rr,h1,h2,h3⟩
  .rw[h2]at hr;have hr:r∈[a.var]:=hr;rw[NE.1 hr];exact EQ _ (AI (dy h1))
  .rw[h3]at hr;refine AC _ (rg.2 ⟨m,dy h1,?_⟩);exact rg.2 ⟨rr,dy h2,hr⟩
 have rr2:=hs.dY r (by rw[hdef];exact EQ _ hr2);exact hnd.2.2 q hq r hr2 atO
theorem ah6:(n.ag.map fun l=>l.var.toNat).Nodup:=by
 have hnd:=hs.nodup;have hdef:aX n=n.al++(n.ag.map (·.var)++(n.ae.flatMap fv++n.aj.map (·.var))):=by unfold aX;simp
 rw[hdef,rx]at hnd;have h2:=hnd.2.1;rw[rx]at h2;have h3:=h2.1;rw[arN,asu]at h3 |-;refine asJ (fun{a b} ha hb hab=>?_) h3;have ra:=hs.dY a.var (by rw[hdef];exact EQ _ (AC _ (AI ha)));have rb:=hs.dY b.var (by rw[hdef];exact EQ _ (AC _ (AI hb)));omega
end
def ux(cs:List (List bA))(i:Nat)(m:cf)(r:jz)(w:md)(j:Nat):Bool:=(iR (rd (cs.getD i []) (ff (r.addr.map (bE · w)))).toNat m.word.toNat).getD j false
structure Zk(n:ak)(V:Nat)(ls:md)(cs:List (List bA))(ins w:md):Prop where
 src:∀p,p<=V->(∀x∈n6 n,p∉x.2.nd.to)->(lE n ls ins).getD p false=w.getD p false
 Rq:∀a∈n.aj,w.getD a.var.toNat false=(bE a.a w&&bE a.b w)
 rd_:∀(i:Nat) (m:cf) (r:jz),n.ae[i]?=some m->r∈m.reads->∀j,j<m.word.toNat->w.getD (r.var+(j:Int)).toNat false=ux cs i m r w j
section
variable{n:ak}{V:Nat}(hs:bR n V)(ha:dT (aY n) V=true){ls:md}{cs:List (List bA)}{ins w:md}(F:Zk n V ls cs ins w)
include hs ha F
theorem alj(hx:x∈n6 n)(hl:l∈x.2.bj):0<=l/\(l / 2).toNat<=V:=by
 have hi:=uv n hx;have key:l∈bJ n:=by
  rcases hi with⟨_,a,h1,h2⟩|⟨_,m,r,h1,h2,h3⟩
  .rw[h2]at hl;have hm:=dy h1;have hl:l∈[a.a,a.b]:=hl;unfold bJ;simp only[rc,rg];exact .inr ⟨a,hm,hl⟩
  .rw[h3]at hl;have hm:=dy h1;have hr:=dy h2;unfold bJ;simp only[rc,rg];refine .inl (.inr ⟨m,hm,?_⟩);unfold fi;simp only[rc,rg];exact .inl ⟨r,hr,hl⟩
 have:=hs.lits l key;exact⟨this.1,atO⟩
theorem ajC:∀(B A:List (cV×cx)),cG n V=A++B->∀p,p<=V->(∀y∈B,p∉y.2.nd.to)->(A.foldl (fQ n cs) (lE n ls ins)).getD p false=w.getD p false:=by
 have hV:n.vars.toNat=V:=by rw[hs.vars];rfl
 intro B A
 induction hk:A.length generalizing A B with
 |zero=>intro e p hp h;obtain rfl:A=[]:=ww hk;refine F.src p hp fun x hx=>h x ?_;have:=MK hs ha hx;rw[e]at this;exact this
 |succ k ih=>
  intro e p hp h;obtain⟨A',x,rfl⟩:∃A' x,A=A'++[x]:=by
   have hne:A≠[]:=by intro q;rw[q]at hk;simp at hk
   exact⟨A.dropLast,A.getLast hne,(List.dropLast_concat_getLast hne).symm⟩
  have hkl:A'.length=k:=by simp at hk;exact hk
  have e':cG n V=A'++(x::B):=by rw[e];simp
  have hx:x∈n6 n:=uI (V:=V) (by rw[e'];simp);have hap:=Mo hs ha;rw[e',atv]at hap;have hB:∀y∈B,Er x y:=(arX.1 hap.2.1).1;have ih':=ih (x::B) A' hkl e';rw[asd];show(fQ n cs (A'.foldl (fQ n cs) (lE n ls ins)) x).getD p false=_;by_cases hpx:p∈x.2.nd.to
  .obtain⟨v,hv⟩:∃v,v=A'.foldl (fQ n cs) (lE n ls ins):=⟨_,rfl⟩;rw[<-hv];have lv:v.length=V+1:=by rw[hv,zw,G0,hV]
   have hev:∀l∈x.2.bj,bE l v=bE l w:=by
    intro l hl;obtain⟨l1,l2⟩:=alj hs ha F hx hl;refine yh ?_;rw[hv];have hu:(l / 2).toNat∈x.2.nd.bj:=ro.2 ⟨l,hl,rfl⟩;refine ih' _ l2 fun y hy=>?_;rcases GE.1 hy with rfl|hy
    .exact yA hs ha hx hx (asQ _) hu
    .exact(hB y hy).2 _ hu
   rcases uv n hx with⟨h0,a,h1,h2⟩|⟨h0,m,r,h1,h2,h3⟩
   .rw[h2]at hpx hev;have hpx:p∈[a.var.toNat]:=hpx;have hpa:=NE.1 hpx;have e1:bE a.a v=bE a.a w:=hev a.a (by show a.a∈[a.a,a.b];simp);have e2:bE a.b v=bE a.b w:=hev a.b (by show a.b∈[a.a,a.b];simp);unfold fQ;rw[IO h0,h2];show(v.set a.var.toNat (bE a.a v&&bE a.b v)).getD p false=_;rw[hpa,F.Rq a (dy h1),e1,e2,eu,arK atO];rfl
   .rw[h3]at hpx hev;have hr:=dy h2;have hmm:=dy h1;obtain⟨q,hq,hqp⟩:=ro.1 (show p∈(bZ r.var m.word.toNat).map Int.toNat from hpx);obtain⟨j,hj,hjq⟩:=ro.1 (show q∈(List.range m.word.toNat).map fun i:Nat=>r.var+(i:Int)from hq);have hj:=Id.1 hj;have hjq:r.var+(j:Int)=q:=hjq;have hwd:ff (r.addr.map (bE · v))=ff (r.addr.map (bE · w)):=PP ff (are fun l hl=>hev l hl);unfold fQ;rw[BT (by rw[h0];simp),h3];show(iS v ((bZ r.var m.word.toNat).zip (iR (rd (cs.getD x.1.mem []) (ff (r.addr.map (bE · v)))).toNat (bZ r.var m.word.toNat).length))).getD p false=_;have hdl:(bZ r.var m.word.toNat).length=m.word.toNat:=by unfold bZ;rw[aP,asO]
    rw[hdl,hwd,<-hqp,<-hjq,F.rd_ x.1.mem m r h1 hr j hj];have hrng:∀i:Nat,i<m.word.toNat->1<=r.var+(i:Int)/\r.var+(i:Int)<=(V:Int):=by intro i hi;refine hs.dY _ ?_;unfold aX;simp only[rc,rg];refine .inl (.inr ⟨m,hmm,?_⟩);exact rg.2 ⟨r,hr,ro.2 ⟨i,Id.2 hi,rfl⟩⟩
    have hb:(iR (rd (cs.getD x.1.mem []) (ff (r.addr.map (bE · w)))).toNat m.word.toNat).length=m.word.toNat:=wu _ _;have hz:((bZ r.var m.word.toNat).zip (iR (rd (cs.getD x.1.mem []) (ff (r.addr.map (bE · w)))).toNat m.word.toNat))[j]?=some (r.var+(j:Int),ux cs x.1.mem m r w j):=by
     rw[arQ];refine⟨?_,?_⟩
     .unfold bZ;rw[ct,arT hj];rfl
     .unfold ux;exact(fun{L:md}(h:j<L.length)=>(by rw[eu,ba h];rfl:L[j]?=some (L.getD j false))) (WP hj (ato hb.symm))
    have hnd:(((bZ r.var m.word.toNat).zip (iR (rd (cs.getD x.1.mem []) (ff (r.addr.map (bE · w)))).toNat m.word.toNat)).map fun p=>p.1.toNat).Nodup:=by
     have e1:(((bZ r.var m.word.toNat).zip (iR (rd (cs.getD x.1.mem []) (ff (r.addr.map (bE · w)))).toNat m.word.toNat)).map fun p=>p.1.toNat)=(bZ r.var m.word.toNat).map Int.toNat:=by rw[show(fun p:Int×Bool=>p.1.toNat)=Int.toNat∘Prod.fst from rfl,<-Fn,ati (by rw[hdl,hb];exact rt _)]
     rw[e1,arN];unfold bZ;rw[Fn,asu];refine asJ (fun{a b} ha hb hab=>?_) (atG (n:=m.word.toNat));have h1:=hrng a (Id.1 ha);have h2:=hrng b (Id.1 hb);show(r.var+(a:Int)).toNat≠(r.var+(b:Int)).toNat;omega
    have:=yz _ v (r.var+(j:Int),ux cs x.1.mem m r w j) hnd (dy hz) (by have:=hrng j hj;show(r.var+(j:Int)).toNat<v.length;omega);exact this
  .rw[DI _ (uB hs hx) hpx];exact ih' p hp fun y hy=>by
    rcases GE.1 hy with rfl|hy
    .exact hpx
    .exact h y hy
theorem uniq(hp:p<=V):(cz n ls cs ins).getD p false=w.getD p false:=by
 have hV:n.vars.toNat=V:=by rw[hs.vars];rfl
 unfold cz;rw[hV];exact ajC hs ha F [] (cG n V) (d6 _).symm p hp (fun y hy=>nomatch hy)
end
set_option maxRecDepth 10000
theorem alq(n:ak):n6 n=(eH n).zip (dj n):=by rw[<-ajK (n6 n),Ei,p9]
section
variable{n:ak}{V:Nat}(hs:bR n V)(ha:dT (aY n) V=true)
include hs ha
theorem akX(ls:md)(cs:List (List bA))(ins:md){m:cf}{r:jz}(hm:n.ae[i]?=some m)(hr:r∈m.reads){j:Nat}(hj:j<m.word.toNat):(cz n ls cs ins).getD (r.var+(j:Int)).toNat false=ux cs i m r (cz n ls cs ins) j:=by
 have hV:n.vars.toNat=V:=by rw[hs.vars];rfl
 obtain⟨y,y1,y2,hx⟩:=Yg hm hr;rw[<-alq]at hx;obtain⟨A,B,e⟩:=asI (MK hs ha hx);have hp:=Mo hs ha;rw[e,atv]at hp;have hB:∀z∈B,Er (y,kj m.word r) z:=(arX.1 hp.2.1).1;have mB:∀z∈B,z∈n6 n:=fun z hz=>uI (V:=V) (by rw[e];simp[hz]);have ht:(kj m.word r).nd.to=(bZ r.var m.word.toNat).map Int.toNat:=rfl;have hf:(kj m.word r).nd.bj=r.addr.map fun l=>(l / 2).toNat:=rfl;obtain⟨v,hv⟩:∃v,v=A.foldl (fQ n cs) (lE n ls ins):=⟨_,rfl⟩;have eF:cz n ls cs ins=B.foldl (fQ n cs) (fQ n cs v (y,kj m.word r)):=by unfold cz;rw[hV,e,asd,<-hv];rfl
 have lv:v.length=V+1:=by rw[hv,zw,G0,hV]
 have hmm:=dy hm;have hrng:∀i:Nat,i<m.word.toNat->1<=r.var+(i:Int)/\r.var+(i:Int)<=(V:Int):=by intro i hi;refine hs.dY _ ?_;unfold aX;simp only[rc,rg];refine .inl (.inr ⟨m,hmm,?_⟩);exact rg.2 ⟨r,hr,ro.2 ⟨i,Id.2 hi,rfl⟩⟩
 have bz:(r.var+(j:Int)).toNat∈(kj m.word r).nd.to:=by rw[ht];exact AI (ro.2 ⟨j,Id.2 hj,rfl⟩)
 have bn:∀p,p∈(kj m.word r).nd.bj->(cz n ls cs ins).getD p false=v.getD p false:=by intro p hp';rw[eF,vH B _ (fun z hz=>⟨uB hs (mB z hz),(hB z hz).2 p hp'⟩)];exact DI (x:=(y,kj m.word r)) v (uB hs hx) (yA hs ha hx hx (asQ _) hp')
 have hwd:ff (r.addr.map (bE · (cz n ls cs ins)))=ff (r.addr.map (bE · v)):=PP ff (are fun l hl=>yh (bn _ (by grind)));have hdl:(bZ r.var m.word.toNat).length=m.word.toNat:=by unfold bZ;rw[aP,asO]
 unfold ux;rw[hwd,eF,vH B _ (fun z hz=>⟨uB hs (mB z hz),(hB z hz).1 _ bz⟩)];unfold fQ;rw[BT (by rw[y1];simp)];show(iS v ((bZ r.var m.word.toNat).zip (iR (rd (cs.getD y.mem []) (ff (r.addr.map (bE · v)))).toNat (bZ r.var m.word.toNat).length))).getD _ false=_;rw[hdl,y2];have hb:(iR (rd (cs.getD i []) (ff (r.addr.map (bE · v)))).toNat m.word.toNat).length=m.word.toNat:=wu _ _;generalize iR (rd (cs.getD i []) (ff (r.addr.map (bE · v)))).toNat m.word.toNat=bs at hb |-;have hz:((bZ r.var m.word.toNat).zip bs)[j]?=some (r.var+(j:Int),bs.getD j false):=by
  rw[arQ];refine⟨?_,?_⟩
  .unfold bZ;rw[ct,arT hj];rfl
  .rw[eu,ba atO];rfl
 have hnd:(((bZ r.var m.word.toNat).zip bs).map fun p=>p.1.toNat).Nodup:=by
  have e1:(((bZ r.var m.word.toNat).zip bs).map fun p=>p.1.toNat)=(bZ r.var m.word.toNat).map Int.toNat:=by rw[show(fun p:Int×Bool=>p.1.toNat)=Int.toNat∘Prod.fst from rfl,<-Fn,ati (by rw[hdl,hb];exact rt _)]
  rw[e1,arN];unfold bZ;rw[Fn,asu];refine asJ (fun{a b} ha hb hab=>?_) (atG (n:=m.word.toNat))
  grind
 exact yz _ v (r.var+(j:Int),bs.getD j false) hnd (dy hz) (by have:=hrng j hj;show(r.var+(j:Int)).toNat<v.length;omega)
theorem XV{ins:md}(hi:ins.length=n.al.length)(ls:md)(cs:List (List bA)){k:Nat}{v:Int}(hv:n.al[k]?=some v):(cz n ls cs ins).getD v.toNat false=ins.getD k false:=by
 have hV:n.vars.toNat=V:=by rw[hs.vars];rfl
 have hm:=dy hv;rw[D7 hs ha ls cs ins (Zb hs (AC _ hm))];have hnd:=hs.nodup;unfold aX at hnd;simp only[bB]at hnd;rw[rx]at hnd;have dY:∀x∈n.al,1<=x/\x<=(V:Int):=fun x hx=>hs.dY x (by unfold aX;simp only[rc];exact .inl (.inl (.inl hx)));unfold lE;rw[vI _ _ _ fun q hq e=>by
  obtain⟨hq1,_⟩:=List.of_mem_zip (show(q.1,q.2)∈_ from hq)
  grind]
 have hk:k<n.al.length:=(ut.1 hv).1;have hz:(n.al.zip ins)[k]?=some (v,ins.getD k false):=by rw[arQ];exact⟨hv,by rw[eu,ba atO];rfl⟩
 refine yz _ _ (v,ins.getD k false) ?_ (dy hz) (by rw[gp,hV];have:=dY v hm;show v.toNat<_;omega);have e1:((n.al.zip ins).map fun p=>p.1.toNat)=n.al.map Int.toNat:=by rw[show(fun p:Int×Bool=>p.1.toNat)=Int.toNat∘Prod.fst from rfl,<-Fn,ati atO]
 rw[e1,arN,asu];have h1:=hnd.1;rw[arN]at h1;refine asJ (fun{a b} ha hb hab=>?_) h1;have:=dY a ha;have:=dY b hb;omega
theorem YL{ls:md}(hl:ls.length=n.ag.length)(cs:List (List bA))(ins:md){k:Nat}{l:dJ}(hk:n.ag[k]?=some l):(cz n ls cs ins).getD l.var.toNat false=ls.getD k false:=by
 have hV:n.vars.toNat=V:=by rw[hs.vars];rfl
 have hp:k<n.ag.length:=(ut.1 hk).1;have hlm:=dy hk;rw[D7 hs ha ls cs ins (Zb hs (EQ _ (AI hlm)))];unfold lE;have hz:((n.ag.map (·.var)).zip ls)[k]?=some (l.var,ls.getD k false):=by grind
 have hr:=hs.dY l.var (by unfold aX;grind);refine yz _ _ (l.var,ls.getD k false) ?_ (dy hz) (by rw[sw,gp,hV];show l.var.toNat<_;omega);have e1:(((n.ag.map (·.var)).zip ls).map fun p=>p.1.toNat)=n.ag.map fun l=>l.var.toNat:=by rw[show(fun p:Int×Bool=>p.1.toNat)=Int.toNat∘Prod.fst from rfl,<-Fn,ati (by grind),Fn];rfl
 rw[e1];exact ah6 hs
theorem val_zero(ls:md)(cs:List (List bA))(ins:md):(cz n ls cs ins).getD 0 false=false:=by
 rw[D7 hs ha ls cs ins (p:=0) fun x hx h=>by obtain⟨q,hq,e⟩:=ro.1 (show 0∈x.2.to.map Int.toNat from h);have:=hs.mf (by rw[<-p9];exact AI hx) hq;omega];unfold lE;rw[vI _ _ _ fun q hq e=>by
  obtain⟨hq1,_⟩:=List.of_mem_zip (show(q.1,q.2)∈_ from hq);have:=hs.dY q.1 (by unfold aX;grind);omega,vI _ _ _ fun q hq e=>by
  obtain⟨hq1,_⟩:=List.of_mem_zip (show(q.1,q.2)∈_ from hq);have:=hs.dY q.1 (by unfold aX;grind);omega]
 grind
end
variable{m:cf}{k:Nat}
def lT:dJ:=⟨0,0,0⟩
def dm(n:ak)(s:S2):mt:=qS n.al fun i=>kv s (n.al.getD i 0)
def de(n:ak)(s:S2):mt:=qS n.ag fun i=>kv s (n.ag.getD i lT).var
def cL(n:ak)(s:S2):mt:=qS n.ae fun i=>s.2.getD i false
def JR(F G:Int->Int)(l:dJ):dJ:=⟨F l.var,G l.next,l.init⟩
def qy(F G:Int->Int)(m:cf):cf:=⟨m.addr,m.word,m.any,m.reads.map fun r=>⟨F r.var,r.addr.map G⟩,m.writes.map fun w=>⟨G w.on,w.addr.map G,w.data.map G⟩⟩
structure RW(n C:ak)(V K:Nat)(s:S2)(F G:Int->Int):Prop where
 lit:∀l,0<=l->G l=2*F (l / 2)+l % 2
 zero:F 0=0
 dY:∀v∈dF n s,1<=F v/\F v<=(K:Int)
 inj:∀u∈dF n s,∀v∈dF n s,F u=F v->u=v
 arB:∀k:Nat,1<=k->k<=K->(k:Int)∈aX C
 ins:C.al=(dm n s).map fun i=>F (n.al.getD i 0)
 aJ:C.ag=(de n s).map fun i=>JR F G (n.ag.getD i lT)
 mem:C.ae=(cL n s).map fun i=>qy F G (n.ae.getD i nv)
 Rq:∀a∈C.aj,∃b∈(bV n s).aj,a.var=F b.var/\((a.a=G b.a/\a.b=G b.b)\/(a.a=G b.b/\a.b=G b.a))
 data:∀m∈(bV n s).ae,∀r∈m.reads,∀j:Nat,j<m.word.toNat->F (r.var+(j:Int))=F r.var+(j:Int)
 bad:C.aN=n.aN.map G
 gG:C.constraints=n.constraints.map G
def re(n:ak)(K:Nat)(s:S2)(F:Int->Int)(v:md):md:=(List.range (K+1)).map fun k:Nat=>match(dF n s).find? (fun u=>F u == (k:Int))with|some u=>v.getD u.toNat false|none=>false
section
variable{n C:ak}{V K:Nat}{s:S2}{F G:Int->Int}(hs:bR n V)(h0:cZ n=0)(M:iZ n V s)(E:RW n C V K s F G)
include hs h0 M E
theorem yp(v:md){u:Int}(h:u∈dF n s):(re n K s F v).getD (F u).toNat false=v.getD u.toNat false:=by have hr:=E.dY u h;unfold re;rw[eu,ct,arT atO];show Option.getD (some (match(dF n s).find? (fun w=>F w == (((F u).toNat:Nat):Int))with|some u=>v.getD u.toNat false|none=>false)) false=_;rw[arS atO];cases q:(dF n s).find? (fun w=>F w == F u)with|none=>have:=List.find?_eq_none.1 q u h;simp at this|some w=>have h1:=List.find?_some q;have h2:=List.mem_of_find?_eq_some q;rw[beq_iff_eq]at h1;rw[E.inj w h2 u h h1];rfl
theorem ah2(v:md):(re n K s F v).getD 0 false=false:=by unfold re;rw[eu,ct,arT atO];show Option.getD (some (match(dF n s).find? (fun w=>F w == ((0:Nat):Int))with|some u=>v.getD u.toNat false|none=>false)) false=_;cases q:(dF n s).find? (fun w=>F w == ((0:Nat):Int))with|none=>rfl|some w=>have h1:=List.find?_some q;have h2:=List.mem_of_find?_eq_some q;rw[beq_iff_eq]at h1;have:=E.dY w h2;omega
theorem Ef(v:md)(hl:l∈bJ (bV n s)):bE (G l) (re n K s F v)=bE l v:=by
 obtain⟨h1,h2⟩:=DQ hs M hl;have hr:=hs.lits l h1;have hg:=E.lit l hr.1;unfold bE;by_cases q:0<l / 2
 .have hd:=stays hs M h0 (h2 q);rw[arS atO]at hd;have hF:=E.dY _ hd;have e1:G l / 2=F (l / 2):=atO
  have e2:G l % 2=l % 2:=atO
  rw[BT atO,BT atO,e1,e2,yp hs h0 M E v hd,dt (show 0<F (l / 2) by omega),dt q]
 .have e0:l / 2=0:=atO
  have hz:=E.zero
  grind
theorem ala(h:(dm n s)[k]?=some i):∃v,n.al[i]?=some v/\v∈dF n s/\C.al[k]?=some (F v):=by
 obtain⟨h1,h2⟩:=arg.1 (dy h);have hi:=ba (Id.1 h1);refine⟨_,hi,?_,?_⟩
 .rw[eu,hi]at h2;unfold dF aX bV
  grind
 .rw[E.ins,ct,h]
  grind
theorem YV(h:(de n s)[k]?=some i):∃l,n.ag[i]?=some l/\l∈(bV n s).ag/\l.var∈dF n s/\C.ag[k]?=some (JR F G l):=by
 obtain⟨h1,h2⟩:=arg.1 (dy h);have hi:=ba (Id.1 h1);rw[eu,hi]at h2;have hm:n.ag[i]'(Id.1 h1)∈(bV n s).ag:=arg.2 ⟨By _,h2⟩;refine⟨_,hi,hm,?_,?_⟩
 .unfold dF aX
  grind
 .rw[E.aJ,ct,h]
  grind
theorem YZ(h:(cL n s)[k]?=some i):∃m,n.ae[i]?=some m/\m∈(bV n s).ae/\C.ae[k]?=some (qy F G m):=by
 obtain⟨h1,h2⟩:=arg.1 (dy h);have hi:=ba (Id.1 h1);refine⟨_,hi,Mt.2 ⟨i,hi,h2⟩,?_⟩;rw[E.mem,ct,h]
 grind
theorem XM(hm:m∈(bV n s).ae)(hl:l∈fi m):l∈bJ (bV n s):=by
 unfold bJ
 grind
variable(ha:dT (aY n) V=true)(hC:bR C K)(hCa:dT (aY C) K=true){ls ins:md}{cs:List (List bA)}(hl:ls.length=n.ag.length)(hi:ins.length=n.al.length)
include ha hC hCa hl hi
theorem aiD:Zk C K ((de n s).map fun i=>ls.getD i false) ((cL n s).map fun i=>cs.getD i []) ((dm n s).map fun i=>ins.getD i false) (re n K s F (cz n ls cs ins)):=by
 have hl':((de n s).map fun i=>ls.getD i false).length=C.ag.length:=by rw[E.aJ,aP,aP]
 have hi':((dm n s).map fun i=>ins.getD i false).length=C.al.length:=by rw[E.ins,aP,aP]
 refine⟨fun p hp hno=>?_,fun a haC=>?_,fun i m r hm hr j hj=>?_⟩
 .rw[<-D7 hC hCa _ ((cL n s).map fun i=>cs.getD i []) _ hno];rcases ST p with rfl|hp1
  .rw[val_zero hC hCa,ah2 hs h0 M E]
  .have hd:=E.arB p hp1 hp;unfold aX at hd;simp only[bB,rc]at hd;rcases hd with hd|hd|hd
   .obtain⟨k,hk⟩:=Fr hd;have hk':k<(dm n s).length:=by have:=(ut.1 hk).1;rw[E.ins,aP]at this;exact this
    have hik:=ba hk';obtain⟨v,h1,h2,h3⟩:=ala hs h0 M E hik;rw[h3]at hk;have hk:=Do hk;have e1:=XV hC hCa hi' ((de n s).map fun i=>ls.getD i false) ((cL n s).map fun i=>cs.getD i []) h3;have e2:=XV hs ha hi ls cs h1;have e3:=yp hs h0 M E (cz n ls cs ins) h2;have ep:p=(F v).toNat:=atO
    rw[ep,e1,e3,e2,eu,ct,hik];rfl
   .obtain⟨l',hl1,hl2⟩:=ro.1 hd;obtain⟨k,hk⟩:=Fr hl1;have hk':k<(de n s).length:=by have:=(ut.1 hk).1;rw[E.aJ,aP]at this;exact this
    have hik:=ba hk';obtain⟨l,h1,h2,h3,h4⟩:=YV hs h0 M E hik;rw[h4]at hk;have hk:=Do hk;subst hk;have e1:=YL hC hCa hl' ((cL n s).map fun i=>cs.getD i []) ((dm n s).map fun i=>ins.getD i false) h4;have e2:=YL hs ha hl cs ins h1;have e3:=yp hs h0 M E (cz n ls cs ins) h3;have hl2:F l.var=(p:Int):=hl2
    grind
   .exfalso;have hn:(p:Int)∈(dj C).flatMap cx.to:=by
     rw[NW];rcases hd with hd|hd
     .exact EQ _ hd
     .exact AC _ hd
    obtain⟨y,hy,hv⟩:=rg.1 hn;rw[<-p9]at hy;obtain⟨x,hx,rfl⟩:=ro.1 hy;refine hno x hx ?_;have:((p:Int)).toNat∈x.2.to.map Int.toNat:=AI hv
    rwa [Ne]at this
 .obtain⟨b,hb,h1,h2⟩:=E.Rq a haC;have hbn:b∈n.aj:=(arg.1 hb).1;have hbd:b.var∈dF n s:=by unfold dF aX;simp only[rc,ro];exact .inr ⟨b,hb,rfl⟩
  have la:b.a∈bJ (bV n s):=by unfold bJ;simp only[rc,rg];exact .inr ⟨b,hb,by simp[js]⟩
  have lb:b.b∈bJ (bV n s):=by unfold bJ;simp only[rc,rg];exact .inr ⟨b,hb,by simp[js]⟩
  rw[h1,yp hs h0 M E _ hbd,ajD hs ha ls cs ins hbn];have ea:=Ef hs h0 M E (cz n ls cs ins) la;have eb:=Ef hs h0 M E (cz n ls cs ins) lb;rcases h2 with⟨h2,h3⟩|⟨h2,h3⟩
  .rw[h2,h3,ea,eb]
  .rw[h2,h3,ea,eb,Bool.and_comm]
 .have hk':i<(cL n s).length:=by have:=(ut.1 hm).1;rw[E.mem,aP]at this;exact this
  have hik:=ba hk';obtain⟨m0,h1,h2,h3⟩:=YZ hs h0 M E hik;rw[h3]at hm;have hm:=Do hm;subst hm;obtain⟨r0,hr0,rfl⟩:=ro.1 (show r∈m0.reads.map (fun r=>(⟨F r.var,r.addr.map G⟩:jz))from hr);have hj:j<m0.word.toNat:=hj;show(re n K s F (cz n ls cs ins)).getD (F r0.var+(j:Int)).toNat false=_;have hd:r0.var+(j:Int)∈dF n s:=by unfold dF aX;simp only[rc,rg];exact .inl (.inr ⟨m0,h2,rg.2 ⟨r0,hr0,ro.2 ⟨j,Id.2 hj,rfl⟩⟩⟩)
  rw[<-E.data m0 h2 r0 hr0 j hj,yp hs h0 M E _ hd,akX hs ha ls cs ins h1 hr0 hj];unfold ux;show _=(iR (rd (((cL n s).map fun i=>cs.getD i []).getD i []) (ff ((r0.addr.map G).map (bE · (re n K s F (cz n ls cs ins)))))).toNat m0.word.toNat).getD j false;rw[Fn,List.getD_eq_getElem?_getD (l:=(cL n s).map fun i=>cs.getD i []),ct,hik];have e:r0.addr.map ((bE · (re n K s F (cz n ls cs ins)))∘G)=r0.addr.map (bE · (cz n ls cs ins)):=are fun l hl=>Ef hs h0 M E _ (XM hs h0 M E h2 (by unfold fi;simp only[rc,rg];exact .inl ⟨r0,hr0,hl⟩));rw[e];rfl
theorem D8(hl2:l∈bJ (bV n s)):bE (G l) (cz C ((de n s).map fun i=>ls.getD i false) ((cL n s).map fun i=>cs.getD i []) ((dm n s).map fun i=>ins.getD i false))=bE l (cz n ls cs ins):=by
 have hF:=aiD hs h0 M E ha hC hCa (cs:=cs) hl hi;rw[<-Ef hs h0 M E (cz n ls cs ins) hl2];refine yh (uniq hC hCa hF ?_);obtain⟨h1,h2⟩:=DQ hs M hl2;have hr:=hs.lits l h1;have hg:=E.lit l hr.1;by_cases q:0<l / 2
 .have hd:=stays hs M h0 (h2 q);rw[arS atO]at hd;have hF:=E.dY _ hd;omega
 .rw[show l / 2=0 by omega,E.zero]at hg;omega
end
theorem Xu{α β:Type}{f g:β->α->β}:∀(L:List α) (b:β),(∀(b:β) (x:α),x∈L->f b x=g b x)->L.foldl f b=L.foldl g b
 |[],_,_=>rfl|x::L,b,h=>by rw[atn,atn,h b x IN];exact Xu L _ fun b y hy=>h b y (FS _ hy)
section
variable{n C:ak}{V K:Nat}{s:S2}{F G:Int->Int}(hs:bR n V)(h0:cZ n=0)(M:iZ n V s)(E:RW n C V K s F G)
include hs h0 M E
variable(ha:dT (aY n) V=true)(hC:bR C K)(hCa:dT (aY C) K=true){ls ins:md}{cs:List (List bA)}(hl:ls.length=n.ag.length)(hi:ins.length=n.al.length)
include ha hC hCa hl hi
theorem aiB:lj C (cz C ((de n s).map fun i=>ls.getD i false) ((cL n s).map fun i=>cs.getD i []) ((dm n s).map fun i=>ins.getD i false))=lj n (cz n ls cs ins):=by unfold lj;rw[E.bad,Fn];exact are fun l hl2=>D8 hs h0 M E ha hC hCa hl hi (by unfold bJ;simp only[rc];exact .inl (.inl (.inl (.inr hl2))))
theorem aiC:kh C (cz C ((de n s).map fun i=>ls.getD i false) ((cL n s).map fun i=>cs.getD i []) ((dm n s).map fun i=>ins.getD i false))=kh n (cz n ls cs ins):=by
 unfold kh;rw[E.gG,List.all_map];rw[atD,In,In];have key:∀l∈n.constraints,bE (G l) (cz C ((de n s).map fun i=>ls.getD i false) ((cL n s).map fun i=>cs.getD i []) ((dm n s).map fun i=>ins.getD i false))=bE l (cz n ls cs ins):=fun l hl2=>D8 hs h0 M E ha hC hCa hl hi (by unfold bJ;simp only[rc];exact .inl (.inl (.inr hl2)))
 grind
theorem ah3:jI C (cz C ((de n s).map fun i=>ls.getD i false) ((cL n s).map fun i=>cs.getD i []) ((dm n s).map fun i=>ins.getD i false))=(de n s).map fun i=>(jI n (cz n ls cs ins)).getD i false:=by
 unfold jI;rw[E.aJ,Fn];refine are fun i hi2=>?_;obtain⟨k,hk⟩:=Fr hi2;obtain⟨l,h1,h2,h3,h4⟩:=YV hs h0 M E hk;have hg:n.ag.getD i lT=l:=by grind
 show bE (G (n.ag.getD i lT).next) _=_;rw[hg,D8 hs h0 M E ha hC hCa hl hi (by unfold bJ;grind),eu,ct,h1];rfl
theorem ah4(hc:cs.length=n.ae.length):jY C ((cL n s).map fun i=>cs.getD i []) (cz C ((de n s).map fun i=>ls.getD i false) ((cL n s).map fun i=>cs.getD i []) ((dm n s).map fun i=>ins.getD i false))=(cL n s).map fun i=>(jY n cs (cz n ls cs ins)).getD i []:=by
 generalize hw:cz C ((de n s).map fun i=>ls.getD i false) ((cL n s).map fun i=>cs.getD i []) ((dm n s).map fun i=>ins.getD i false)=w;unfold jY;refine arW fun k=>?_;rw[asT,ct,ct];cases hk:(cL n s)[k]? with
 |none=>
  have:C.ae[k]?=none:=by rw[E.mem,ct,hk];rfl
  rw[this];rfl
 |some i=>
  obtain⟨m,h1,h2,h3⟩:=YZ hs h0 M E hk;have hil:i<cs.length:=by grind
  have hci:=ba hil;rw[h3];show some (oP w (qy F G m) (cs.getD i []))=some ((List.zipWith (oP (cz n ls cs ins)) n.ae cs).getD i []);congr 1;rw[eu,eu,asT,h1,hci];show oP w (qy F G m) cs[i]=oP (cz n ls cs ins) m cs[i];have key:∀l∈fi m,bE (G l) w=bE l (cz n ls cs ins):=fun l hl2=>by rw[<-hw];exact D8 hs h0 M E ha hC hCa hl hi (XM hs h0 M E h2 hl2)
  have kw:∀x∈m.writes,∀l∈iP x,bE (G l) w=bE l (cz n ls cs ins):=fun x hx l hl2=>key l (by unfold fi;grind);unfold oP;show(m.writes.map fun w=>(⟨G w.on,w.addr.map G,w.data.map G⟩:l6)).foldl (oH w) cs[i]=_;rw[List.foldl_map];refine Xu _ _ fun c x hx=>?_;have k:=kw x hx;unfold iP at k;have e1:=k x.on IN;have e2:(x.addr.map G).map (bE · w)=x.addr.map (bE · (cz n ls cs ins)):=by simp_all
  have e3:(x.data.map G).map (bE · w)=x.data.map (bE · (cz n ls cs ins)):=by simp_all
  unfold oH;simp only[e1,e2,e3]
end
section
variable{n:ak}{V:Nat}{s:S2}(hs:bR n V)(h0:cZ n=0)(ha:dT (aY n) V=true)(M:iZ n V s)
include hs h0 ha M
theorem yi:dT (aY (ij n s V)) (dF n s).length=true:=by
 have h:=ahB hs M h0 ha;obtain⟨V',h1,_,h3⟩:=ahG h;have:=h1.vars;have:(V':Int)=((dF n s).length:Int):=by rw[<-this];rfl
 grind
def dW(n:ak)(s:S2)(V:Nat):ak:=sU (ij n s V) (dF n s).length
def rH(n:ak)(s:S2)(V:Nat)(v:Int):Int:=rv (j6 (ij n s V) (dF n s).length) (rv (eW n s V) v)
def kE(n:ak)(s:S2)(V:Nat)(l:Int):Int:=rl (j6 (ij n s V) (dF n s).length) (rl (eW n s V) l)
theorem MR{v:Int}(h:v∈dF n s):1<=rv (eW n s V) v/\rv (eW n s V) v<=((dF n s).length:Int):=by obtain⟨i,hi⟩:=Fr h;have hl:=(ut.1 hi).1;rw[rV hs (i:=i) (by unfold jr;grind)];omega
theorem vJ:RW n (dW n s V) V (dF n s).length s (rH n s V) (kE n s V):=by
 have S:=tS hs M h0;have A:=yi hs h0 ha M;have D0:=vF hs M h0;have T:=tX hs (s:=s);have N:=yl S A D0;have hdr:∀v∈dF n s,1<=v/\v<=(V:Int):=fun v hv=>hs.dY v ((vS n s).subset hv);refine⟨fun l hl=>?_,?_,fun v hv=>?_,fun u hu v hv e=>?_,fun k h1 h2=>?_,?_,?_,?_,fun a haC=>?_,fun m hm r hr j hj=>?_,?_,?_⟩
 .unfold kE rH;show 2*rv _ (rl _ l / 2)+rl _ l % 2=_;rw[yD.1,yD.2]
 .unfold rH;rw[MC hs,N.1.zero]
 .have:=MR hs h0 ha M hv;exact N.1.pos this.1 this.2
 .have h1:=MR hs h0 ha M hu;have h2:=MR hs h0 ha M hv;have h3:=N.1.Hy atO h1.2 atO h2.2 e;exact T.Hy (by have:=hdr u hu;omega) (hdr u hu).2 (by have:=hdr v hv;omega) (hdr v hv).2 h3
 .unfold dW;rw[ako S A D0];exact ro.2 ⟨k-1,Id.2 atO,atO⟩
 .show((bV n s).al.map (rv (eW n s V))).map (rv (j6 (ij n s V) (dF n s).length))=_;rw[Fn];show(n.al.filter (kv s)).map _=_;rw[<-DC n.al 0 (kv s)];unfold pick dm;rw[Fn];rfl
 .show((bV n s).ag.map (jV (eW n s V))).map (jV (j6 (ij n s V) (dF n s).length))=_;rw[Fn];show(n.ag.filter (fun l=>kv s l.var)).map _=_;rw[<-DC n.ag lT fun l=>kv s l.var];unfold pick de;rw[Fn];rfl
 .show((bV n s).ae.map (i9 (eW n s V))).map (i9 (j6 (ij n s V) (dF n s).length))=_;rw[Fn];show(pick n.ae nv _).map _=_;unfold pick cL;rw[Fn];refine are fun i _=>?_;show i9 _ (i9 _ (n.ae.getD i nv))=qy (rH n s V) (kE n s V) (n.ae.getD i nv);generalize n.ae.getD i nv=m;unfold i9 qy;show(⟨m.addr,m.word,m.any,(m.reads.map (lO (eW n s V))).map (lO (j6 (ij n s V) (dF n s).length)),(m.writes.map (ni (eW n s V))).map (ni (j6 (ij n s V) (dF n s).length))⟩:cf)=_;congr 1
  .rw[Fn];refine are fun r _=>?_;show lO _ (lO _ r)=_;unfold lO;show(⟨rH n s V r.var,(r.addr.map (rl (eW n s V))).map (rl (j6 (ij n s V) (dF n s).length))⟩:jz)=_;rw[Fn];rfl
  .rw[Fn];refine are fun w _=>?_;show ni _ (ni _ w)=_;unfold ni;show(⟨kE n s V w.on,(w.addr.map (rl (eW n s V))).map (rl (j6 (ij n s V) (dF n s).length)),(w.data.map (rl (eW n s V))).map (rl (j6 (ij n s V) (dF n s).length))⟩:l6)=_;rw[Fn,Fn];rfl
 .obtain⟨b,hb,rfl⟩:=ro.1 (show a∈(mq (ij n s V) (dF n s).length).aj.map jc from haC);obtain⟨c,hc,rfl⟩:=ro.1 (show b∈(jo (ij n s V) (dF n s).length).map (jU (j6 (ij n s V) (dF n s).length))from hb);have hc:=(DT S A).subset hc;obtain⟨d,hd,rfl⟩:=ro.1 (show c∈(bV n s).aj.map (jU (eW n s V))from hc);refine⟨d,hd,rfl,?_⟩;show(max (kE n s V d.a) (kE n s V d.b)=kE n s V d.a/\min (kE n s V d.a) (kE n s V d.b)=kE n s V d.b)\/(max (kE n s V d.a) (kE n s V d.b)=kE n s V d.b/\min (kE n s V d.a) (kE n s V d.b)=kE n s V d.a);omega
 .have hd:r.var+(j:Int)∈dF n s:=by unfold dF aX;simp only[rc,rg];exact .inl (.inr ⟨m,hm,rg.2 ⟨r,hr,ro.2 ⟨j,Id.2 hj,rfl⟩⟩⟩)
  obtain⟨A1,B1,e1⟩:=DH (m:=bV n s) hm hr;have c1:rv (eW n s V) (r.var+(j:Int))=rv (eW n s V) r.var+(j:Int):=infix_cons (L:=jr n s V) (A:=A1) (B:=B1++pR n s V) (fun i v h=>rV hs h) (by unfold jr dF;rw[e1];simp only[bB]) hj;unfold rH;rw[c1];obtain⟨A2,B2,e2⟩:=DH (m:=jb (ij n s V) (dF n s).length) (M:=i9 (eW n s V) m) (r:=lO (eW n s V) r) (AI hm) (AI hr);exact infix_cons N.2 e2 hj
 .show(n.aN.map (rl (eW n s V))).map (rl (j6 (ij n s V) (dF n s).length))=_;rw[Fn];rfl
 .show(n.constraints.map (rl (eW n s V))).map (rl (j6 (ij n s V) (dF n s).length))=_;rw[Fn];rfl
end
def rM(n:ak):ak:={ n with aj:=n.aj.map jc }
theorem XU:l∈js (jc a)↔l∈js a:=by
 unfold js jc
 grind
theorem Ni(n:ak):aX (rM n)=aX n:=by unfold aX rM;show _++(n.aj.map jc).map (·.var)=_;rw[Fn];rfl
theorem akO{n:ak}(h:l∈bJ (rM n)):l∈bJ n:=by
 unfold bJ at h |-;simp only[rc]at h |-;rcases h with h|h
 .exact .inl h
 .refine .inr ?_;obtain⟨a,ha,hl⟩:=rg.1 h;obtain⟨b,hb,rfl⟩:=ro.1 (show a∈n.aj.map jc from ha);exact rg.2 ⟨b,hb,XU.1 hl⟩
section
variable{n:ak}{V:Nat}(hs:bR n V)
include hs
theorem Nj:bR (rM n) V:=by
 refine⟨hs.vars,hs.v2,by rw[Ni];exact hs.nodup,by rw[Ni];exact hs.dY,fun l h=>hs.lits l (akO h),hs.ae,hs.init,?_⟩;have:=hs.lens;refine⟨this.1,this.2.1,?_,this.2.2.2⟩;show(n.aj.map jc).length<=2000
 grind
theorem ajz(h0:cZ n=0):cZ (rM n)=0:=D5 (Nj hs) (by rw[Ni];exact(yo hs h0).1)
omit hs in
theorem akP{x:cx}(h:x∈dj n):∃y∈dj (rM n),y.to=x.to/\∀l∈y.bj,l∈x.bj:=by
 unfold dj at h |-;rcases rc.1 h with h|h
 .obtain⟨a,ha,rfl⟩:=ro.1 h;exact⟨jZ (jc a),AC _ (ro.2 ⟨jc a,AI ha,rfl⟩),rfl,fun l hl=>XU.1 hl⟩
 .exact⟨x,EQ _ h,rfl,fun l hl=>hl⟩
omit hs in
theorem ajy{y:cx}(h:y∈dj (rM n)):∃x∈dj n,y.to=x.to:=by
 unfold dj at h |-;rcases rc.1 h with h|h
 .obtain⟨a,ha,rfl⟩:=ro.1 h;obtain⟨b,hb,rfl⟩:=ro.1 (show a∈n.aj.map jc from ha);exact⟨jZ b,AC _ (AI hb),rfl⟩
 .exact⟨y,EQ _ h,rfl⟩
omit hs in
theorem akN{v:Nat}(h:dB (aY n) v k):Good (aY (rM n)) v:=by
 induction h with
 |free v h=>refine Mm fun x hx hv=>?_;obtain⟨y,hy,rfl⟩:=ze hx;obtain⟨z,hz,e⟩:=ajy hy;refine h z.nd (AI hz) ?_;unfold cx.nd at hv |-;rw[<-e];exact hv
 |node x v f hx hv _ ih=>obtain⟨y,hy,rfl⟩:=ze hx;obtain⟨z,hz,e,hf⟩:=akP hy;refine XG (x:=z.nd) (AI hz) (by unfold cx.nd at hv |-;rw[e];exact hv) fun u hu=>ih u ?_;unfold cx.nd at hu |-;obtain⟨l,hl,rfl⟩:=ro.1 hu;exact AI (f:=fun l:Int=>(l / 2).toNat) (hf l hl)
theorem alL(ha:dT (aY n) V=true):dT (aY (rM n)) V=true:=by rw[jL (Nj hs).apart];intro v hv;obtain⟨k,hk⟩:=(jL hs.apart V).1 ha v hv;exact akN hk
variable(h0:cZ n=0)(ha:dT (aY n) V=true)
include h0 ha
theorem MJ:bR (sU n V) V/\cZ (sU n V)=0/\dT (aY (sU n V)) V=true:=by have S:=rT hs ha;have F:=(yl hs ha h0).1;have C:=Mr hs ha h0;have s0:=DK hs ha h0;have R:=MQ S F C s0;have r0:=XT S F C s0;have ra:=Ym S F C s0 (Yk hs ha);exact⟨Nj R,ajz R r0,alL R ra⟩
variable{s:S2}(M:iZ n V s)
include M
theorem vK:bR (dW n s V) (dF n s).length:=(MJ (tS hs M h0) (vF hs M h0) (yi hs h0 ha M)).1
theorem ahJ:cZ (dW n s V)=0:=(MJ (tS hs M h0) (vF hs M h0) (yi hs h0 ha M)).2.1
theorem XY:dT (aY (dW n s V)) (dF n s).length=true:=(MJ (tS hs M h0) (vF hs M h0) (yi hs h0 ha M)).2.2
theorem ahI:Pl.eZ (dW n s V)=0:=by have C:=vK hs h0 ha M;exact rS C (ahJ hs h0 ha M) fun v hv=>(jL C.apart _).1 (XY hs h0 ha M) v hv
