import Derived.Test.YtdcnjfbffckblaaGreatKNe
set_option linter.unusedSectionVars false
set_option linter.unusedVariables false
set_option linter.unusedSimpArgs false
set_option linter.unnecessarySimpa false
section
namespace Go.Proofs.YtdcnjfbffckblaaGreat.V
open Go Go.RowKit
set_option maxRecDepth 1000000
abbrev gj:=cM.T
abbrev nF:=TL [.int .i64,.sl (.int .i64),.sl al,.sl (.int .i64),.sl (.int .i64),.sl (.int .i64),.sl an,.sl al,.sl (.int .i64),.sl (.int .u8),.sl (.int .i64)]
abbrev PG:Lay:={ T:=[(4,.fz (.int .i64)),(6,.fz aQ),(7,.hd 0 aQ),(8,.int .i64)],h:=[(0,.arr aQ 105)],nx:=1 }
abbrev vl:Lay:=PG
abbrev va:List (Ev.Ex×Lay):=[((.exit 0),{ T:=[(7,.hd 0 aQ)],h:=[(0,.arr aQ 105)],nx:=1 })]
abbrev Ns:=TL vl.σs->Option (Out va)
abbrev CR:=Ld 0 51 (bL [0] (bw Tryz.f52)) vl va
abbrev vb:Lay:={ T:=[(4,.fz (.int .i64)),(6,.fz aQ),(7,.hd 0 aQ),(8,.int .i64),(9,.int .i64)],h:=[(0,.arr aQ 105)],nx:=1 }
abbrev uU:List (Ev.Ex×Lay):=[((.exit 2),PG)]
abbrev Ct:=TL vb.σs->Option (Out uU)
abbrev Cv:=Ld 0 51 (bL [0,0] (bw Tryz.f52)) vb uU
def vx(t4:List Int)(t6:List (Sh.T aQ))(t8 t9:Int)(b0:List (Sh.T aQ)):Option (TL vb.σs⊕Out uU):=
 br (iL t9 (Int.ofNat (List.length t6)))
 (
  ak (ah t9 (List.length t6))<|
  ak (ah (0:Int) (List.length (gt aQ t6 t9).2.2.2.2.1))<|
  ak (ah (gt (.int .i64) (gt aQ t6 t9).2.2.2.2.1 (0:Int)) (List.length t4))<|
  br (iQ (gt (.int .i64) t4 (gt (.int .i64) (gt aQ t6 t9).2.2.2.2.1 (0:Int))) t8)
  (
   ak (ah t9 (List.length t6))<|
   ak (room 72 (List.length (ap b0 (((gt aQ t6 t9).1,((gt aQ t6 t9).2.1,((gt aQ t6 t9).2.2.1,((gt aQ t6 t9).2.2.2.1,((gt aQ t6 t9).2.2.2.2.1,())))))::[]))))<|
   some (.inl (t4,(t6,(t8,((IntKind.wrap .i64 (t9+(1:Int))),((ap b0 (((gt aQ t6 t9).1,((gt aQ t6 t9).2.1,((gt aQ t6 t9).2.2.1,((gt aQ t6 t9).2.2.2.1,((gt aQ t6 t9).2.2.2.2.1,())))))::[])),())))))))
  (
   some (.inl (t4,(t6,(t8,((IntKind.wrap .i64 (t9+(1:Int))),(b0,()))))))))
 (
  some (.inr (t4,(t6,(t8,(b0,()))))))
def MX  :Cv:=bO (u5 vx) (pL k0 e0 1 l0 fun d=>by kernel_rfl)
def Cu:Ct:=bj (u5 vx) NN
def vG(L10:Ct)(t4:List Int)(t6:List (Sh.T aQ))(t8:Int)(b0:List (Sh.T aQ)):Option (TL vl.σs⊕Out va):=
 br (iE t8 (Int.ofNat (List.length t6)))
 (
  az (L10 (t4,(t6,(t8,((0:Int),(b0,())))))) fun x0=>
  some (.inl (x0.1,(x0.2.1,((IntKind.wrap .i64 (@HAdd.hAdd (Int) (Int) (Int) _ x0.2.2.1 (1:Int))),(gJ x0,()))))))
 (
  some (.inr (b0,())))
def YD(M10:Cv):CR:=bO (u4 (vG M10.L)) (pL k0 e0 1 (sC M10 l0) fun d=>by kernel_rfl)
def YC:CR:=YD  MX
def Nt:Ns:=bj (u4 (vG Cu)) NN
abbrev Nr:List Sh:=[bE]
abbrev CQ:List Sh:=[(.sl aQ),.bool]
abbrev NO:=TL Nr->Option (TL CQ)
abbrev C9:=Kd 52 Nr CQ
def YS(F0:Da)(F1:CT)(L7:Ns)(L10:Ct)(a0:Sh.T bE):Option (TL CQ):=
 az (F1 (a0,())) fun x0=>
 br (Bool.not x0.2.1)
 (
  some ([],(false,())))
 (
  az (F0 (a0,())) fun x1=>
  az (L7 (x0.1,(x1.1,((1:Int),([],()))))) fun x2=>
  some (x2.1,(true,())))
def YR(c0:vT)(c1:vH)(M7:CR)(M10:Cv):C9:=⟨u1 (YS c0.F c1.F M7.L M10.L),pD Tryz.func52 51 (kD c0 (kD c1 k0)) e0 1 (sS (sC M7 l0)) fun d=>by kernel_rfl⟩
def NP:C9:=YR Db CU YC MX
def Nu:NO:=NP.F
end Go.Proofs.YtdcnjfbffckblaaGreat.V
end
section
namespace Go.Proofs.YtdcnjfbffckblaaGreat.Pl
end Go.Proofs.YtdcnjfbffckblaaGreat.Pl
end
section
namespace Go.Proofs.YtdcnjfbffckblaaGreat.V
open Go Go.RowKit
theorem dD{x:Int}{n:Nat}(e:x=(n:Int))(h:n<=1000000000):IntKind.wrap .i64 x=(n:Int):=by rw[e];exact bR (by omega)
theorem Yc{α:Type}{L:List α}{i:Nat}(h:i<L.length):L.drop i=L[i]::L.drop (i+1):=List.drop_eq_getElem_cons h
open Go.Proofs.YtdcnjfbffckblaaGreat.Pl
def lk(lv:List Int)(i:bl):Int:=au lv (i.to.headD 0).toNat
theorem UP(n:aG):(n6 n).map (fun x:bq×bl=>x.1)=dp n:=by
 unfold n6 A6 M6 dp;rw[dN,dC,dC];congr 1
 .exact List.map_fst_zip (by rw[ph,aK];omega)
 .exact List.map_fst_zip (by rw[pc];omega)
theorem JB(n:aG){x:bq×bl}(h:x∈n6 n):x.1.is n x.2:=by
 obtain⟨i,hi⟩:=List.getElem?_of_mem h;have h1:(dp n)[i]?=some x.1:=by rw[<-UP,bT,hi];rfl
 have h2:(eh n)[i]?=some x.2:=by rw[<-nh,bT,hi];rfl
 obtain⟨y,e,hy⟩:=Bh n h1;rw[h2]at e;injection e with e;rw[e];exact hy
def lvl(n:aG)(V:Nat):List Int:=eV (bb n) ((n6 n).length+1) (fF (bb n) V)
def dF(n:aG)(V:Nat):List (bq×bl):=(List.range (n6 n).length).flatMap fun(i:Nat)=>(n6 n).filter fun x=>decide (lk (lvl n V) x.2=(i:Int)+1)
def kp(lv:List Int)(N:List (bq×bl))(a:Int)(k:Nat):List (bq×bl):=(N.take k).filter fun x=>decide (lk lv x.2=a)
theorem TE(lv:List Int)(N:List (bq×bl))(a:Int)(k:Nat):(kp lv N a k).length<=k:=by unfold kp;have h1:=List.length_filter_le (fun x:bq×bl=>decide (lk lv x.2=a)) (N.take k);have h2:=List.length_take_le k N;omega
theorem U1(P:List aQ.T)(z:aQ.T)(h:P.length<=10000000):room 72 (List.length (P++(z::[])))=true:=by rw[bA,cx,List.length_nil];exact mX (by omega) (by omega)
theorem Vy{n:aG}{V:Nat}(hs:cL n V)(lv:List Int)(hlv:lv.length=V+1)(a:Int)(pre:List aQ.T)(hp:pre.length<=9000000) :
  Cu (lv,((n6 n).map aY,(a,((0:Int),(pre,())))))=some (lv,((n6 n).map aY,(a,(pre++(kp lv (n6 n) a (n6 n).length).map aY,())))):=by
 have h6:=oJ hs;have hlen:=h6.len;unfold Cu;delta u5;refine dg (fun k:Nat=>(lv,((n6 n).map aY,(a,((k:Int),(pre++(kp lv (n6 n) a k).map aY,())))))) (n6 n).length ?_ ?_ ?_ (bM (by omega))
 .have:kp lv (n6 n) a 0=[]:=rfl;rw[this,List.map_nil,fR];rfl
 .intro k hk;have hx:=bu hk;have hm:=List.getElem_mem hk;generalize (n6 n)[k]=x at hx hm;have hx':((n6 n).map aY)[k]?=some (aY x):=by rw[bT,hx];rfl
  have hi:=dR hx';have dT:x.2.to≠[]:=hs.Er (by rw[<-nh];exact List.mem_map_of_mem hm);obtain⟨v,t,ev⟩:∃v t,x.2.to=v::t:=by match e:x.2.to with|[]=>exact absurd e dT|v::t=>exact⟨v,t,rfl⟩
  obtain⟨v0,v1⟩:=(h6.to x hm).2 v (by rw[ev];simp);obtain⟨u,hu⟩:=Int.eq_ofNat_of_zero_le v0;subst hu;have g0:gt (.int .i64) (gt aQ ((n6 n).map aY) (k:Int)).2.2.2.2.1 (0:Int)=(u:Int):=by rw[bn hx'];exact bn (σ:=.int .i64) (i:=0) (by show x.2.to[0]?=_;rw[ev];rfl)
  have gl:lk lv x.2=au lv u:=by unfold lk;rw[ev];rfl
  have g1:gt (.int .i64) lv (gt (.int .i64) (gt aQ ((n6 n).map aY) (k:Int)).2.2.2.2.1 (0:Int))=lk lv x.2:=by rw[g0,gl];exact bn (σ:=.int .i64) (uw (by omega))
  have i0:ah (k:Int) (List.length ((n6 n).map aY))=true:=aP ⟨by omega,by omega⟩;have i1:ah (0:Int) (List.length (gt aQ ((n6 n).map aY) (k:Int)).2.2.2.2.1)=true:=by rw[bn hx'];exact aP ⟨by omega,by show _<((x.2.to.length:Nat):Int);rw[ev];simp⟩
  have i2:ah (gt (.int .i64) (gt aQ ((n6 n).map aY) (k:Int)).2.2.2.2.1 (0:Int)) (List.length lv)=true:=by rw[g0];exact aP ⟨by omega,by omega⟩
  have gx:((gt aQ ((n6 n).map aY) (k:Int)).1,((gt aQ ((n6 n).map aY) (k:Int)).2.1,((gt aQ ((n6 n).map aY) (k:Int)).2.2.1,((gt aQ ((n6 n).map aY) (k:Int)).2.2.2.1,((gt aQ ((n6 n).map aY) (k:Int)).2.2.2.2.1,())))))=aY x:=by rw[bn hx'];rfl
  have la:=TE lv (n6 n) a k;have e:∀(u u':Int) (A B:List aQ.T),u=u'->A=B->(some (.inl (lv,((n6 n).map aY,(a,(u,(A,())))))) :Option (TL vb.σs⊕Out uU))=some (.inl (lv,((n6 n).map aY,(a,(u',(B,())))))):=by rintro _ _ _ _ rfl rfl;rfl
  try dsimp only
  unfold vx;refine ao (ax (show(k:Int)<Int.ofNat (List.length ((n6 n).map aY)) by rw[aK];simp;omega)) (ai i0 (ai i1 (ai i2 ?_)));have st:kp lv (n6 n) a (k+1)=kp lv (n6 n) a k++(if lk lv x.2=a then[x]else[]):=by
   unfold kp;rw[cN hx,List.filter_append];congr 1;by_cases q:lk lv x.2=a
   .rw[if_pos q];simp[q]
   .rw[if_neg q];simp[q]
  by_cases q:lk lv x.2=a
  .rw[if_pos q]at st;refine ao (ax (g1.trans q)) (ai i0 (ai (U1 _ _ (by rw[bA,aK];omega)) ?_));refine e _ _ _ _ (dD (by omega) (by omega)) ((congrArg (fun(z:aQ.T)=>(pre++(kp lv (n6 n) a k).map aY)++[z]) gx).trans ?_);rw[st,dN];exact List.append_assoc (α:=aQ.T) _ _ _
  .rw[if_neg q]at st;refine ag (aj (fun h=>q (g1.symm.trans h))) (e _ _ _ _ (dD (by omega) (by omega)) ?_);rw[st,fR]
 .try dsimp only
  unfold vx;exact ag (aj (show ¬((n6 n).length:Int)<Int.ofNat (List.length ((n6 n).map aY)) by rw[aK];simp)) rfl
theorem Zd{n:aG}{V:Nat}(hs:cL n V)(ft:Fit n)(h0:ed n=0) :
  Nu (cP n,())=some (if eP (bb n) V then((dF n V).map aY,(true,()))else([],(false,()))):=by
 have eL:=Ma hs ft h0;have eN:=OR hs ft;have h6:=oJ hs;have hlen:=h6.len;by_cases ha:eP (bb n) V=true
 .rw[if_pos ha]at eL |-;have hlv:(lvl n V).length=V+1:=by
   have:∀(N:List Nd) (r:Nat) (out:List Int),(eV N r out).length=out.length:=by
    intro N r
    induction r with
    |zero=>intro out;rfl|succ r ih=>
     intro out;have hr:∀(N:List Nd) (out:List Int),(fv N out).length=out.length:=by
      intro N;unfold fv
      induction N with|nil=>intro out;rfl|cons x N ihN=>intro out;rw[List.foldl_cons,ihN,GC]
     first|rw[eV,ih,hr]|rw[eV,hr,ih]
   unfold lvl;rw[this];unfold fF;rw[ig];simp
  let pt:Nat->List (bq×bl):=fun k=>(List.range k).flatMap fun(i:Nat)=>(n6 n).filter fun x=>decide (lk (lvl n V) x.2=(i:Int)+1)
  have pts:∀k,pt (k+1)=pt k++(n6 n).filter fun x=>decide (lk (lvl n V) x.2=(k:Int)+1):=fun k=>by show(List.range (k+1)).flatMap _=_;rw[List.range_succ,List.flatMap_append,List.flatMap_singleton]
  have ptl:∀k,(pt k).length<=k*3000:=by
   intro k
   induction k with|zero=>exact Nat.le_refl _|succ k ih=>rw[pts,bA];have:=List.length_filter_le (fun x:bq×bl=>decide (lk (lvl n V) x.2=(k:Int)+1)) (n6 n);omega
  have e7:Nt (lvl n V,((n6 n).map aY,((1:Int),([],()))))=some ((dF n V).map aY,()):=by
   unfold Nt;delta u4;refine dg (fun k:Nat=>(lvl n V,((n6 n).map aY,(((k+1:Nat):Int),((pt k).map aY,()))))) (n6 n).length rfl ?_ ?_ (bM (by omega))
   .intro k hk;have hp:=ptl k;have e10:=Vy hs (lvl n V) hlv ((k+1:Nat):Int) ((pt k).map aY) (by rw[aK];have:k*3000<=3000*3000:=Nat.mul_le_mul_right _ (by omega);omega);have e:∀(u u':Int) (A B:List aQ.T),u=u'->A=B->(some (.inl (lvl n V,((n6 n).map aY,(u,(A,()))))) :Option (TL vl.σs⊕Out va))=some (.inl (lvl n V,((n6 n).map aY,(u',(B,()))))):=by rintro _ _ _ _ rfl rfl;rfl
    try dsimp only
    unfold vG;refine ao (ax (show((k+1:Nat):Int)<=Int.ofNat (List.length ((n6 n).map aY)) by rw[aK];simp;omega)) (aE e10 ?_);refine e _ _ _ _ (dD (n:=k+1+1) (show((k+1:Nat):Int)+1=_ by omega) (by omega)) ?_;rw[pts,dN];congr 2;unfold kp;rw[dC];rfl
   .try dsimp only
    unfold vG;exact ag (aj (show ¬(((n6 n).length+1:Nat):Int)<=Int.ofNat (List.length ((n6 n).map aY)) by rw[aK];simp;omega)) rfl
  exact aE eL (ag rfl (aE eN (aE e7 rfl)))
 .rw[if_neg ha]at eL |-;exact aE eL (ao rfl rfl)
