import Derived.Test.YtdcnjfbffckblaaGreatKTe
import Derived.Test.YtdcnjfbffckblaaGreatKEv
set_option linter.unusedSectionVars false
set_option linter.unusedVariables false
set_option linter.unusedSimpArgs false
set_option linter.unnecessarySimpa false
section
namespace Go.Proofs.YtdcnjfbffckblaaGreat.V
open Go Go.RowKit Go.Proofs.YtdcnjfbffckblaaGreat.Pl
theorem getD_set_ne{v:List Bool}{i p:Nat}{b:Bool}(h:p≠i):(v.set i b).getD p false=v.getD p false:=by rw[dP,dP,List.getElem?_set_ne (fun e=>h e.symm)]
theorem zN:∀(l:List (Int×Bool)) (v:List Bool) (p:Nat),(∀q∈l,q.1.toNat≠p)->(eB v l).getD p false=v.getD p false
 |[],v,p,_=>rfl|q::l,v,p,h=>by show(eB (v.set q.1.toNat q.2) l).getD p false=_;rw[zN l _ p (fun r hr=>h r (List.mem_cons_of_mem _ hr)),getD_set_ne (fun e=>h q (List.mem_cons_self ..) e.symm)]
theorem SH{n:aG}{cs:List (List aV)}{x:bq×bl}(v:List Bool){p:Nat}(hne:x.2.to≠[])(hp:p∉x.2.nd.to):(fy n cs v x).getD p false=v.getD p false:=by
 have hq:∀q∈x.2.to,q.toNat≠p:=fun q hq e=>hp (List.mem_map.2 ⟨q,hq,e⟩);unfold fy;split
 .refine getD_set_ne (fun e=>hq (x.2.to.headD 0) ?_ e.symm)
  match he:x.2.to with|[]=>exact absurd he hne|a::l=>simp
 .refine zN _ _ _ (fun q h=>hq q.1 ?_);exact(List.of_mem_zip (show(q.1,q.2)∈_ from h)).1
theorem IV{n:aG}{cs:List (List aV)}{p:Nat}:∀(l:List (bq×bl)) (v:List Bool),(∀x∈l,x.2.to≠[]/\p∉x.2.nd.to)->(l.foldl (fy n cs) v).getD p false=v.getD p false
 |[],v,_=>rfl|x::l,v,h=>by rw[List.foldl_cons,IV l _ (fun y hy=>h y (List.mem_cons_of_mem _ hy)),SH v (h x (List.mem_cons_self ..)).1 (h x (List.mem_cons_self ..)).2]
section
variable{n:aG}{V:Nat}(hs:cL n V)(ha:eP (bb n) V=true)
include hs
theorem VE{x:bq×bl}(hx:x∈n6 n):x.2.to≠[]:=hs.Er (by rw[<-nh];exact List.mem_map_of_mem hx)
include ha
theorem Tu(ls:List Bool)(cs:List (List aV))(ins:List Bool){p:Nat}(h:∀x∈n6 n,p∉x.2.nd.to):(iG n ls cs ins).getD p false=(k9 n ls ins).getD p false:=by
 have hV:n.vars.toNat=V:=by rw[hs.vars];rfl
 unfold iG;exact IV _ _ (fun x hx=>⟨VE hs (DW hx),h x (DW hx)⟩)
end
theorem I2:∀(l:List (Int×Bool)) (v:List Bool) (q:Int×Bool),(l.map fun p=>p.1.toNat).Nodup->q∈l->q.1.toNat<v.length->(eB v l).getD q.1.toNat false=q.2
 |[],v,q,_,h,_=>nomatch h
 |p::l,v,q,hn,h,hv=>by
  have hn:=List.nodup_cons.1 hn;show(eB (v.set p.1.toNat p.2) l).getD q.1.toNat false=_;rcases List.mem_cons.1 h with rfl|h
  .rw[zN l _ _ (fun r hr e=>hn.1 (List.mem_map.2 ⟨r,hr,e⟩)),dP,List.getElem?_set_self hv];rfl
  .exact I2 l _ q hn.2 h (by rw[List.length_set];exact hv)
section
variable{n:aG}{V:Nat}(hs:cL n V)
include hs
theorem TZ{q:Int}(hq:q∈n.af.map (·.var)):∀x∈n6 n,q.toNat∉x.2.nd.to:=by
 intro x hx hm;have hnd:=hs.nodup;have hdef:bV n=(n.aU++n.af.map (·.var))++(n.aa.flatMap jJ++n.aw.map (·.var)):=by unfold bV;simp
 rw[hdef,List.nodup_append]at hnd;have rq:=hs.jN q (by rw[hdef];exact List.mem_append_left _ (List.mem_append_right _ hq));obtain⟨r,hr,hrq⟩:=List.mem_map.1 (show q.toNat∈x.2.to.map Int.toNat from hm);have hr2:r∈n.aa.flatMap jJ++n.aw.map (·.var):=by
  rcases JB n hx with⟨_,a,h1,h2⟩|⟨_,m,rr,h1,h2,h3⟩
  .rw[h2]at hr;have hr:r∈[a.var]:=hr;rw[List.mem_singleton.1 hr];exact List.mem_append_right _ (List.mem_map_of_mem (cK h1))
  .rw[h3]at hr;refine List.mem_append_left _ (List.mem_flatMap.2 ⟨m,cK h1,?_⟩);exact List.mem_flatMap.2 ⟨rr,cK h2,hr⟩
 have rr2:=hs.jN r (by rw[hdef];exact List.mem_append_right _ hr2);exact hnd.2.2 q (List.mem_append_right _ hq) r hr2 (by omega)
theorem UC:(n.af.map fun l=>l.var.toNat).Nodup:=by
 have hnd:=hs.nodup;have hdef:bV n=n.aU++(n.af.map (·.var)++(n.aa.flatMap jJ++n.aw.map (·.var))):=by unfold bV;simp
 rw[hdef,List.nodup_append]at hnd;have h2:=hnd.2.1;rw[List.nodup_append]at h2;have h3:=h2.1;rw[List.nodup_iff_pairwise_ne,List.pairwise_map]at h3 |-;refine List.Pairwise.imp_of_mem (fun{a b} ha hb hab=>?_) h3;have ra:=hs.jN a.var (by rw[hdef];exact List.mem_append_right _ (List.mem_append_left _ (List.mem_map_of_mem ha)));have rb:=hs.jN b.var (by rw[hdef];exact List.mem_append_right _ (List.mem_append_left _ (List.mem_map_of_mem hb)));omega
variable(ha:eP (bb n) V=true)
include ha
theorem I3{ls:List Bool}(hl:ls.length=n.af.length)(cs:List (List aV))(ins:List Bool){p:Nat}(hp:p<n.af.length):(iG n ls cs ins).getD (n.af[p].var).toNat false=ls[p]'(by omega):=by
 have hV:n.vars.toNat=V:=by rw[hs.vars];rfl
 have hx:=bu hp;have hmem:n.af[p].var∈n.af.map (·.var):=List.mem_map_of_mem (List.getElem_mem hp);rw[Tu hs ha ls cs ins (TZ hs hmem)];unfold k9;have hy:=bu (show p<ls.length by omega);have hz:((n.af.map (·.var)).zip ls)[p]?=some (n.af[p].var,ls[p]'(by omega)):=by rw[List.getElem?_zip_eq_some];exact⟨by rw[bT,hx];rfl,hy⟩
 have hr:=hs.jN n.af[p].var (by unfold bV;simp only[List.mem_append];exact .inl (.inl (.inr (List.mem_map_of_mem (List.getElem_mem hp)))));refine I2 _ _ (n.af[p].var,ls[p]'(by omega)) ?_ (cK hz) (by rw[kP,List.length_replicate,hV];show n.af[p].var.toNat<_;omega);have e1:(((n.af.map (·.var)).zip ls).map fun p=>p.1.toNat)=n.af.map fun l=>l.var.toNat:=by rw[show(fun p:Int×Bool=>p.1.toNat)=Int.toNat∘Prod.fst from rfl,<-List.map_map,List.map_fst_zip (by rw[aK];omega),List.map_map];rfl
 rw[e1];exact UC hs
end
abbrev jz:=List Bool×List (List aV)
def cJ(n:aG)(I:List (List Bool))(s:jz):Nat->jz
 |0=>s|k+1=>(jo n (iG n (cJ n I s k).1 (cJ n I s k).2 (I.getD k [])),gq n (cJ n I s k).2 (iG n (cJ n I s k).1 (cJ n I s k).2 (I.getD k [])))
def eH(n:aG)(I:List (List Bool))(s:jz)(k:Nat):List Bool:=iG n (cJ n I s k).1 (cJ n I s k).2 (I.getD k [])
def gd(n:aG)(v:List Bool):Bool:=n.aa.any fun m=>m.writes.any fun w=>bo w.on v
def kG(n:aG)(v w:List Bool):Bool:=n.af.any fun l=>v.getD l.var.toNat false != w.getD l.var.toNat false
section
variable{n:aG}{V:Nat}(hs:cL n V)(ha:eP (bb n) V=true){I:List (List Bool)}{s:jz}
include hs
theorem oA{K:Nat}(ok:iB n K s.1 s.2):∀k,iB n (K+4*k) (cJ n I s k).1 (cJ n I s k).2
 |0=>ok|k+1=>by have:=ZN hs (oA ok k) (eH n I s k);rw[show K+4*(k+1)=K+4*k+4 by omega];exact this
omit hs in
theorem SG{n:aG}{cs:List (List aV)}{v:List Bool}(hcl:cs.length=n.aa.length)(h:gd n v=false):gq n cs v=cs:=by
 refine List.ext_getElem? fun i=>?_;unfold gq;rw[List.getElem?_zipWith];by_cases hi:i<n.aa.length
 .have hx:=bu hi;have hy:=bu (show i<cs.length by omega);rw[hx,hy];refine congrArg some ?_;have hw:∀w∈n.aa[i].writes,bo w.on v=false:=by intro w hw;cases e:bo w.on v with|false=>rfl|true=>have:gd n v=true:=List.any_eq_true.2 ⟨_,List.getElem_mem hi,List.any_eq_true.2 ⟨w,hw,e⟩⟩;rw[h]at this;cases this
  unfold oK;have gen:∀(ws:List il) (c:List aV),(∀w∈ws,bo w.on v=false)->ws.foldl (im v) c=c:=by
   intro ws
   induction ws with
   |nil=>exact fun c _=>rfl|cons w ws ih=>
    intro c hw;have e:im v c w=c:=by unfold im;rw[hw w (List.mem_cons_self ..)];rfl
    rw[List.foldl_cons,e];exact ih c fun x hx=>hw x (List.mem_cons_of_mem _ hx)
  exact gen _ _ hw
 .rw[List.getElem?_eq_none (by omega),List.getElem?_eq_none (by omega)]
theorem IW{K:Nat}(ok:iB n K s.1 s.2)(i:Nat):∀d,(∀t,i<=t->t<i+d->gd n (eH n I s t)=false)->(cJ n I s (i+d)).2=(cJ n I s i).2
 |0,_=>rfl|d+1,h=>by have e:=IW ok i d (fun t h1 h2=>h t h1 (by omega));rw[<-e];exact SG (oA hs ok (i+d)).oo (h (i+d) (by omega) (by omega))
include ha
theorem SI{K:Nat}(ok:iB n K s.1 s.2){i j:Nat}(hij:i<=j)(h1:kG n (eH n I s i) (eH n I s j)=false)(h2:∀t,i<=t->t<j->gd n (eH n I s t)=false):cJ n I s i=cJ n I s j:=by
 obtain⟨d,rfl⟩:∃d,j=i+d:=⟨j-i,by omega⟩;have e2:=IW hs ok i d h2;refine Prod.ext ?_ e2.symm;have l1:=(oA hs ok (I:=I) i).za;have l2:=(oA hs ok (I:=I) (i+d)).za;refine List.ext_getElem? fun p=>?_;by_cases hp:p<n.af.length
 .have a1:=I3 hs ha l1 (cJ n I s i).2 (I.getD i []) hp;have a2:=I3 hs ha l2 (cJ n I s (i+d)).2 (I.getD (i+d) []) hp;have hq:¬((eH n I s i).getD (n.af[p].var).toNat false != (eH n I s (i+d)).getD (n.af[p].var).toNat false)=true:=by intro q;have:kG n (eH n I s i) (eH n I s (i+d))=true:=List.any_eq_true.2 ⟨_,List.getElem_mem hp,q⟩;rw[h1]at this;cases this
  have hq:(eH n I s i).getD (n.af[p].var).toNat false=(eH n I s (i+d)).getD (n.af[p].var).toNat false:=by
   revert hq
   cases(eH n I s i).getD (n.af[p].var).toNat false<;>cases(eH n I s (i+d)).getD (n.af[p].var).toNat false<;>simp
  rw[bu (by omega),bu (by omega)];refine congrArg some ?_;rw[<-a1,<-a2];exact hq
 .rw[List.getElem?_eq_none (by omega),List.getElem?_eq_none (by omega)]
end
theorem IU:∀l:List Bool,(cH l == 0) = !l.any id
 |[]=>rfl|b::l=>by have ih:=IU l;show((if b then 1 else 0)+2*cH l == 0) = !(b||l.any id);cases b with|true=>exact beq_eq_false_iff_ne.2 (by simp)|false=>rw[Bool.false_or,<-ih];cases h:cH l == 0 with|true=>have:=eq_of_beq h;rw[this];rfl|false=>have:=ne_of_beq_false h;exact beq_eq_false_iff_ne.2 (by simp;omega)
def dj(n:aG):List Int:=n.aa.flatMap fun m=>m.writes.map (·.on)
theorem UX(n:aG)(v:List Bool):gd n v=(dj n).any (bo · v):=by unfold gd dj;rw[List.any_flatMap];congr 1;funext m;rw[List.any_map];rfl
theorem IZ(n:aG)(v:List Bool):(cH ((dj n).map (bo · v)) == 0) = !gd n v:=by rw[IU,UX,List.any_map];rfl
theorem Ud{n:aG}(hl:∀m∈n.aa,m.writes.length<=6)(hm:n.aa.length<=6):(dj n).length<=64:=by
 have gen:∀l:List cr,(∀m∈l,m.writes.length<=6)->(l.flatMap fun m=>m.writes.map (·.on)).length<=6*l.length:=by
  intro l
  induction l with|nil=>exact fun _=>Nat.le_refl _|cons m l ih=>intro h;have h1:=h m (List.mem_cons_self ..);have h2:=ih fun x hx=>h x (List.mem_cons_of_mem _ hx);rw[List.flatMap_cons,bA,aK,cx];omega
 have:=gen n.aa hl;unfold dj;omega
theorem gy{i n:Nat}(h:i<n):ah (i:Int) n=true:=aP ⟨Int.natCast_nonneg i,Int.ofNat_lt.2 h⟩
set_option maxRecDepth 1000000
section
variable{n:aG}{V:Nat}(hs:cL n V)(ft:Fit n)
include hs ft
theorem zO(s:StD)(x:List Bool):(iG n s.1 s.2 x).length=V+1:=by rw[SF,hs.vars];rfl
end
abbrev iq:List (Nat×LO):=[(0,.cells gR 27)]
abbrev ow:List (Nat×LO):=[(0,.cells [.fz (.int .i64)] 22)]
abbrev pZ:Lay:={ T:=[(8,.bool)],h:=[],nx:=0 }
abbrev Is:Lay:={ T:=[(1,.fz (.sl .bool)),(3,.int .i64),(4,.ptr 0 0),(11,.int .i64),(12,.int .i64)],h:=iq,nx:=1 }
abbrev It:Lay:={ T:=[(2,.hd 0 (.int .i64)),(8,.fz an),(9,.int .i64),(10,.int .i64)],h:=[(0,.arr (.int .i64) 3)],nx:=1 }
abbrev Iu:Lay:={ T:=[(1,.fz (.sl .bool)),(3,.int .i64),(4,.ptr 0 0),(11,.int .i64)],h:=iq,nx:=1 }
abbrev Iv:Lay:={ T:=[(0,.fz (.sl .bool)),(1,.func 57 [] [.ptr 0 0])],h:=iq,nx:=1 }
abbrev Iw:Lay:={ T:=[(0,.fz (.sl .bool)),(1,.func 61 [] [.ptr 0 0])],h:=ow,nx:=1 }
abbrev tN:Lay:=It
abbrev tL:List (Ev.Ex×Lay):=[((.exit 0),{ T:=[(2,.hd 0 (.int .i64))],h:=[(0,.arr (.int .i64) 3)],nx:=1 })]
abbrev IB:=TL tN.σs->Option (Out tL)
abbrev zF:=Ld 0 29 (bL [0] (bw Tryz.f60)) tN tL
abbrev tO:Lay:={ T:=[(2,.hd 0 (.int .i64)),(8,.fz an),(9,.int .i64),(10,.int .i64),(15,.fz bU),(16,.int .i64),(17,.int .i64)],h:=[(0,.arr (.int .i64) 3)],nx:=1 }
abbrev tM:List (Ev.Ex×Lay):=[((.exit 2),It)]
abbrev zH:=TL tO.σs->Option (Out tM)
abbrev zG:=Ld 0 29 (bL [0,0] (bw Tryz.f60)) tO tM
def Iy(t8:List (Sh.T an))(t9 t10:Int)(t15:List (Sh.T bU))(t16 t17:Int)(b0:List Int):Option (TL tO.σs⊕Out tM):=
 br (iL t17 t16)
 (
  ak (ah t17 (List.length t15))<|
  ak (room 8 (List.length (ap b0 ((gt bU t15 t17).1::[]))))<|
  some (.inl (t8,(t9,(t10,(t15,(t16,((IntKind.wrap .i64 (t17+(1:Int))),((ap b0 ((gt bU t15 t17).1::[])),())))))))))
 (
  some (.inr (t8,(t9,(t10,(b0,()))))))
def IA  :zG:=bO (u7 Iy) (pL k0 e0 1 l0 fun d=>by kernel_rfl)
def tR:zH:=bj (u7 Iy) NN
def Ix(L5:zH)(t8:List (Sh.T an))(t9 t10:Int)(b0:List Int):Option (TL tN.σs⊕Out tL):=
 br (iL t10 t9)
 (
  ak (ah t10 (List.length t8))<|
  az (L5 (t8,(t9,(t10,((gt an t8 t10).2.2.2.2.1,((Int.ofNat (List.length (gt an t8 t10).2.2.2.2.1)),((0:Int),(b0,())))))))) fun x0=>
  some (.inl (x0.1,(x0.2.1,((IntKind.wrap .i64 (@HAdd.hAdd (Int) (Int) (Int) _ x0.2.2.1 (1:Int))),(gJ x0,()))))))
 (
  some (.inr (b0,())))
def Sr(M5:zG):zF:=bO (u4 (Ix M5.L)) (pL k0 e0 1 (sC M5 l0) fun d=>by kernel_rfl)
def Ss:zF:=Sr  IA
def Iz:IB:=bj (u4 (Ix tR)) NN
abbrev IC:List Sh:=[bE]
abbrev zI:List Sh:=[(.sl (.int .i64))]
abbrev IE:=TL IC->Option (TL zI)
abbrev zJ:=Kd 60 IC zI
def Sv(L2:IB)(L5:zH)(a0:Sh.T bE):Option (TL zI):=
 az (L2 (kq a0,((Int.ofNat (List.length (kq a0))),((0:Int),([],()))))) fun x0=>
 some (x0.1,())
def Sw(M2:zF)(M5:zG):zJ:=⟨u1 (Sv M2.L M5.L),pD Tryz.func60 29 k0 e0 1 (sS (sC M2 l0)) fun d=>by kernel_rfl⟩
def ID:zJ:=Sw  Ss IA
def Sq:IE:=ID.F
abbrev HK:Lay:=Iv
abbrev zo:List (Ev.Ex×Lay):=[(.ret,{ T:=[(0,.int .i64)],h:=iq,nx:=1 })]
abbrev zu:=TL HK.σs->Option (Out zo)
abbrev tq:=Kb 131 2 HK 1 zo
abbrev tp:Lay:={ T:=[(0,.fz (.sl .bool)),(1,.func 57 [] [.ptr 0 0]),(7,.int .i64),(8,.int .i64)],h:=iq,nx:=1 }
abbrev tm:List (Ev.Ex×Lay):=[(.ret,{ T:=[(4,.int .i64)],h:=iq,nx:=1 }),((.exit 0),{ T:=[],h:=iq,nx:=1 })]
abbrev H4:=TL tp.σs->Option (Out tm)
abbrev H2:=Ld 1 19 (bL [0] (bw Tryz.f131)) tp tm
def zq(t0:List (List Bool))(t7 t8 aB:Int)(aI:List Int)(aJ:List (Sh.T al))(aL aR aZ:List Int)(aq:List (Sh.T an))(aO:List (Sh.T al)):Option (TL tp.σs⊕Out tm):=
 br (iL t8 t7)
 (
  ak (ah t8 (List.length t0))<|
  br (Bool.not (iQ (Int.ofNat (List.length (gt (.sl .bool) t0 t8))) (IntKind.wrap .i64 (aB+(1:Int)))))
  (
   some (.inr (.inl (t8,(aB,(aI,(aJ,(aL,(aR,(aZ,(aq,(aO,()))))))))))))
  (
   some (.inl (t0,(t7,((IntKind.wrap .i64 (t8+(1:Int))),(aB,(aI,(aJ,(aL,(aR,(aZ,(aq,(aO,()))))))))))))))
 (
  some (.inr (.inr (aB,(aI,(aJ,(aL,(aR,(aZ,(aq,(aO,())))))))))))
def R0  :H2:=bO (jh zq) (pL k0 (eC Tryz.func57 (by kernel_rfl) e0) 5 l0 fun d=>by kernel_rfl)
def H3:H4:=bj (jh zq) NN
def R5(L2:H4)(t0:List (List Bool))(aB:Int)(aI:List Int)(aJ:List (Sh.T al))(aL aR aZ:List Int)(aq:List (Sh.T an))(aO:List (Sh.T al)):Option (Out zo):=
 az (L2 (t0,((Int.ofNat (List.length t0)),((0:Int),(aB,(aI,(aJ,(aL,(aR,(aZ,(aq,(aO,())))))))))))) fun x0=>
 (match x0 with|.inl x1=>some x1|.inr x1=>some ((Int.negSucc 0),x1)
 )
def R7(M2:H2):tq:=⟨u9 (R5 M2.L),pB Tryz.func131 19 k0 (eC Tryz.func57 (by kernel_rfl) e0) 5 (sS (sC M2 l0)) fun d=>by kernel_rfl⟩
def zt:tq:=R7  R0
def RX:zu:=zt.F
abbrev Hw:Lay:=Iv
abbrev zk:List (Ev.Ex×Lay):=[(.ret,{ T:=[(0,.bool)],h:=iq,nx:=1 })]
abbrev HA:=TL Hw.σs->Option (Out zk)
abbrev zm:=Kb 59 2 Hw 1 zk
def RS(F0:zu)(t0:List (List Bool))(aB:Int)(aI:List Int)(aJ:List (Sh.T al))(aL aR aZ:List Int)(aq:List (Sh.T an))(aO:List (Sh.T al)):Option (Out zk):=
 az (F0 (t0,(aB,(aI,(aJ,(aL,(aR,(aZ,(aq,(aO,())))))))))) fun x0=>
 some ((iE (0:Int) x0.1),x0.2)
def RT(c0:tq) :zm:=⟨u9 (RS c0.F),pB Tryz.func59 9 (kB c0 k0) (eC Tryz.func57 (by kernel_rfl) e0) 5 (sS l0) fun d=>by kernel_rfl⟩
def Hz:zm:=RT zt
def RO:HA:=Hz.F
abbrev HH:Lay:=Iw
abbrev zn:List (Ev.Ex×Lay):=[(.ret,{ T:=[(0,.int .i64)],h:=ow,nx:=1 })]
abbrev H6:=TL HH.σs->Option (Out zn)
abbrev zs:=Kb 131 2 HH 1 zn
abbrev tn:Lay:={ T:=[(0,.fz (.sl .bool)),(1,.func 61 [] [.ptr 0 0]),(7,.int .i64),(8,.int .i64)],h:=ow,nx:=1 }
abbrev ou:List (Ev.Ex×Lay):=[(.ret,{ T:=[(4,.int .i64)],h:=ow,nx:=1 }),((.exit 0),{ T:=[],h:=ow,nx:=1 })]
abbrev H0:=TL tn.σs->Option (Out ou)
abbrev zp:=Ld 1 19 (bL [0] (bw Tryz.f131)) tn ou
def HQ(F0:ru)(t0:List (List Bool))(t7 t8:Int)(aB:List Int):Option (TL tn.σs⊕Out ou):=
 br (iL t8 t7)
 (
  ak (ah t8 (List.length t0))<|
  az (F0 (aB,((gt (.sl .bool) t0 t8),()))) fun x0=>
  br (Bool.not (iQ x0.1 (0:Int)))
  (
   some (.inr (.inl (t8,(aB,())))))
  (
   some (.inl (t0,(t7,((IntKind.wrap .i64 (t8+(1:Int))),(aB,())))))))
 (
  some (.inr (.inr (aB,()))))
def RU(c0:oN) :zp:=bO (u4 (HQ c0.F)) (pL (kD c0 k0) (eC Tryz.func61 (by kernel_rfl) e0) 5 l0 fun d=>by kernel_rfl)
def RW:zp:=RU ry
def HU:H0:=bj (u4 (HQ vX)) NN
def R3(F0:ru)(L2:H0)(t0:List (List Bool))(aB:List Int):Option (Out zn):=
 az (L2 (t0,((Int.ofNat (List.length t0)),((0:Int),(aB,()))))) fun x0=>
 (match x0 with|.inl x1=>some x1|.inr x1=>some ((Int.negSucc 0),(x1.1,()))
 )
def R4(c0:oN)(M2:zp):zs:=⟨u2 (R3 c0.F M2.L),pB Tryz.func131 19 (kD c0 k0) (eC Tryz.func61 (by kernel_rfl) e0) 5 (sS (sC M2 l0)) fun d=>by kernel_rfl⟩
def H5:zs:=R4 ry RW
def HT:H6:=H5.F
abbrev Hv:Lay:=Iw
abbrev zj:List (Ev.Ex×Lay):=[(.ret,{ T:=[(0,.bool)],h:=ow,nx:=1 })]
abbrev Hy:=TL Hv.σs->Option (Out zj)
abbrev zl:=Kb 59 2 Hv 1 zj
def RP(F0:ru)(F1:H6)(F2:zu)(t0:List (List Bool))(aB:List Int):Option (Out zj):=
 az (F1 (t0,(aB,()))) fun x0=>
 some ((iE (0:Int) x0.1),(x0.2.1,()))
def RQ(c0:oN)(c1:zs)(c2:tq) :zl:=⟨u2 (RP c0.F c1.F c2.F),pB Tryz.func59 9 (kD c0 (kB c1 (kB c2 k0))) (eC Tryz.func61 (by kernel_rfl) e0) 5 (sS l0) fun d=>by kernel_rfl⟩
def Hx:zl:=RQ ry H5 zt
def RM:Hy:=Hx.F
abbrev tQ:Lay:={ T:=[(1,.fz .bool),(2,.fz .bool),(3,.fz (.sl .bool)),(4,.ptr 0 0),(33,.fz al),(34,.int .i64),(35,.int .i64)],h:=iq,nx:=1 }
abbrev tP:List (Ev.Ex×Lay):=[(.ret,pZ),((.exit 0),{ T:=[(3,.fz (.sl .bool)),(4,.ptr 0 0)],h:=iq,nx:=1 })]
abbrev IH:=TL tQ.σs->Option (Out tP)
abbrev IF:=Ld 0 57 (bL [0] (bw Tryz.f15)) tQ tP
def p9(t1 t2:List Bool)(t3:List (List Bool))(t33:List (Sh.T al))(t34 t35 aB:Int)(aI:List Int)(aJ:List (Sh.T al))(aL aR aZ:List Int)(aq:List (Sh.T an))(aO:List (Sh.T al)):Option (TL tQ.σs⊕Out tP):=
 br (iL t35 t34)
 (
  ak (ah t35 (List.length t33))<|
  ak (ah (gt al t33 t35).1 (List.length t1))<|
  ak (ah (gt al t33 t35).1 (List.length t2))<|
  br (Bool.not (@decide _ (Bool.decEq (gt .bool t1 (gt al t33 t35).1) (gt .bool t2 (gt al t33 t35).1))))
  (
   some (.inr (.inl (false,()))))
  (
   some (.inl (t1,(t2,(t3,(t33,(t34,((IntKind.wrap .i64 (t35+(1:Int))),(aB,(aI,(aJ,(aL,(aR,(aZ,(aq,(aO,())))))))))))))))))
 (
  some (.inr (.inr (t3,(aB,(aI,(aJ,(aL,(aR,(aZ,(aq,(aO,()))))))))))))
def SB  :IF:=bO (ji p9) (pL k0 (eC Tryz.func61 (by kernel_rfl) (eC Tryz.func57 (by kernel_rfl) e0)) 5 l0 fun d=>by kernel_rfl)
def IG:IH:=bj (ji p9) NN
abbrev II:List Sh:=[bE,(.sl .bool),(.sl .bool),(.sl (.sl .bool))]
abbrev zK:List Sh:=[.bool]
abbrev IP:=TL II->Option (TL zK)
abbrev zL:=Kd 15 II zK
def SD(F0:ru)(F1:IE)(F2:MG)(F3:Hy)(F4:HA)(L5:IH)(a0:Sh.T bE)(a1 a2:List Bool)(a3:List (List Bool)):Option (TL zK):=
 az (F2 (a0,())) fun x0=>
 br (Bool.not (iQ x0.1 (0:Int)))
 (
  some (false,()))
 (
  br (bD false true (Bool.not (iQ (Int.ofNat (List.length a1)) (IntKind.wrap .i64 (@HAdd.hAdd (Int) (Int) (Int) _ a0.1 (1:Int))))))
  (
   some (false,()))
  (
   br (bD false true (Bool.not (iQ (Int.ofNat (List.length a2)) (IntKind.wrap .i64 (@HAdd.hAdd (Int) (Int) (Int) _ a0.1 (1:Int))))))
   (
    some (false,()))
   (
    az (F4 (a3,a0)) fun x1=>
    br (bD false true x1.1)
    (
     some (false,()))
    (
     az (L5 (a1,(a2,(a3,(gJ x1,((Int.ofNat (List.length (gJ x1))),((0:Int),x1.2))))))) fun x2=>
     (match x2 with
     |.inl x3=>some (x3.1,())|.inr x3=>
      az (F1 (x3.2,())) fun x4=>
      az (F3 (x3.1,(x4.1,()))) fun x5=>
      some ((Bool.not x5.1),())
     )))))
def SE(c0:oN)(c1:zJ)(c2:CE)(c3:zl)(c4:zm)(M5:IF):zL:=⟨u4 (SD c0.F c1.F c2.F c3.F c4.F M5.L),pD Tryz.func15 57 (kD c0 (kD c1 (kD c2 (kB c3 (kB c4 k0))))) (eC Tryz.func61 (by kernel_rfl) (eC Tryz.func57 (by kernel_rfl) e0)) 5 (sS (sC M5 l0)) fun d=>by kernel_rfl⟩
def IM:zL:=SE ry ID MH Hx Hz SB
def SA:IP:=IM.F
abbrev tG:Lay:=Iu
abbrev tD:List (Ev.Ex×Lay):=[(.ret,pZ),((.exit 2),{ T:=[],h:=[],nx:=0 })]
abbrev Io:=TL tG.σs->Option (Out tD)
abbrev zC:=Ld 0 81 (bL [1] (bw Tryz.f16)) tG tD
abbrev tA:Lay:=Is
abbrev tx:List (Ev.Ex×Lay):=[(.ret,pZ),((.exit 4),Iu)]
abbrev zz:=TL tA.σs->Option (Out tx)
abbrev tH:=Ld 0 81 (bL [1,0] (bw Tryz.f16)) tA tx
abbrev tB:Lay:={ T:=[(1,.fz (.sl .bool)),(3,.int .i64),(4,.ptr 0 0),(11,.int .i64),(12,.int .i64),(13,.int .i64)],h:=iq,nx:=1 }
abbrev tz:List (Ev.Ex×Lay):=[(.ret,pZ),((.exit 6),Is)]
abbrev zA:=TL tB.σs->Option (Out tz)
abbrev tI:=Ld 0 81 (bL [1,0,0] (bw Tryz.f16)) tB tz
abbrev tF:Lay:={ T:=[(1,.fz (.sl .bool)),(2,.int .i64),(3,.int .i64),(4,.ptr 0 0),(9,.int .i64)],h:=iq,nx:=1 }
abbrev tC:List (Ev.Ex×Lay):=[(.ret,pZ),((.exit 0),{ T:=[(1,.fz (.sl .bool)),(2,.int .i64),(3,.int .i64),(4,.ptr 0 0)],h:=iq,nx:=1 })]
abbrev Im:=TL tF.σs->Option (Out tC)
abbrev Ij:=Ld 0 81 (bL [0] (bw Tryz.f16)) tF tC
def pY(t1:List (List Bool))(t2 t3 t9 aB:Int)(aI:List Int)(aJ:List (Sh.T al))(aL aR aZ:List Int)(aq:List (Sh.T an))(aO:List (Sh.T al)):Option (TL tF.σs⊕Out tC):=
 br (iL t9 (Int.ofNat (List.length aJ)))
 (
  ak (ah t9 (List.length aJ))<|
  ak (ah t2 (List.length t1))<|
  ak (ah (gt al aJ t9).1 (List.length (gt (.sl .bool) t1 t2)))<|
  ak (ah t3 (List.length t1))<|
  ak (ah (gt al aJ t9).1 (List.length (gt (.sl .bool) t1 t3)))<|
  br (Bool.not (@decide _ (Bool.decEq (gt .bool (gt (.sl .bool) t1 t2) (gt al aJ t9).1) (gt .bool (gt (.sl .bool) t1 t3) (gt al aJ t9).1))))
  (
   some (.inr (.inl (true,()))))
  (
   some (.inl (t1,(t2,(t3,((IntKind.wrap .i64 (t9+(1:Int))),(aB,(aI,(aJ,(aL,(aR,(aZ,(aq,(aO,())))))))))))))))
 (
  some (.inr (.inr (t1,(t2,(t3,(aB,(aI,(aJ,(aL,(aR,(aZ,(aq,(aO,()))))))))))))))
def Sk  :Ij:=bO (kr pY) (pL k0 e0 1 l0 fun d=>by kernel_rfl)
def Ik:Im:=bj (kr pY) NN
def ov(F0:jT)(t1:List (List Bool))(t3 t11 t12 t13 aB:Int)(aI:List Int)(aJ:List (Sh.T al))(aL aR aZ:List Int)(aq:List (Sh.T an))(aO:List (Sh.T al)):Option (TL tB.σs⊕Out tz):=
 ak (ah t12 (List.length aq))<|
 br (iL t13 (Int.ofNat (List.length (gt an aq t12).2.2.2.2.1)))
 (
  ak (ah t12 (List.length aq))<|
  ak (ah t13 (List.length (gt an aq t12).2.2.2.2.1))<|
  ak (ah t11 (List.length t1))<|
  az (F0 ((gt bU (gt an aq t12).2.2.2.2.1 t13).1,((gt (.sl .bool) t1 t11),()))) fun x0=>
  br x0.1
  (
   some (.inr (.inl (true,()))))
  (
   some (.inl (t1,(t3,(t11,(t12,((IntKind.wrap .i64 (t13+(1:Int))),(aB,(aI,(aJ,(aL,(aR,(aZ,(aq,(aO,()))))))))))))))))
 (
  some (.inr (.inr (t1,(t3,(t11,(t12,(aB,(aI,(aJ,(aL,(aR,(aZ,(aq,(aO,())))))))))))))))
def Sf(c0:js) :tI:=bO (iR (ov c0.F)) (pL (kD c0 k0) e0 1 l0 fun d=>by kernel_rfl)
def Ii:tI:=Sf jU
def tK:zA:=bj (iR (ov gr)) NN
def zy(L14:zA)(t1:List (List Bool))(t3 t11 t12 aB:Int)(aI:List Int)(aJ:List (Sh.T al))(aL aR aZ:List Int)(aq:List (Sh.T an))(aO:List (Sh.T al)):Option (TL tA.σs⊕Out tx):=
 br (iL t12 (Int.ofNat (List.length aq)))
 (
  az (L14 (t1,(t3,(t11,(t12,((0:Int),(aB,(aI,(aJ,(aL,(aR,(aZ,(aq,(aO,())))))))))))))) fun x0=>
  (match x0 with|.inl x1=>some (.inr (.inl (x1.1,())))|.inr x1=>some (.inl (x1.1,(x1.2.1,(x1.2.2.1,((IntKind.wrap .i64 (@HAdd.hAdd (Int) (Int) (Int) _ (gJ x1) (1:Int))),qq4 x1)))))
  ))
 (
  some (.inr (.inr (t1,(t3,(t11,(aB,(aI,(aJ,(aL,(aR,(aZ,(aq,(aO,()))))))))))))))
def Se(M14:tI):tH:=bO (kr (zy M14.L)) (pL k0 e0 1 (sC M14 l0) fun d=>by kernel_rfl)
def Ih:tH:=Se  Ii
def tJ:zz:=bj (kr (zy tK)) NN
def zB(L11:zz)(t1:List (List Bool))(t3 t11 aB:Int)(aI:List Int)(aJ:List (Sh.T al))(aL aR aZ:List Int)(aq:List (Sh.T an))(aO:List (Sh.T al)):Option (TL tG.σs⊕Out tD):=
 br (iL t11 t3)
 (
  az (L11 (t1,(t3,(t11,((0:Int),(aB,(aI,(aJ,(aL,(aR,(aZ,(aq,(aO,()))))))))))))) fun x0=>
  (match x0 with|.inl x1=>some (.inr (.inl (x1.1,())))|.inr x1=>some (.inl (x1.1,(x1.2.1,((IntKind.wrap .i64 (@HAdd.hAdd (Int) (Int) (Int) _ x1.2.2.1 (1:Int))),RK x1))))
  ))
 (
  some (.inr (.inr ())))
def Sj(M11:tH):zC:=bO (jh (zB M11.L)) (pL k0 e0 1 (sC M11 l0) fun d=>by kernel_rfl)
def Sm:zC:=Sj  Ih
def Il:Io:=bj (jh (zB tJ)) NN
abbrev Ip:List Sh:=[bE,(.sl (.sl .bool)),(.int .i64),(.int .i64)]
abbrev zD:List Sh:=[.bool]
abbrev Ir:=TL Ip->Option (TL zD)
abbrev zE:=Kd 16 Ip zD
def Sn(F0:jT)(L2:Im)(L8:Io)(L11:zz)(L14:zA)(a0:Sh.T bE)(a1:List (List Bool))(a2 a3:Int):Option (TL zD):=
 az (L2 (a1,(a2,(a3,((0:Int),a0))))) fun x0=>
 (match x0 with
 |.inl x1=>some (x1.1,())|.inr x1=>
  az (L8 (x1.1,(x1.2.2.1,(x1.2.1,RK x1)))) fun x2=>
  (match x2 with|.inl x3=>some (x3.1,())|.inr x3=>some (false,())
  )
 )
def Sp(c0:js)(M2:Ij)(M8:zC)(M11:tH)(M14:tI):zE:=⟨u4 (Sn c0.F M2.L M8.L M11.L M14.L),pD Tryz.func16 81 (kD c0 k0) e0 1 (sS (sC M2 (sC M8 l0))) fun d=>by kernel_rfl⟩
def Iq:zE:=Sp jU Sk Sm Ih Ii
def Si:Ir:=Iq.F
theorem mK{α D O:Type}{B:D->Option (D⊕O)}(L:List α)(q:α->Bool)(f:Nat->D)(bad:Nat->O){good:O}
  (hs:∀i x,L[i]?=some x->i<L.length->q x=false->B (f i)=some (.inl (f (i+1)))) (hf:∀i x,L[i]?=some x->i<L.length->q x=true->B (f i)=some (.inr (bad i)))
  (he:B (f L.length)=some (.inr good)) {d:D}(hd:d=f 0) {N:Nat}(hN:L.length<N):∃j:Nat,bj B N d=some (bif L.any q then bad j else good):=by
 subst hd;have main:∀k i,i+k=L.length->∀N,k<N->∃j:Nat,bj B N (f i)=some (bif (L.drop i).any q then bad j else good):=by
  intro k
  induction k with
  |zero=>
   intro i hi N hN;obtain⟨N,rfl⟩:∃M,N=M+1:=⟨N-1,by omega⟩;obtain rfl:i=L.length:=by omega
   refine⟨0,?_⟩;rw[List.drop_length];simp only[bj,he];rfl
  |succ k ih=>intro i hi N hN;obtain⟨N,rfl⟩:∃M,N=M+1:=⟨N-1,by omega⟩;have hx:=bu (show i<L.length by omega);rw[List.drop_eq_getElem_cons (show i<L.length by omega),List.any_cons];cases hq:q L[i]with|true=>exact⟨i,by simp only[bj,hf i _ hx (by omega) hq];rfl⟩|false=>obtain⟨j,hj⟩:=ih (i+1) (by omega) N (by omega);exact⟨j,by simp only[bj,hs i _ hx (by omega) hq];exact hj⟩
 have:=main L.length 0 (by omega) N hN
 rwa [List.drop_zero]at this
theorem tU(a b:Bool):Bool.not (@decide _ (Bool.decEq a b))=(a != b):=by cases a<;>cases b<;>rfl
section
variable{n:aG}{V:Nat}(hs:cL n V)
include hs
theorem Z1{i:Nat}{m:cr}(hm:n.aa[i]?=some m)(out:List Int)(ho:out.length<=100000) :
  tR (n.aa.map bh,((n.aa.length:Int),((i:Int),(m.writes.map cQ,((m.writes.length:Int),((0:Int),(out,())))))))=some (n.aa.map bh,((n.aa.length:Int),((i:Int),(out++m.writes.map (·.on),())))):=by
 have hW:m.writes.length<=4:=(hs.aa m (cK hm)).2.2.2.2.2.2.2;unfold tR;delta u7;refine dg (fun k:Nat=>(n.aa.map bh,((n.aa.length:Int),((i:Int),(m.writes.map cQ,((m.writes.length:Int),((k:Int),(out++(m.writes.take k).map (·.on),())))))))) m.writes.length (by rw[List.take_zero];show _=(n.aa.map bh,((n.aa.length:Int),((i:Int),(m.writes.map cQ,((m.writes.length:Int),((0:Int),((out++[]:List Int),())))))));rw[fR];rfl) ?_ ?_ (bM (by omega))
 .intro k hk;have hx:=bu hk;have hw':(m.writes.map cQ)[k]?=some (cQ m.writes[k]):=by rw[bT,hx];rfl
  have g:gt bU (m.writes.map cQ) (k:Int)=cQ m.writes[k]:=bn (σ:=bU) hw';have hl:(out++(m.writes.take k).map (·.on)).length<=100000000:=by rw[bA,aK,df];omega
  have e:∀(a b:List Int) (p q:Int),a=b->p=q->(some (.inl (n.aa.map bh,((n.aa.length:Int),((i:Int),(m.writes.map cQ,((m.writes.length:Int),(p,(a,())))))))):Option (TL tO.σs⊕Out tM))=some (.inl (n.aa.map bh,((n.aa.length:Int),((i:Int),(m.writes.map cQ,((m.writes.length:Int),(q,(b,())))))))):=by rintro _ _ _ _ rfl rfl;rfl
  refine ao (ax (show(k:Int)<(m.writes.length:Int) by omega)) (ai (show ah (k:Int) (List.length (m.writes.map cQ))=true from aP ⟨by omega,by rw[aK];omega⟩) (ai (n5 (a:=8) (L:=out++(m.writes.take k).map (·.on)) (x:=(gt bU (m.writes.map cQ) (k:Int)).1) hl (by omega)) (e _ _ _ _ ?_ (dD (show(k:Int)+1=((k+1:Nat):Int) by omega) (by omega)))));show(out++(m.writes.take k).map (·.on):List Int)++([(gt bU (m.writes.map cQ) (k:Int)).1]:List Int)=_;rw[g,Pl.cN hx,dN,dn];rfl
 .rw[dC];exact ag (aj (show ¬(m.writes.length:Int)<(m.writes.length:Int) by omega)) rfl
theorem zS:(dj n).length<=64:=Ud (fun m hm=>by have:=(hs.aa m hm).2.2.2.2.2.2.2;omega) (by have:=hs.lens;omega)
theorem SN:Sq (cP n,())=some (dj n,()):=by
 have hM:=hs.lens.2.2.2.2;have e2:Iz (n.aa.map bh,(((n.aa.map bh).length:Int),((0:Int),([],()))))=some (dj n,()):=by
  rw[aK];unfold Iz;delta u4;refine dg (fun k:Nat=>(n.aa.map bh,((n.aa.length:Int),((k:Int),((n.aa.take k).flatMap fun m=>m.writes.map (·.on),()))))) n.aa.length rfl ?_ ?_ (bM (by omega))
  .intro k hk;have hx:=bu hk;have hw':(n.aa.map bh)[k]?=some (bh n.aa[k]):=by rw[bT,hx];rfl
   have g:gt an (n.aa.map bh) (k:Int)=bh n.aa[k]:=bn (σ:=an) hw';have hl:((n.aa.take k).flatMap fun m=>m.writes.map (·.on)).length<=100000:=by have h1:=zS hs;unfold dj at h1;rw[show n.aa=n.aa.take k++n.aa.drop k from(List.take_append_drop k _).symm,List.flatMap_append,bA]at h1;omega
   have e5:=Z1 hs hx _ hl;have e:∀(a b:List Int) (p q:Int),a=b->p=q->(some (.inl (n.aa.map bh,((n.aa.length:Int),(p,(a,()))))):Option (TL tN.σs⊕Out tL))=some (.inl (n.aa.map bh,((n.aa.length:Int),(q,(b,()))))):=by rintro _ _ _ _ rfl rfl;rfl
   have g1:(gt an (n.aa.map bh) (k:Int)).2.2.2.2.1=n.aa[k].writes.map cQ:=by rw[g];rfl
   have e5':tR (n.aa.map bh,((n.aa.length:Int),((k:Int),((gt an (n.aa.map bh) (k:Int)).2.2.2.2.1,(((gt an (n.aa.map bh) (k:Int)).2.2.2.2.1.length:Int),((0:Int),((n.aa.take k).flatMap fun m=>m.writes.map (·.on),())))))))=some (n.aa.map bh,((n.aa.length:Int),((k:Int),((n.aa.take k).flatMap (fun m=>m.writes.map (·.on))++n.aa[k].writes.map (·.on),())))):=by rw[g1,aK];exact e5
   refine ao (ax (show(k:Int)<(n.aa.length:Int) by omega)) (ai (show ah (k:Int) (List.length (n.aa.map bh))=true from aP ⟨by omega,by rw[aK];omega⟩) (aE e5' (e _ _ _ _ ?_ (dD (show(k:Int)+1=((k+1:Nat):Int) by omega) (by omega)))));rw[Pl.cN hx,List.flatMap_append];simp;rfl
  .rw[dC];exact ag (aj (show ¬(n.aa.length:Int)<(n.aa.length:Int) by omega)) rfl
 exact aE e2 rfl
theorem Vl{a b:List Bool}(ha:a.length=V+1)(hb:b.length=V+1)(bt:List (List Bool)) :
  IG (a,(b,(bt,(n.af.map bP,(((n.af.map bP).length:Int),((0:Int),nt n ()))))))=some (bif kG n a b then .inl (false,())else .inr (bt,nt n ())):=by
 have hL:=hs.lens;rw[aK];unfold IG kG;delta ji;refine Exists.elim (mK n.af (fun l=>a.getD l.var.toNat false != b.getD l.var.toNat false) (fun k:Nat=>(a,(b,(bt,(n.af.map bP,((n.af.length:Int),((k:Int),nt n ())))))))
  (B:=fun d=>p9   d.1 d.2.1 d.2.2.1 d.2.2.2.1 d.2.2.2.2.1 d.2.2.2.2.2.1 d.2.2.2.2.2.2.1 d.2.2.2.2.2.2.2.1 d.2.2.2.2.2.2.2.2.1 d.2.2.2.2.2.2.2.2.2.1 d.2.2.2.2.2.2.2.2.2.2.1 d.2.2.2.2.2.2.2.2.2.2.2.1 d.2.2.2.2.2.2.2.2.2.2.2.2.1 d.2.2.2.2.2.2.2.2.2.2.2.2.2.1)
  (fun _=>.inl (false,())) (good:=.inr (bt,nt n ())) ?_ ?_ ?_ rfl (N:=NN) (bM (by omega))) fun _ h=>h
 .intro k x hx hk hq;have hw':(n.af.map bP)[k]?=some (bP x):=by rw[bT,hx];rfl
  have g:gt al (n.af.map bP) (k:Int)=bP x:=bn (σ:=al) hw';have r:=hs.jN x.var (by unfold bV;simp only[List.mem_append];exact .inl (.inl (.inr (List.mem_map_of_mem (cK hx)))));have gx:(gt al (n.af.map bP) (k:Int)).1=x.var:=by rw[g];rfl
  have e:∀(p q:Int),p=q->(some (.inl (a,(b,(bt,(n.af.map bP,((n.af.length:Int),(p,nt n ()))))))):Option (TL tQ.σs⊕Out tP))=some (.inl (a,(b,(bt,(n.af.map bP,((n.af.length:Int),(q,nt n ()))))))):=by rintro _ _ rfl;rfl
  unfold nt
  try dsimp only
  unfold p9;rw[gx];refine ao (ax (show(k:Int)<(n.af.length:Int) by omega)) (ai (show ah (k:Int) (List.length (n.af.map bP))=true from aP ⟨by omega,by rw[aK];omega⟩) (ai (show ah x.var (List.length a)=true from aP ⟨by omega,by omega⟩) (ai (show ah x.var (List.length b)=true from aP ⟨by omega,by omega⟩) (ag ((tU _ _).trans hq) (e _ _ (dD (show(k:Int)+1=((k+1:Nat):Int) by omega) (by omega)))))))
 .intro k x hx hk hq;have hw':(n.af.map bP)[k]?=some (bP x):=by rw[bT,hx];rfl
  have g:gt al (n.af.map bP) (k:Int)=bP x:=bn (σ:=al) hw';have r:=hs.jN x.var (by unfold bV;simp only[List.mem_append];exact .inl (.inl (.inr (List.mem_map_of_mem (cK hx)))));have gx:(gt al (n.af.map bP) (k:Int)).1=x.var:=by rw[g];rfl
  unfold nt
  try dsimp only
  unfold p9;rw[gx];exact ao (ax (show(k:Int)<(n.af.length:Int) by omega)) (ai (show ah (k:Int) (List.length (n.af.map bP))=true from aP ⟨by omega,by rw[aK];omega⟩) (ai (show ah x.var (List.length a)=true from aP ⟨by omega,by omega⟩) (ai (show ah x.var (List.length b)=true from aP ⟨by omega,by omega⟩) (ao ((tU _ _).trans hq) rfl))))
 .exact ag (aj (show ¬(n.af.length:Int)<(n.af.length:Int) by omega)) rfl
theorem UM(bt:List (List Bool))(hbt:∀v∈bt,v.length=V+1)(hl:bt.length<=1000):RO (bt,nt n ())=some (false,nt n ()):=by
 have hv:=hs.vars;have h2:=hs.v2;have hw:IntKind.wrap (.i64:IntKind) (n.vars+1)=((V+1:Nat):Int):=by rw[hs.vars,bR (by omega)];omega
 have e:RX (bt,nt n ())=some ((-1:Int),nt n ()):=by
  have e2:H3 (bt,((bt.length:Int),((0:Int),nt n ())))=some (.inr (nt n ())):=by
   unfold H3;delta jh;refine dg (fun k:Nat=>(bt,((bt.length:Int),((k:Int),nt n ())))) bt.length rfl ?_ ?_ (bM (by omega))
   .intro k hk;have hx:=bu hk;have g:gt (.sl .bool) bt (k:Int)=bt[k]:=bn (σ:=.sl .bool) hx;have hlen:((gt (.sl .bool) bt (k:Int)).length:Int)=((V+1:Nat):Int):=by rw[g];exact congrArg Nat.cast (hbt _ (List.getElem_mem hk))
    have e:∀(p q:Int),p=q->(some (.inl (bt,((bt.length:Int),(p,nt n ())))):Option (TL tp.σs⊕Out tm))=some (.inl (bt,((bt.length:Int),(q,nt n ())))):=by rintro _ _ rfl;rfl
    unfold nt
    try dsimp only
    unfold zq;rw[hw];exact ao (ax (show(k:Int)<(bt.length:Int) by omega)) (ai (gy hk) (ag (qy (ax hlen)) (e _ _ (dD (show(k:Int)+1=((k+1:Nat):Int) by omega) (by omega)))))
   .exact ag (aj (show ¬(bt.length:Int)<(bt.length:Int) by omega)) rfl
  exact aE e2 rfl
 exact aE e rfl
theorem VD(bt:List (List Bool))(hl:bt.length<=1000):RM (bt,(dj n,()))=some (bt.any (gd n),(dj n,())):=by
 have hon:∀x∈dj n,x<9223372036854775808:=by intro x hx;obtain⟨m,hm,hw⟩:=List.mem_flatMap.1 hx;obtain⟨w,hw2,rfl⟩:=List.mem_map.1 hw;exact(wi hs hm hw2).1
 obtain⟨j,e2⟩:∃j:Nat,HU (bt,((bt.length:Int),((0:Int),(dj n,()))))=some (bif bt.any (gd n)then Sum.inl ((j:Int),(dj n,()))else Sum.inr (dj n,())):=by
  unfold HU;delta u4;refine mK bt (gd n) (fun k:Nat=>(bt,((bt.length:Int),((k:Int),(dj n,()))))) (fun j=>(Sum.inl ((j:Int),(dj n,())):Out ou)) (good:=(Sum.inr (dj n,()):Out ou)) ?_ ?_ ?_ rfl (bM (by omega))
  .intro k x hx hk hq;have g:gt (.sl .bool) bt (k:Int)=x:=bn (σ:=.sl .bool) hx;have eg:vX (dj n,(gt (.sl .bool) bt (k:Int),()))=some ((cH ((dj n).map (bo · x)):Int),()):=by rw[g];exact Ox _ x (zS hs) hon
   have h0:cH ((dj n).map (bo · x))=0:=by have:=IZ n x;rw[hq]at this;exact eq_of_beq this
   have e:∀(p q:Int),p=q->(some (.inl (bt,((bt.length:Int),(p,(dj n,()))))):Option (TL tn.σs⊕Out ou))=some (.inl (bt,((bt.length:Int),(q,(dj n,()))))):=by rintro _ _ rfl;rfl
   exact ao (ax (show(k:Int)<(bt.length:Int) by omega)) (ai (gy hk) (aE eg (ag (qy (ax (show((cH ((dj n).map (bo · x)):Nat):Int)=0 by rw[h0];rfl))) (e _ _ (dD (show(k:Int)+1=((k+1:Nat):Int) by omega) (by omega))))))
  .intro k x hx hk hq;have g:gt (.sl .bool) bt (k:Int)=x:=bn (σ:=.sl .bool) hx;have eg:vX (dj n,(gt (.sl .bool) bt (k:Int),()))=some ((cH ((dj n).map (bo · x)):Int),()):=by rw[g];exact Ox _ x (zS hs) hon
   have h0:¬cH ((dj n).map (bo · x))=0:=fun h=>by have:=IZ n x;rw[hq,h]at this;cases this
   exact ao (ax (show(k:Int)<(bt.length:Int) by omega)) (ai (gy hk) (aE eg (ao (Ah (aj (show ¬((cH ((dj n).map (bo · x)):Nat):Int)=0 by omega))) rfl)))
  .exact ag (aj (show ¬(bt.length:Int)<(bt.length:Int) by omega)) rfl
 cases hq:bt.any (gd n)with|true=>rw[hq]at e2;have e:HT (bt,(dj n,()))=some ((j:Int),(dj n,())):=aE e2 rfl;exact aE e (congrArg (fun b=>some (b,(dj n,()))) (show iE (0:Int) (j:Int)=true from ax (by omega)))|false=>rw[hq]at e2;have e:HT (bt,(dj n,()))=some ((-1:Int),(dj n,())):=aE e2 rfl;exact aE e rfl
def oY(n:aG)(a b:List Bool)(S:List (List Bool)):Bool:=kG n a b||S.any (gd n)
theorem Tq(ft:Fit n)(hc:Pl.fH n=0){a b:List Bool}(ha:a.length=V+1)(hb:b.length=V+1)(bt:List (List Bool))(hbt:∀v∈bt,v.length=V+1)(hl:bt.length<=1000) :
  SA (cP n,(a,(b,(bt,()))))=some (!oY n a b bt,()):=by
 have hv:=hs.vars;have h2:=hs.v2;have hw:IntKind.wrap (.i64:IntKind) (n.vars+1)=((V+1:Nat):Int):=by rw[hs.vars,bR (by omega)];omega
 have e1:=Zq6 ft;rw[hc]at e1;have qa:Bool.not (iQ ((a.length:Nat):Int) (IntKind.wrap (.i64:IntKind) (n.vars+1)))=false:=qy (ax (by rw[hw,ha]));have qb:Bool.not (iQ ((b.length:Nat):Int) (IntKind.wrap (.i64:IntKind) (n.vars+1)))=false:=qy (ax (by rw[hw,hb]));refine aE e1 (ag rfl (ag qa (ag qb (aE (UM hs bt hbt hl) (ag rfl (aE (Vl hs ha hb bt) ?_))))));unfold oY;cases kG n a b with|true=>rfl|false=>exact aE (SN hs) (aE (VD hs bt hl) rfl)
section
variable{vs:List (List Bool)}(hvs:∀v∈vs,v.length=V+1){i j:Nat}(hij:i<=j)(hj:j<vs.length)
include hvs hij hj
theorem Vn:Ik (vs,((i:Int),((j:Int),((0:Int),nt n ()))))=some (bif kG n (vs.getD i []) (vs.getD j [])then .inl (true,())else .inr (vs,((i:Int),((j:Int),nt n ())))):=by
 have hL:=hs.lens;have la:(vs.getD i []).length=V+1:=by rw[dP,bu (by omega)];exact hvs _ (List.getElem_mem _)
 have lb:(vs.getD j []).length=V+1:=by rw[dP,bu (by omega)];exact hvs _ (List.getElem_mem _)
 unfold Ik kG;delta kr;have key:∀k x,n.af[k]?=some x->k<n.af.length->(gt al (n.af.map bP) (k:Int)).1=x.var/\1<=x.var/\x.var<=(V:Int):=by
  intro k x hx hk;have hw':(n.af.map bP)[k]?=some (bP x):=by rw[bT,hx];rfl
  have g:gt al (n.af.map bP) (k:Int)=bP x:=bn (σ:=al) hw';have r:=hs.jN x.var (by unfold bV;simp only[List.mem_append];exact .inl (.inl (.inr (List.mem_map_of_mem (cK hx)))));exact⟨by rw[g];rfl,r⟩
 refine Exists.elim (mK n.af (fun l=>(vs.getD i []).getD l.var.toNat false != (vs.getD j []).getD l.var.toNat false) (fun k:Nat=>(vs,((i:Int),((j:Int),((k:Int),nt n ())))))
  (B:=fun d=>pY   d.1 d.2.1 d.2.2.1 d.2.2.2.1 d.2.2.2.2.1 d.2.2.2.2.2.1 d.2.2.2.2.2.2.1 d.2.2.2.2.2.2.2.1 d.2.2.2.2.2.2.2.2.1 d.2.2.2.2.2.2.2.2.2.1 d.2.2.2.2.2.2.2.2.2.2.1 d.2.2.2.2.2.2.2.2.2.2.2.1)
  (fun _=>.inl (true,())) (good:=.inr (vs,((i:Int),((j:Int),nt n ())))) ?_ ?_ ?_ rfl (N:=NN) (bM (by omega))) fun _ h=>h
 .intro k x hx hk hq;obtain⟨gx,r1,r2⟩:=key k x hx hk;have e:∀(p q:Int),p=q->(some (.inl (vs,((i:Int),((j:Int),(p,nt n ()))))):Option (TL tF.σs⊕Out tC))=some (.inl (vs,((i:Int),((j:Int),(q,nt n ()))))):=by rintro _ _ rfl;rfl
  unfold nt
  try dsimp only
  unfold pY;rw[gx];exact ao (ax (show(k:Int)<((n.af.map bP).length:Int) by rw[aK];omega)) (ai (show ah (k:Int) (List.length (n.af.map bP))=true from aP ⟨by omega,by rw[aK];omega⟩) (ai (gy (show i<vs.length by omega)) (ai (show ah x.var (vs.getD i []).length=true from aP ⟨by omega,by omega⟩) (ai (gy hj) (ai (show ah x.var (vs.getD j []).length=true from aP ⟨by omega,by omega⟩) (ag ((tU _ _).trans hq) (e _ _ (dD (show(k:Int)+1=((k+1:Nat):Int) by omega) (by omega)))))))))
 .intro k x hx hk hq;obtain⟨gx,r1,r2⟩:=key k x hx hk;unfold nt
  try dsimp only
  unfold pY;rw[gx];exact ao (ax (show(k:Int)<((n.af.map bP).length:Int) by rw[aK];omega)) (ai (show ah (k:Int) (List.length (n.af.map bP))=true from aP ⟨by omega,by rw[aK];omega⟩) (ai (gy (show i<vs.length by omega)) (ai (show ah x.var (vs.getD i []).length=true from aP ⟨by omega,by omega⟩) (ai (gy hj) (ai (show ah x.var (vs.getD j []).length=true from aP ⟨by omega,by omega⟩) (ao ((tU _ _).trans hq) rfl))))))
 .exact ag (aj (show ¬(n.af.length:Int)<((n.af.map bP).length:Int) by rw[aK];omega)) rfl
omit hvs hij hj in
theorem Ji{t i:Nat}{v:List Bool}(ht:vs[t]?=some v)(j:Int){m:cr}(hm:n.aa[i]?=some m) :
  tK (vs,(j,((t:Int),((i:Int),((0:Int),nt n ())))))=some (bif m.writes.any fun w=>bo w.on v then .inl (true,())else .inr (vs,(j,((t:Int),((i:Int),nt n ()))))):=by
 have hmm:=cK hm;have hW:m.writes.length<=4:=(hs.aa m hmm).2.2.2.2.2.2.2;have hM:=hs.lens.2.2.2.2;have hi:=dR hm;have hti:=dR ht;have gv:gt (.sl .bool) vs (t:Int)=v:=bn (σ:=.sl .bool) ht;have gM:(gt an (n.aa.map bh) (i:Int)).2.2.2.2.1=m.writes.map cQ:=by rw[show gt an (n.aa.map bh) (i:Int)=bh m from bn (σ:=an) (by rw[bT,hm];rfl)];rfl
 have ii:ah (i:Int) (List.length (n.aa.map bh))=true:=aP ⟨by omega,by rw[aK];omega⟩;unfold tK;delta iR;refine Exists.elim (mK m.writes (fun w=>bo w.on v) (fun k:Nat=>(vs,(j,((t:Int),((i:Int),((k:Int),nt n ()))))))
  (B:=fun d=>ov gr  d.1 d.2.1 d.2.2.1 d.2.2.2.1 d.2.2.2.2.1 d.2.2.2.2.2.1 d.2.2.2.2.2.2.1 d.2.2.2.2.2.2.2.1 d.2.2.2.2.2.2.2.2.1 d.2.2.2.2.2.2.2.2.2.1 d.2.2.2.2.2.2.2.2.2.2.1 d.2.2.2.2.2.2.2.2.2.2.2.1 d.2.2.2.2.2.2.2.2.2.2.2.2.1)
  (fun _=>.inl (true,())) (good:=.inr (vs,(j,((t:Int),((i:Int),nt n ()))))) ?_ ?_ ?_ rfl (N:=NN) (bM (by omega))) fun _ h=>h
 .intro k x hx hk hq;have e:∀(p q:Int),p=q->(some (.inl (vs,(j,((t:Int),((i:Int),(p,nt n ())))))):Option (TL tB.σs⊕Out tz))=some (.inl (vs,(j,((t:Int),((i:Int),(q,nt n ())))))):=by rintro _ _ rfl;rfl
  have gw:gt bU (m.writes.map cQ) (k:Int)=cQ x:=bn (σ:=bU) (by rw[bT,hx];rfl);have ee:gr ((gt bU (m.writes.map cQ) (k:Int)).1,(gt (.sl .bool) vs (t:Int),()))=some (bo x.on v,()):=by rw[gw,gv];exact ng x.on v (wi hs hmm (cK hx)).1
  unfold nt
  try dsimp only
  unfold ov;rw[gM];exact ai ii (ao (ax (show(k:Int)<((m.writes.map cQ).length:Int) by rw[aK];omega)) (ai ii (ai (show ah (k:Int) (List.length (m.writes.map cQ))=true from aP ⟨by omega,by rw[aK];omega⟩) (ai (gy hti) (aE ee (ag hq (e _ _ (dD (show(k:Int)+1=((k+1:Nat):Int) by omega) (by omega)))))))))
 .intro k x hx hk hq;have gw:gt bU (m.writes.map cQ) (k:Int)=cQ x:=bn (σ:=bU) (by rw[bT,hx];rfl);have ee:gr ((gt bU (m.writes.map cQ) (k:Int)).1,(gt (.sl .bool) vs (t:Int),()))=some (bo x.on v,()):=by rw[gw,gv];exact ng x.on v (wi hs hmm (cK hx)).1
  unfold nt
  try dsimp only
  unfold ov;rw[gM];exact ai ii (ao (ax (show(k:Int)<((m.writes.map cQ).length:Int) by rw[aK];omega)) (ai ii (ai (show ah (k:Int) (List.length (m.writes.map cQ))=true from aP ⟨by omega,by rw[aK];omega⟩) (ai (gy hti) (aE ee (ao hq rfl))))))
 .unfold nt
  try dsimp only
  unfold ov;rw[gM];exact ai ii (ag (aj (show ¬(m.writes.length:Int)<((m.writes.map cQ).length:Int) by rw[aK];omega)) rfl)
omit hvs hij hj in
theorem Jh{t:Nat}{v:List Bool}(ht:vs[t]?=some v)(j:Int) :
  tJ (vs,(j,((t:Int),((0:Int),nt n ()))))=some (bif gd n v then .inl (true,())else .inr (vs,(j,((t:Int),nt n ())))):=by
 have hM:=hs.lens.2.2.2.2;unfold tJ gd;delta kr;refine Exists.elim (mK n.aa (fun m=>m.writes.any fun w=>bo w.on v) (fun k:Nat=>(vs,(j,((t:Int),((k:Int),nt n ())))))
  (B:=fun d=>zy  tK d.1 d.2.1 d.2.2.1 d.2.2.2.1 d.2.2.2.2.1 d.2.2.2.2.2.1 d.2.2.2.2.2.2.1 d.2.2.2.2.2.2.2.1 d.2.2.2.2.2.2.2.2.1 d.2.2.2.2.2.2.2.2.2.1 d.2.2.2.2.2.2.2.2.2.2.1 d.2.2.2.2.2.2.2.2.2.2.2.1)
  (fun _=>.inl (true,())) (good:=.inr (vs,(j,((t:Int),nt n ())))) ?_ ?_ ?_ rfl (N:=NN) (bM (by omega))) fun _ h=>h
 .intro k x hx hk hq;have e:∀(p q:Int),p=q->(some (.inl (vs,(j,((t:Int),(p,nt n ()))))):Option (TL tA.σs⊕Out tx))=some (.inl (vs,(j,((t:Int),(q,nt n ()))))):=by rintro _ _ rfl;rfl
  have ee:=Ji hs ht j hx;rw[hq]at ee;exact ao (ax (show(k:Int)<((n.aa.map bh).length:Int) by rw[aK];omega)) (aE ee (e _ _ (dD (show(k:Int)+1=((k+1:Nat):Int) by omega) (by omega))))
 .intro k x hx hk hq;have ee:=Ji hs ht j hx;rw[hq]at ee;exact ao (ax (show(k:Int)<((n.aa.map bh).length:Int) by rw[aK];omega)) (aE ee rfl)
 .exact ag (aj (show ¬(n.aa.length:Int)<((n.aa.map bh).length:Int) by rw[aK];omega)) rfl
omit hvs in
theorem Vo(hl:vs.length<=1000):Il (vs,((j:Int),((i:Int),nt n ())))=some (bif ((vs.drop i).take (j-i)).any (gd n)then .inl (true,())else .inr ()):=by
 have hLn:((vs.drop i).take (j-i)).length=j-i:=by rw[df,List.length_drop];omega
 unfold Il;delta jh;refine Exists.elim (mK ((vs.drop i).take (j-i)) (gd n) (fun k:Nat=>(vs,((j:Int),(((i+k:Nat):Int),nt n ()))))
  (B:=fun d=>zB  tJ d.1 d.2.1 d.2.2.1 d.2.2.2.1 d.2.2.2.2.1 d.2.2.2.2.2.1 d.2.2.2.2.2.2.1 d.2.2.2.2.2.2.2.1 d.2.2.2.2.2.2.2.2.1 d.2.2.2.2.2.2.2.2.2.1 d.2.2.2.2.2.2.2.2.2.2.1)
  (fun _=>.inl (true,())) (good:=.inr ()) ?_ ?_ ?_ rfl (N:=NN) (bM (by omega))) fun _ h=>h
 .intro k x hx hk hq;rw[hLn]at hk;have e:∀(p q:Int),p=q->(some (.inl (vs,((j:Int),(p,nt n ())))):Option (TL tG.σs⊕Out tD))=some (.inl (vs,((j:Int),(q,nt n ())))):=by rintro _ _ rfl;rfl
  rw[List.getElem?_take_of_lt hk,List.getElem?_drop]at hx;have ee:=Jh hs hx (j:Int);rw[hq]at ee;exact ao (ax (show((i+k:Nat):Int)<(j:Int) by omega)) (aE ee (e _ _ (dD (show((i+k:Nat):Int)+1=((i+(k+1):Nat):Int) by omega) (by omega))))
 .intro k x hx hk hq;rw[hLn]at hk;rw[List.getElem?_take_of_lt hk,List.getElem?_drop]at hx;have ee:=Jh hs hx (j:Int);rw[hq]at ee;exact ao (ax (show((i+k:Nat):Int)<(j:Int) by omega)) (aE ee rfl)
 .rw[hLn];exact ag (aj (show ¬((i+(j-i):Nat):Int)<(j:Int) by omega)) rfl
theorem UN(hl:vs.length<=1000):Si (cP n,(vs,((i:Int),((j:Int),()))))=some (oY n (vs.getD i []) (vs.getD j []) ((vs.drop i).take (j-i)),()):=by refine aE (Vn hs hvs hij hj) ?_;unfold oY;cases kG n (vs.getD i []) (vs.getD j [])with|true=>rfl|false=>refine aE (Vo hs hij hj hl) ?_;cases((vs.drop i).take (j-i)).any (gd n)<;>rfl
end
end
end Go.Proofs.YtdcnjfbffckblaaGreat.V
end
section
namespace Go.Proofs.YtdcnjfbffckblaaGreat.Ev.PthRun
open Go Go.RowKit
set_option maxRecDepth 1000000
abbrev B:=Option aC
abbrev T:=Tr aC
abbrev i(n:Int):AV:=.int .i64 n
abbrev tt:AV:=.bool true
abbrev ff:AV:=.bool false
abbrev K:Nat:=1000000
theorem qc:Tryz.prog.follows .mixedOrders=true:=by kernel_rfl
def o0:Cl:=Eg
theorem Vq:cT Tryz.prog o0:=Ue
def h0:Hp:=⟨.nil,1⟩
def b0:B:=some (.cells [(i 0),.av,.av,.av,.av,.av,.av,.av] 27 none)
def b1:B:=some (.cells [(.int .u8 0)] 5 none)
def b2:B:=some (.cells [(.slice 30 0 1 true 0)] 22 none)
def t0:T:=.node b2 .nil .nil
def t1:T:=.node b1 t0 .nil
def b3:B:=some (.cells [(.ptr 21 1),(.ptr 21 3),(.ptr 21 4),(.ptr 21 5)] 220 none)
def b4:B:=some (.cells [(.slice 34 0 1 false 1),(.slice 37 0 1 false 1)] 22 (some 1))
def t2:T:=.node b4 .nil .nil
def t3:T:=.node b3 t2 .nil
def t4:T:=.node b1 t1 t3
def b5:B:=some (.cells [(.ptr 17 0)] 208 none)
def b6:B:=some (.cells [(.slice 34 0 1 false 1)] 22 none)
def t5:T:=.node b6 .nil .nil
def t6:T:=.node b5 t5 .nil
def b7:B:=some (.cells [(i 1)] 3 none)
def t7:T:=.node b7 .nil .nil
def t8:T:=.node b0 t6 t7
def t9:T:=.node b0 t4 t8
def b8:B:=some (.cells [(i 0),.av,.av,.av,.av,.av,.av,.av,(.slice 6 0 1 false 1),.av,(.slice 7 0 1 false 1),(.slice 8 0 1 false 1)] 217 none)
def b9:B:=some (.cells [(i 0),.av,.av,.av,.av,.av,.av,.av,(.slice 14 0 1 false 1),.av,(.slice 15 0 1 false 1),(.slice 16 0 1 false 1)] 217 none)
def y0:B:=some (.cells [(.ptr 20 0),(i 0),.av,.av,.av,.av,.av,.av,.av,.av,(.ptr 26 0),ff] 182 none)
def t10:T:=.node y0 .nil .nil
def t11:T:=.node b9 t10 .nil
def pM:B:=some (.map [] 0)
def t12:T:=.node pM .nil .nil
def t13:T:=.node b8 t11 t12
def om:B:=some (.cells [(i (-1))] 3 none)
def t14:T:=.node om .nil .nil
def t15:T:=.node b0 t14 .nil
def eE:B:=some (.cells [] 3 none)
def t16:T:=.node eE .nil .nil
def t17:T:=.node b0 t15 t16
def t18:T:=.node b0 t13 t17
def t19:T:=.node b0 t9 t18
def dK:B:=some (.cells [(i 0)] 3 none)
def G5:B:=some (.cells [(.slice 30 0 1 true 0)] 22 (some 1))
def t20:T:=.node G5 .nil .nil
def t21:T:=.node dK t20 .nil
def G6:B:=some (.cells [(i 1),(.slice 32 0 1 true 0)] 266 none)
def t22:T:=.node G6 .nil .nil
def t23:T:=.node dK t21 t22
def te:B:=some (.cells [(i 0),(.slice 39 0 2 true 0)] 253 none)
def t24:T:=.node none .nil .nil
def t25:T:=.node te t24 .nil
def t26:T:=.node b0 t25 t7
def t27:T:=.node b0 t23 t26
def pN:B:=some (.cells [(.ptr 9 0)] 208 none)
def t28:T:=.node b5 t14 .nil
def pO:B:=some (.cells [(.ptr 24 0),(.map 25),ff] 203 none)
def t29:T:=.node pO .nil .nil
def t30:T:=.node pN t28 t29
def y1:B:=some (.cells [(.slice 37 0 1 false 1)] 22 none)
def t31:T:=.node y1 .nil .nil
def t32:T:=.node b0 t31 .nil
def ei:B:=some (.cells [(i 1)] 3 (some 1))
def t33:T:=.node ei .nil .nil
def t34:T:=.node dK t32 t33
def t35:T:=.node dK t30 t34
def t36:T:=.node b0 t27 t35
def t37:T:=.node none t19 t36
def h1:Hp:=⟨t37,40⟩
theorem UH:mI (bo Tryz.prog env (dq Tryz.prog env (mY Tryz.prog) o0 K) 43 [(.agg [(i 0),.av,.av,.av,.av,.av,.av,.av]),ff,(i 2)] h0) (.bk [(.ptr 33 0),tt]) h1=true:=by kernel_rfl
def o1:Cl:=orElse (jO 43 [(.agg [(i 0),.av,.av,.av,.av,.av,.av,.av]),ff,(i 2)] h0 (.bk [(.ptr 33 0),tt]) h1) o0
theorem Vr:cT Tryz.prog o1:=qi qf (rf qc) Vq K UH
def t38:T:=.node b2 t7 .nil
def G7:B:=some (.cells [(.slice 77 0 1 true 0)] 22 (some 1))
def t39:T:=.node G7 .nil .nil
def t40:T:=.node ei t39 .nil
def t41:T:=.node b1 t38 t40
def t42:T:=.node b4 t33 .nil
def b23:B:=some (.cells [(.slice 64 0 1 true 0),(.slice 59 0 2 true 0),(.slice 60 0 2 true 0)] 319 none)
def t43:T:=.node b23 .nil .nil
def t44:T:=.node b3 t42 t43
def t45:T:=.node b1 t41 t44
def Rp:B:=some (.cells [(.slice 66 0 1 true 0)] 22 none)
def t46:T:=.node Rp .nil .nil
def t47:T:=.node b6 t46 .nil
def Rq:B:=some (.cells [(.slice 84 0 1 true 0),(.slice 58 0 2 true 0),.av,(.slice 86 0 1 true 0),(i 1)] 314 none)
def t48:T:=.node Rq t7 .nil
def t49:T:=.node b5 t47 t48
def y2:B:=some (.cells [(.slice 42 0 1 true 0)] 22 none)
def t50:T:=.node y2 t33 .nil
def b27:B:=some (.cells [(i 0),(i 1)] 3 (some 1))
def t51:T:=.node b27 .nil .nil
def t52:T:=.node b7 t50 t51
def t53:T:=.node b0 t49 t52
def t54:T:=.node b0 t45 t53
def t55:T:=.node y0 t16 .nil
def y4:B:=some (.cells [(.slice 47 0 1 true 0)] 22 (some 1))
def t56:T:=.node dK .nil .nil
def t57:T:=.node y4 t56 .nil
def t58:T:=.node b9 t55 t57
def G8:B:=some (.cells [(.slice 71 0 1 true 0)] 22 (some 1))
def t59:T:=.node G8 .nil .nil
def t60:T:=.node eE t59 .nil
def G9:B:=some (.cells [(.ptr 51 0),(.ptr 52 0),(.ptr 55 0),(i 1),(.slice 73 0 1 true 0),.av,(i 500),(.slice 62 0 2 true 0),.av,(i 64),ff,(i 0),(i 0),(i 1)] 263 none)
def t61:T:=.node G9 .nil .nil
def t62:T:=.node pM t60 t61
def t63:T:=.node b8 t58 t62
def t64:T:=.node om t7 .nil
def t65:T:=.node dK t7 .nil
def t66:T:=.node b0 t64 t65
def t67:T:=.node b7 t33 .nil
def tf:B:=some (.cells [ff] 4 none)
def t68:T:=.node tf .nil .nil
def t69:T:=.node eE t67 t68
def t70:T:=.node b0 t66 t69
def t71:T:=.node b0 t63 t70
def t72:T:=.node b0 t54 t71
def t73:T:=.node G5 t33 .nil
def y5:B:=some (.cells [(.slice 47 0 1 true 0)] 22 none)
def Ha:B:=some (.cells [.av,.av,(.slice 82 0 1 true 0)] 22 (some 1))
def t74:T:=.node Ha .nil .nil
def t75:T:=.node y5 t74 .nil
def t76:T:=.node dK t73 t75
def y6:B:=some (.cells [(i 1),(.slice 49 0 1 true 0)] 266 none)
def Hb:B:=some (.cells [(.slice 71 0 1 true 0)] 22 none)
def t77:T:=.node Hb .nil .nil
def t78:T:=.node y6 t77 .nil
def t79:T:=.node G6 t78 t68
def t80:T:=.node dK t76 t79
def Rr:B:=some (.cells [(.slice 66 0 1 true 0)] 22 (some 1))
def t81:T:=.node Rr .nil .nil
def t82:T:=.node none t81 .nil
def b37:B:=some (.cells [(.ptr 51 0),(.slice 79 0 1 true 0),(.slice 80 0 3 true 0),.av,(i (-1))] 316 none)
def t83:T:=.node b37 t33 .nil
def t84:T:=.node te t82 t83
def y7:B:=some (.cells [(.slice 42 0 1 true 0)] 22 (some 1))
def t85:T:=.node y7 t16 .nil
def Hc:B:=some (.cells [(i 0),(i 0)] 2 (some 1))
def t86:T:=.node Hc .nil .nil
def t87:T:=.node b7 t85 t86
def t88:T:=.node b0 t84 t87
def t89:T:=.node b0 t80 t88
def t90:T:=.node om t33 .nil
def tg:B:=some (.cells [(.int .i8 0),(i 0),(i 0)] 359 none)
def He:B:=some (.cells [(i 0)] 3 (some 1))
def t91:T:=.node He .nil .nil
def t92:T:=.node tg t91 .nil
def t93:T:=.node b5 t90 t92
def t94:T:=.node ei t16 .nil
def Hf:B:=some (.cells [(.int .i8 0),(i 0),(i 0),(.int .i8 1),(i 0),(i 0)] 359 (some 3))
def t95:T:=.node Hf .nil .nil
def t96:T:=.node pO t94 t95
def t97:T:=.node pN t93 t96
def t98:T:=.node y1 t16 .nil
def Hg:B:=some (.cells [(i 0)] 2 none)
def t99:T:=.node Hg t33 .nil
def t100:T:=.node b0 t98 t99
def Hh:B:=some (.cells [(.slice 77 0 1 true 0)] 22 none)
def t101:T:=.node Hh .nil .nil
def t102:T:=.node eE t101 .nil
def Hi:B:=some (.cells [ff,ff] 4 (some 1))
def t103:T:=.node Hi .nil .nil
def t104:T:=.node ei t102 t103
def t105:T:=.node dK t100 t104
def t106:T:=.node dK t97 t105
def t107:T:=.node b0 t89 t106
def t108:T:=.node none t72 t107
def h2:Hp:=⟨t108,87⟩
def t109:T:=.node b2 t7 t16
def t110:T:=.node b1 t109 t40
def Rt:B:=some (.cells [(.slice 64 0 0 true 0),(.slice 59 0 2 true 0),(.slice 60 0 2 true 0)] 319 none)
def y8:B:=some (.cells [(i 1),(.slice 94 0 2 false 2),.av,.av,(i 0)] 192 none)
def t111:T:=.node y8 .nil .nil
def t112:T:=.node Rt t111 .nil
def t113:T:=.node b3 t42 t112
def t114:T:=.node b1 t110 t113
def Ru:B:=some (.cells [(i 0),(i 0)] 3 (some 1))
def t115:T:=.node Ru t111 .nil
def t116:T:=.node b7 t50 t115
def t117:T:=.node b0 t49 t116
def t118:T:=.node b0 t114 t117
def t119:T:=.node y0 t16 t16
def t120:T:=.node b9 t119 t57
def t121:T:=.node G9 t16 .nil
def t122:T:=.node pM t60 t121
def t123:T:=.node b8 t120 t122
def t124:T:=.node tf t33 .nil
def t125:T:=.node eE t67 t124
def t126:T:=.node b0 t66 t125
def t127:T:=.node b0 t123 t126
def t128:T:=.node b0 t118 t127
def t129:T:=.node G5 t33 t33
def t130:T:=.node dK t129 t75
def t131:T:=.node tf t7 .nil
def t132:T:=.node G6 t78 t131
def t133:T:=.node dK t130 t132
def Rw:B:=some (.cells [(.ptr 51 0),(.slice 79 0 1 true 0),(.slice 80 0 3 true 0),(.slice 93 0 1 true 0),(i (-1))] 316 none)
def t134:T:=.node Rw t33 .nil
def t135:T:=.node te t82 t134
def t136:T:=.node Hc t7 .nil
def t137:T:=.node b7 t85 t136
def t138:T:=.node b0 t135 t137
def t139:T:=.node b0 t133 t138
def t140:T:=.node om t33 t33
def t141:T:=.node b5 t140 t92
def t142:T:=.node Hf t33 .nil
def t143:T:=.node pO t94 t142
def t144:T:=.node pN t141 t143
def Rx:B:=some (.cells [ff,tt] 4 none)
def t145:T:=.node Rx .nil .nil
def t146:T:=.node Hi t145 .nil
def t147:T:=.node ei t102 t146
def t148:T:=.node dK t100 t147
def t149:T:=.node dK t144 t148
def t150:T:=.node b0 t139 t149
def t151:T:=.node none t128 t150
def h3:Hp:=⟨t151,99⟩
theorem UI:mI (bo Tryz.prog env (dq Tryz.prog env (mY Tryz.prog) o1 K) 117 [(.ptr 57 0),.av,(i 100000)] h2) (.bk [(.agg [(i 1),(.slice 94 0 2 false 2),.av,.av,(i 0)]),(i 0)]) h3=true:=by kernel_rfl
def o2:Cl:=orElse (jO 117 [(.ptr 57 0),.av,(i 100000)] h2 (.bk [(.agg [(i 1),(.slice 94 0 2 false 2),.av,.av,(i 0)]),(i 0)]) h3) o1
theorem Vt:cT Tryz.prog o2:=qi qf (rf qc) Vr K UI
def t152:T:=.node b6 t46 t111
def t153:T:=.node b5 t152 t48
def t154:T:=.node b0 t153 t116
def t155:T:=.node b0 t114 t154
def t156:T:=.node b0 t155 t127
def t157:T:=.node none t156 t150
def h4:Hp:=⟨t157,100⟩
theorem UJ:mI (bo Tryz.prog env (dq Tryz.prog env (mY Tryz.prog) o2 K) 45 [(.ptr 33 0),.av] h1) (.bk [(.slice 94 0 2 false 2),tt]) h4=true:=by kernel_rfl
def o3:Cl:=orElse (jO 45 [(.ptr 33 0),.av] h1 (.bk [(.slice 94 0 2 false 2),tt]) h4) o2
theorem Vu:cT Tryz.prog o3:=qi qf (rf qc) Vt K UJ
def t158:T:=.node ei t39 t16
def t159:T:=.node b1 t109 t158
def Ry:B:=some (.cells [(.ptr 101 1),(.ptr 101 3),(.ptr 101 4),(.ptr 101 5)] 220 none)
def t160:T:=.node Ry .nil .nil
def t161:T:=.node b4 t33 t160
def t162:T:=.node b3 t161 t112
def t163:T:=.node b1 t159 t162
def Rz:B:=some (.cells [.av] 22 none)
def t164:T:=.node Rz .nil .nil
def t165:T:=.node y2 t33 t164
def t166:T:=.node b7 t165 t115
def t167:T:=.node b0 t153 t166
def t168:T:=.node b0 t163 t167
def RA:B:=some (.cells [(.slice 112 0 1 true 0)] 22 none)
def t169:T:=.node RA .nil .nil
def t170:T:=.node y4 t56 t169
def t171:T:=.node b9 t119 t170
def t172:T:=.node b0 .nil .nil
def t173:T:=.node eE t59 t172
def t174:T:=.node pM t173 t121
def t175:T:=.node b8 t171 t174
def t176:T:=.node om t7 t172
def t177:T:=.node b0 t176 t65
def Hj:B:=some (.cells [(.ptr 26 0)] 96 none)
def t178:T:=.node Hj .nil .nil
def t179:T:=.node b7 t33 t178
def t180:T:=.node eE t179 t124
def t181:T:=.node b0 t177 t180
def t182:T:=.node b0 t175 t181
def t183:T:=.node b0 t168 t182
def t184:T:=.node none t33 t33
def Hk:B:=some (.cells [(i (-1))] 3 (some 1))
def t185:T:=.node Hk .nil .nil
def t186:T:=.node y5 t74 t185
def t187:T:=.node dK t184 t186
def Hl:B:=some (.cells [(i 1),(.slice 114 0 2 true 0)] 266 none)
def t188:T:=.node y6 t77 t172
def t189:T:=.node Hl t188 t131
def t190:T:=.node dK t187 t189
def t191:T:=.node none t81 t172
def t192:T:=.node te t191 t134
def t193:T:=.node y7 t16 t14
def t194:T:=.node b7 t193 t136
def t195:T:=.node b0 t192 t194
def t196:T:=.node b0 t190 t195
def RB:B:=some (.cells [(.slice 30 0 1 true 0),(.slice 112 0 1 true 0)] 22 (some 1))
def t197:T:=.node RB .nil .nil
def t198:T:=.node tg t91 t197
def t199:T:=.node b5 t140 t198
def t200:T:=.node ei t16 t178
def t201:T:=.node pO t200 t142
def t202:T:=.node pN t199 t201
def t203:T:=.node y1 t16 t172
def t204:T:=.node b0 t203 t99
def t205:T:=.node eE t101 t7
def t206:T:=.node ei t205 t146
def t207:T:=.node dK t204 t206
def t208:T:=.node dK t202 t207
def t209:T:=.node b0 t196 t208
def t210:T:=.node none t183 t209
def h5:Hp:=⟨t210,115⟩
def b58:B:=some (.cells [(.slice 126 0 1 true 0)] 22 none)
def t211:T:=.node b58 .nil .nil
def b59:B:=some (.cells [(i 2),.av,.av,.av,(i 0)] 192 none)
def t212:T:=.node b59 .nil .nil
def t213:T:=.node b7 t211 t212
def t214:T:=.node eE t33 .nil
def t215:T:=.node b2 t213 t214
def t216:T:=.node G7 t51 .nil
def t217:T:=.node eE t7 .nil
def t218:T:=.node ei t216 t217
def t219:T:=.node b1 t215 t218
def b60:B:=some (.cells [(.slice 172 0 1 true 0),(.slice 142 0 2 true 0),.av,(.slice 174 0 1 true 0),(i 1)] 314 none)
def t220:T:=.node b60 .nil .nil
def t221:T:=.node ei t220 .nil
def t222:T:=.node Ry t24 .nil
def t223:T:=.node b4 t221 t222
def b61:B:=some (.cells [(.slice 150 0 1 true 0)] 22 none)
def t224:T:=.node b61 .nil .nil
def t225:T:=.node y8 t224 .nil
def t226:T:=.node none t33 .nil
def t227:T:=.node Rt t225 t226
def t228:T:=.node b3 t223 t227
def t229:T:=.node b1 t219 t228
def t230:T:=.node Rp t185 t212
def t231:T:=.node y8 t33 .nil
def t232:T:=.node b6 t230 t231
def t233:T:=.node b7 t7 .nil
def b62:B:=some (.cells [(i 1),(.slice 133 0 2 true 0)] 266 none)
def b63:B:=some (.cells [(.slice 159 0 1 true 0),(.slice 177 0 1 true 0)] 22 (some 1))
def t234:T:=.node b63 .nil .nil
def t235:T:=.node b62 t234 .nil
def t236:T:=.node Rq t233 t235
def t237:T:=.node b5 t232 t236
def b64:B:=some (.cells [(.slice 148 0 1 true 0),(.slice 143 0 2 true 0),(.slice 144 0 2 true 0)] 319 none)
def t238:T:=.node b64 .nil .nil
def t239:T:=.node ei t238 .nil
def t240:T:=.node Rz t7 .nil
def t241:T:=.node y2 t239 t240
def b65:B:=some (.cells [(.slice 154 0 1 true 0)] 22 none)
def t242:T:=.node b65 .nil .nil
def t243:T:=.node y8 t242 .nil
def b66:B:=some (.cells [(.slice 117 0 1 true 0),(.slice 121 0 1 true 0)] 22 (some 1))
def b67:B:=some (.cells [(.slice 165 0 1 true 0),(.slice 185 0 1 true 0)] 22 (some 1))
def t244:T:=.node b67 .nil .nil
def t245:T:=.node b66 t244 .nil
def t246:T:=.node Ru t243 t245
def t247:T:=.node b7 t241 t246
def t248:T:=.node b0 t237 t247
def t249:T:=.node b0 t229 t248
def Z3:T:=.node eE t7 t16
def Z4:T:=.node eE t24 .nil
def O9:T:=.node y0 Z3 Z4
def Z5:T:=.node dK t68 .nil
def Pa:T:=.node RA t185 .nil
def Z6:T:=.node y4 Z5 Pa
def Z7:T:=.node b9 O9 Z6
def Z8:T:=.node G8 t56 .nil
def Pb:T:=.node b0 t56 .nil
def Z9:T:=.node eE Z8 Pb
def Em:T:=.node eE t16 .nil
def aaa:T:=.node Hk t185 .nil
def Pc:T:=.node G9 Em aaa
def aab:T:=.node pM Z9 Pc
def aac:T:=.node b8 Z7 aab
def b68:B:=some (.cells [(.slice 126 0 1 true 0),(.slice 131 0 1 true 0)] 22 (some 1))
def aad:T:=.node b68 .nil .nil
def aae:T:=.node b7 aad t33
def aaf:T:=.node b0 t33 .nil
def aag:T:=.node om aae aaf
def aah:T:=.node b7 t16 .nil
def Pd:T:=.node ei t185 .nil
def aai:T:=.node dK aah Pd
def Pe:T:=.node b0 aag aai
def b69:B:=some (.cells [(.ptr 135 0),(.ptr 136 0),(.ptr 139 0),(i 1),(.slice 179 0 2 true 0),.av,(i 500),(.slice 146 0 2 true 0),.av,(i 64),tt,(i 0),(i 0),(i 1)] 263 none)
def Pf:T:=.node b69 .nil .nil
def aaj:T:=.node ei Pf .nil
def Pg:T:=.node Hj t7 .nil
def aak:T:=.node b7 aaj Pg
def aal:T:=.node ei t7 .nil
def Ph:T:=.node tf aal t217
def aam:T:=.node eE aak Ph
def aan:T:=.node b0 Pe aam
def aao:T:=.node b0 aac aan
def aap:T:=.node b0 t249 aao
def aaq:T:=.node ei t24 t7
def b70:B:=some (.cells [(.slice 159 0 1 true 0)] 22 none)
def aar:T:=.node b70 .nil .nil
def aas:T:=.node ei aar .nil
def Pj:T:=.node none aaq aas
def aat:T:=.node Ha t86 .nil
def Pk:T:=.node Hk t16 .nil
def aau:T:=.node y5 aat Pk
def aav:T:=.node dK Pj aau
def b71:B:=some (.cells [(.ptr 135 0),(.slice 187 0 2 true 0),(.slice 188 0 4 true 0),.av,(i 1)] 316 none)
def Pm:T:=.node b71 .nil .nil
def aaw:T:=.node Hb Pm .nil
def Pn:T:=.node b0 t24 .nil
def aax:T:=.node y6 aaw Pn
def aay:T:=.node b7 t24 .nil
def Po:T:=.node tf aay Em
def aaz:T:=.node Hl aax Po
def aaA:T:=.node dK aav aaz
def b72:B:=some (.cells [(.slice 131 0 1 true 0)] 22 none)
def aaB:T:=.node b72 .nil .nil
def aaC:T:=.node Rr aaB t16
def aaD:T:=.node b0 t16 .nil
def aaE:T:=.node none aaC aaD
def Eo:T:=.node ei t33 .nil
def aaF:T:=.node Rw Eo Em
def Pp:T:=.node te aaE aaF
def aaG:T:=.node eE t68 .nil
def aaH:T:=.node y7 aaG t90
def b73:B:=some (.cells [(.slice 150 0 1 true 0),(.slice 154 0 1 true 0)] 22 (some 1))
def aaI:T:=.node b73 .nil .nil
def aaJ:T:=.node b7 aaI .nil
def b74:B:=some (.cells [.av,.av,(.slice 170 0 1 true 0),(.slice 190 0 1 true 0)] 22 (some 1))
def aaK:T:=.node b74 .nil .nil
def aaL:T:=.node b7 aaK .nil
def Pq:T:=.node Hc aaJ aaL
def aaM:T:=.node b7 aaH Pq
def aaN:T:=.node b0 Pp aaM
def aaO:T:=.node b0 aaA aaN
def aaP:T:=.node ei t16 t33
def Pr:T:=.node om aaP t94
def aaQ:T:=.node He t103 .nil
def b75:B:=some (.cells [(.slice 177 0 1 true 0)] 22 none)
def aaR:T:=.node b75 .nil .nil
def Ps:T:=.node RB aaR .nil
def aaS:T:=.node tg aaQ Ps
def aaT:T:=.node b5 Pr aaS
def Pt:T:=.node Hg .nil .nil
def aaU:T:=.node eE Pt .nil
def Pu:T:=.node Hj t91 .nil
def aaV:T:=.node ei aaU Pu
def b76:B:=some (.cells [(.slice 121 0 1 true 0)] 22 none)
def b77:B:=some (.cells [(.slice 185 0 1 true 0)] 22 none)
def aaW:T:=.node b77 .nil .nil
def aaX:T:=.node b76 aaW .nil
def Pv:T:=.node Hf Pd aaX
def aaY:T:=.node pO aaV Pv
def aaZ:T:=.node pN aaT aaY
def aa0:T:=.node tg .nil .nil
def aa1:T:=.node eE aa0 t212
def b78:B:=some (.cells [(.slice 165 0 1 true 0)] 22 none)
def aa2:T:=.node b78 .nil .nil
def aa3:T:=.node b0 aa2 .nil
def aa4:T:=.node y1 aa1 aa3
def b79:B:=some (.cells [(.slice 117 0 1 true 0)] 22 none)
def aa5:T:=.node b79 t16 .nil
def aa6:T:=.node Hg Eo aa5
def Pw:T:=.node b0 aa4 aa6
def aa7:T:=.node Hh t95 .nil
def aa8:T:=.node eE aa7 t67
def aa9:T:=.node Rx t16 .nil
def Px:T:=.node Hi aa9 Eo
def aba:T:=.node ei aa8 Px
def abb:T:=.node dK Pw aba
def abc:T:=.node dK aaZ abb
def abd:T:=.node b0 aaO abc
def abe:T:=.node none aap abd
def h6:Hp:=⟨abe,199⟩
theorem UK:mI (bo Tryz.prog env (dq Tryz.prog env (mY Tryz.prog) o3 K) 45 [(.ptr 33 0),.av] h5) (.bk [.av,ff]) h6=true:=by kernel_rfl
def o4:Cl:=orElse (jO 45 [(.ptr 33 0),.av] h5 (.bk [.av,ff]) h6) o3
theorem Vv:cT Tryz.prog o4:=qi qf (rf qc) Vu K UK
def abf:T:=.node G7 t51 t172
def abg:T:=.node ei abf t217
def abh:T:=.node b1 t215 abg
def abi:T:=.node ei t220 t172
def abj:T:=.node b4 abi t222
def abk:T:=.node b3 abj t227
def abl:T:=.node b1 abh abk
def abm:T:=.node ei t238 t178
def abn:T:=.node y2 abm t240
def abo:T:=.node b7 abn t246
def abp:T:=.node b0 t237 abo
def abq:T:=.node b0 abl abp
def abr:T:=.node dK t68 t178
def abt:T:=.node y4 abr Pa
def abu:T:=.node b9 O9 abt
def abv:T:=.node G8 t56 t172
def abw:T:=.node eE abv Pb
def abx:T:=.node pM abw Pc
def aby:T:=.node b8 abu abx
def abz:T:=.node ei Pf t172
def abA:T:=.node b7 abz Pg
def abB:T:=.node eE abA Ph
def abC:T:=.node b0 Pe abB
def abD:T:=.node b0 aby abC
def abE:T:=.node b0 abq abD
def b80:B:=some (.cells [(.ptr 206 1),(.ptr 206 3),(.ptr 206 4),(.ptr 206 5)] 220 none)
def abF:T:=.node b80 .nil .nil
def abG:T:=.node Ha t86 abF
def abH:T:=.node y5 abG Pk
def abI:T:=.node dK Pj abH
def abJ:T:=.node Hb Pm t172
def abK:T:=.node y6 abJ Pn
def abL:T:=.node Hl abK Po
def abM:T:=.node dK abI abL
def abN:T:=.node eE t68 t164
def abO:T:=.node y7 abN t90
def abP:T:=.node b7 abO Pq
def abQ:T:=.node b0 Pp abP
def abR:T:=.node b0 abM abQ
def abS:T:=.node He t103 t164
def abT:T:=.node tg abS Ps
def abU:T:=.node b5 Pr abT
def b81:B:=some (.cells [(.ptr 200 1),(.ptr 200 3),(.ptr 200 4),(.ptr 200 5)] 220 none)
def abV:T:=.node b81 .nil .nil
def abW:T:=.node eE Pt abV
def abX:T:=.node ei abW Pu
def abY:T:=.node pO abX Pv
def abZ:T:=.node pN abU abY
def ab0:T:=.node Hh t95 t172
def ab1:T:=.node eE ab0 t67
def ab2:T:=.node ei ab1 Px
def ab3:T:=.node dK Pw ab2
def ab4:T:=.node dK abZ ab3
def ab5:T:=.node b0 abR ab4
def ab6:T:=.node none abE ab5
def h7:Hp:=⟨ab6,211⟩
theorem UL:mI (bo Tryz.prog env (dq Tryz.prog env (mY Tryz.prog) o4 K) 12 [] h0) tt h7=true:=by kernel_rfl
def o5:Cl:=orElse (jO 12 [] h0 tt h7) o4
theorem Vw:cT Tryz.prog o5:=qi qf (rf qc) Vv K UL
theorem last:o5 12 [] ⟨.nil,1⟩=some (tt,h7):=by kernel_rfl
theorem calls(w:World):Calls Tryz.prog 12 #[] w fun e w'=>e=.returned (.bool true)/\Below w.heap.size w w':=SC Vw last rfl rfl (fun _=>(0,0)) w
end Go.Proofs.YtdcnjfbffckblaaGreat.Ev.PthRun
end
section
namespace Go.Proofs.YtdcnjfbffckblaaGreat.V
open Go Go.RowKit
set_option maxRecDepth 1000000
def tE:TL []->Option (TL [.bool]):=fun _=>some (true,())
theorem Sx{P:Program}{f:FuncId}{fn:Func}{c:Code}(hf:P.funcs[f]?=some fn)(hname:(fn.name == "runtime.NumGoroutine")=false)(hb:fn.body=some c)
  (h:∀w,Calls P f #[] w fun e w'=>e=.returned (.bool true)/\Below w.heap.size w w'):Comes P f [] [.bool] (fun _=>some (true,())):=by
 refine⟨⟨fn,c,hf,hname,hb⟩,?_⟩;intro d x hx w A args hA ha;have hx:(true,())=x:=Option.some.inj hx;subst hx;have:args=[]:=ha;subst this;refine(h w).mono ?_;rintro e w' ⟨rfl,hb⟩;exact⟨[.bool true],rfl,hb,_,[],rfl,⟨rfl,rfl⟩,rfl⟩
theorem Sd:Comes Tryz.prog 12 [] [.bool] tE:=Sx (fn:=Tryz.f12) (c:=bw Tryz.f12) Tryz.func12 (by kernel_rfl) (by kernel_rfl) Ev.PthRun.calls
abbrev Ig:=TL []->Option (TL [.bool])
abbrev zx:=Kd 12 [] [.bool]
def Ie:zx:=⟨tE,Sd⟩
abbrev tv:Lay:={ T:=[(2,.fz (.sl .bool)),(3,.int .i64),(4,.int .i64),(5,.ptr 0 0),(11,.hd 1 cj),(12,.hd 2 (.sl .bool)),(13,.ptr 3 0),(14,.int .i64)],h:=[(0,.cells gR 27),(1,.arr cj 31),(2,.arr (.sl .bool) 28),(3,.cells [.fz .bool,.fz (.sl ar)] 31)],nx:=4 }
abbrev tu:List (Ev.Ex×Lay):=[(.ret,{ T:=[(10,.bool)],h:=[],nx:=0 }),((.exit 0),{ T:=[(3,.int .i64),(4,.int .i64),(5,.ptr 0 0),(11,.hd 1 cj),(12,.hd 2 (.sl .bool))],h:=[(0,.cells gR 27),(1,.arr cj 31),(2,.arr (.sl .bool) 28)],nx:=3 })]
abbrev H9:=TL tv.σs->Option (Out tu)
abbrev zv:=Ld 0 120 (bL [0] (bw Tryz.f3)) tv tu
def tw(F3:De)(F4:CF)(F5:Ig)(t2:List (List Bool))(t3 t4 t14 aB:Int)(aI:List Int)(aJ:List (Sh.T al))(aL aR aZ:List Int)(aq:List (Sh.T an))(aO:List (Sh.T al))(b1:List (Sh.T cj))(b2:List (List Bool))(oQ:List Bool)(oR:List (List (Sh.T ar))):Option (TL tv.σs⊕Out tu):=
 br (iL t14 (Int.ofNat (List.length t2)))
 (
  ak (ah t14 (List.length t2))<|
  br (Bool.not (iQ (Int.ofNat (List.length (gt (.sl .bool) t2 t14))) (Int.ofNat (List.length aI))))
  (
   az (F5 ()) fun x0=>
   some (.inr (.inl (x0.1,()))))
  (
   ak (ah t14 (List.length t2))<|
   az (F4 ((aB,(aI,(aJ,(aL,(aR,(aZ,(aq,(aO,())))))))),((oQ,(oR,())),((gt (.sl .bool) t2 t14),())))) fun x0=>
   ak (room 48 (List.length (ap b1 ((oQ,(oR,()))::[]))))<|
   ak (room 24 (List.length (ap b2 (x0.1::[]))))<|
   az (F3 ((aB,(aI,(aJ,(aL,(aR,(aZ,(aq,(aO,())))))))),((oQ,(oR,())),(x0.1,())))) fun x1=>
   some (.inl (t2,(t3,(t4,((IntKind.wrap .i64 (t14+(1:Int))),(aB,(aI,(aJ,(aL,(aR,(aZ,(aq,(aO,((ap b1 ((oQ,(oR,()))::[])),((ap b2 (x0.1::[])),(x1.1.1,(x1.1.2.1,())))))))))))))))))))
 (
  some (.inr (.inr (t3,(t4,(aB,(aI,(aJ,(aL,(aR,(aZ,(aq,(aO,(b1,(b2,())))))))))))))))
def R8(c3:vU)(c4:vA)(c5:zx) :zv:=bO (u16 (tw c3.F c4.F c5.F)) (pL (kD c3 (kD c4 (kD c5 k0))) e0 1 l0 fun d=>by kernel_rfl)
def R9:zv:=R8 Df CG Ie
def H8:H9:=bj (u16 (tw BO uI tE)) NN
abbrev Ia:List Sh:=[bE,cj,(.sl (.sl .bool)),(.int .i64),(.int .i64)]
abbrev zw:List Sh:=[.bool]
abbrev Sc:=TL Ia->Option (TL zw)
abbrev Ib:=Kd 3 Ia zw
def Sa(F0:ME)(F1:Ir)(F2:IP)(F3:De)(F4:CF)(F5:Ig)(F6:MA)(F7:MC)(L7:H9)(a0:Sh.T bE)(a1:Sh.T cj)(a2:List (List Bool))(a3 a4:Int):Option (TL zw):=
 az (F7 (a0,(a1,(a2,())))) fun x0=>
 br (Bool.not x0.1)
 (
  az (F5 ()) fun x1=>
  some (x1.1,()))
 (
  az (F6 (a0,(a1,()))) fun x1=>
  br (bD false true (Bool.not (iQ x1.1 (0:Int))))
  (
   az (F5 ()) fun x2=>
   some (x2.1,()))
  (
   br (bD false true (iL a3 (0:Int)))
   (
    az (F5 ()) fun x2=>
    some (x2.1,()))
   (
    br (bD false true (iL a4 a3))
    (
     az (F5 ()) fun x2=>
     some (x2.1,()))
    (
     br (bD false true (iE (Int.ofNat (List.length a2)) a4))
     (
      az (F5 ()) fun x2=>
      some (x2.1,()))
     (
      az (L7 (a2,(a3,(a4,((0:Int),(a0.1,(a0.2.1,(a0.2.2.1,(gJ a0,(mE a0,(mF a0,(kq a0,(mG a0,([],([],a1))))))))))))))) fun x2=>
      (match x2 with
      |.inl x3=>some (x3.1,())|.inr x3=>
       ak (ah x3.1 (List.length (k7 x3)))<|
       ak (ah x3.2.1 (List.length (k7 x3)))<|
       ak (both (iE (0:Int) x3.1) (both (iE x3.1 x3.2.1) (iE x3.2.1 (Int.ofNat (List.length (k7 x3))))))<|
       az (F2 ((x3.2.2.1,(gJ x3,(mE x3,(mF x3,(kq x3,(mG x3,(ze x3,(zf x3,())))))))),((gt (.sl .bool) (k7 x3) x3.1),((gt (.sl .bool) (k7 x3) x3.2.1),((List.take (@HSub.hSub (Nat) (Nat) (Nat) _ (Int.toNat x3.2.1) (Int.toNat x3.1)) (List.drop (Int.toNat x3.1) (k7 x3))),()))))) fun x4=>
       az (F1 ((x3.2.2.1,(gJ x3,(mE x3,(mF x3,(kq x3,(mG x3,(ze x3,(zf x3,())))))))),(k7 x3,(x3.1,(x3.2.1,()))))) fun x5=>
       br (@decide _ (Bool.decEq x4.1 (Bool.not x5.1)))
       (
        br (Bool.not x4.1)
        (
         az (F5 ()) fun x6=>
         some ((bD true x6.1 false),()))
        (
         ak (ah x3.1 (List.length (l6 x3)))<|
         ak (ah x3.2.1 (List.length (l6 x3)))<|
         az (F0 (((gt cj (l6 x3) x3.1).1,((gt cj (l6 x3) x3.1).2.1,())),(((gt cj (l6 x3) x3.2.1).1,((gt cj (l6 x3) x3.2.1).2.1,())),()))) fun x6=>
         br (bD true (bD false true x6.1) false)
         (
          az (F5 ()) fun x7=>
          some ((bD true x7.1 false),()))
         (
          some (false,()))))
       (
        some (false,()))
      ))))))
def Sb(c0:Ca)(c1:zE)(c2:zL)(c3:vU)(c4:vA)(c5:zx)(c6:B4)(c7:B9)(M7:zv):Ib:=⟨u5 (Sa c0.F c1.F c2.F c3.F c4.F c5.F c6.F c7.F M7.L),pD Tryz.func3 120 (kD c0 (kD c1 (kD c2 (kD c3 (kD c4 (kD c5 (kD c6 (kD c7 k0)))))))) e0 1 (sS (sC M7 l0)) fun d=>by kernel_rfl⟩
def Ic:Ib:=Sb MF Iq IM Df CG Ie MB MD R9
def H7:Sc:=Ic.F
open Go.Proofs.YtdcnjfbffckblaaGreat.Pl
def fW(n:aG)(I:List (List Bool))(s:jz)(k:Nat):List cj.T:=(List.range k).map fun t=>((cJ n I s t).1,((cJ n I s t).2,()))
def eo(n:aG)(I:List (List Bool))(s:jz)(k:Nat):List (List Bool):=(List.range k).map (eH n I s)
theorem I0(n:aG)(I:List (List Bool))(s:jz)(k:Nat):(fW n I s k).length=k:=(aK _).trans List.length_range
theorem SM(n:aG)(I:List (List Bool))(s:jz)(k:Nat):fW n I s (k+1)=@HAppend.hAppend (List cj.T) (List cj.T) (List cj.T) _ (fW n I s k) [((cJ n I s k).1,((cJ n I s k).2,()))]:=(congrArg (List.map fun t=>(((cJ n I s t).1,((cJ n I s t).2,())):cj.T)) List.range_succ).trans dN
theorem I1(n:aG)(I:List (List Bool))(s:jz)(k:Nat):(eo n I s k).length=k:=(aK _).trans List.length_range
section
variable{n:aG}{V:Nat}(hs:cL n V)(ft:Fit n)
include hs ft
theorem Z0(h0:ed n=0)(ha:eP (bb n) V=true)(I:List (List Bool))(hI:I.length<=100)(s:jz)(ok:iB n 4096 s.1 s.2)(i j:Int) :
  H8 (I,(i,(j,((0:Int),nt n ([],([],(s.1,(s.2,())))))))) =
   some (bif I.any (fun x=>x.length != n.aU.length)then .inl (true,())else .inr (i,(j,nt n (fW n I s I.length,(eo n I s I.length,()))))):=by
 unfold H8;delta u16;refine Exists.elim (mK I (fun x=>x.length != n.aU.length) (fun k:Nat=>(I,(i,(j,((k:Int),nt n (fW n I s k,(eo n I s k,((cJ n I s k).1,((cJ n I s k).2,())))))))))
  (B:=fun d=>tw BO uI tE  d.1 d.2.1 d.2.2.1 d.2.2.2.1 d.2.2.2.2.1 d.2.2.2.2.2.1 d.2.2.2.2.2.2.1 d.2.2.2.2.2.2.2.1 d.2.2.2.2.2.2.2.2.1 d.2.2.2.2.2.2.2.2.2.1 d.2.2.2.2.2.2.2.2.2.2.1 d.2.2.2.2.2.2.2.2.2.2.2.1 d.2.2.2.2.2.2.2.2.2.2.2.2.1 d.2.2.2.2.2.2.2.2.2.2.2.2.2.1 d.2.2.2.2.2.2.2.2.2.2.2.2.2.2.1 d.2.2.2.2.2.2.2.2.2.2.2.2.2.2.2.1)
  (fun _=>.inl (true,())) (good:=.inr (i,(j,nt n (fW n I s I.length,(eo n I s I.length,()))))) ?_ ?_ ?_ rfl (N:=NN) (bM (by omega))) fun _ h=>h
 .intro k x hx hk hq;have hq:x.length=n.aU.length:=by simpa using hq
  have okk:=oA hs (I:=I) ok k;have gx:gt (.sl .bool) I (k:Int)=x:=bn (σ:=.sl .bool) hx;have hgd:I.getD k []=x:=by rw[dP,hx];rfl
  have hva:eH n I s k=iG n (cJ n I s k).1 (cJ n I s k).2 x:=by unfold eH;rw[hgd]
  have e4:=Zr hs ft h0 ha (K:=4096+4*k) (by omega) (cJ n I s k).1 x (cJ n I s k).2 okk hq;rw[<-hva]at e4;have e3:=ZO hs (K:=4096+4*k) (by omega) (cJ n I s k).1 (cJ n I s k).2 okk (eH n I s k);have e:∀(p q:Int) (a b:List cj.T) (c d:List (List Bool)) (t:jz),p=q->a=b->c=d->(some (.inl (I,(i,(j,(p,nt n (a,(c,(t.1,(t.2,())))))))) ):Option (TL tv.σs⊕Out tu))=some (.inl (I,(i,(j,(q,nt n (b,(d,(t.1,(t.2,()))))))))):=by rintro _ _ _ _ _ _ _ rfl rfl rfl;rfl
  have l1:(fW n I s k).length<=100000000:=by rw[I0];omega
  have l2:(eo n I s k).length<=100000000:=by rw[I1];omega
  have s1:@HAppend.hAppend (List cj.T) (List cj.T) (List cj.T) _ (fW n I s k) [((cJ n I s k).1,((cJ n I s k).2,()))]=fW n I s (k+1):=(SM n I s k).symm;have s2:eo n I s k++[eH n I s k]=eo n I s (k+1):=by unfold eo;rw[List.range_succ,dN];rfl
  have e4':uI (cP n,(((cJ n I s k).1,((cJ n I s k).2,())),(gt (.sl .bool) I (k:Int),())))=some (eH n I s k,()):=by rw[gx];exact e4
  have ql:((gt (.sl .bool) I (k:Int)).length:Int)=(n.aU.length:Int):=by rw[gx];exact congrArg Nat.cast hq
  unfold nt
  try dsimp only
  unfold tw;refine ao (ax (show(k:Int)<(I.length:Int) by omega)) (ai (gy hk) (ag (qy (ax ql)) (ai (gy hk) (aE e4' (ai (n5 (a:=48) (L:=fW n I s k) (x:=((cJ n I s k).1,((cJ n I s k).2,()))) l1 (by omega)) (ai (n5 (a:=24) (L:=eo n I s k) (x:=eH n I s k) l2 (by omega)) (aE e3 (e _ _ _ _ _ _ (cJ n I s (k+1)) (dD (show(k:Int)+1=((k+1:Nat):Int) by omega) (by omega)) s1 s2))))))))
 .intro k x hx hk hq;have hq:¬x.length=n.aU.length:=by simpa using hq
  have gx:gt (.sl .bool) I (k:Int)=x:=bn (σ:=.sl .bool) hx;have ql:¬((gt (.sl .bool) I (k:Int)).length:Int)=(n.aU.length:Int):=by rw[gx];exact fun e=>hq (Int.ofNat.inj e)
  exact ao (ax (show(k:Int)<(I.length:Int) by omega)) (ai (gy hk) (ao (Ah (aj ql)) rfl))
 .exact ag (aj (show ¬(I.length:Int)<(I.length:Int) by omega)) rfl
end
section
variable{n:aG}(ft:Fit n)
include ft
theorem Sz(ls:List Bool)(cs:List (List aV))(ins:List (List Bool))(i j:Int)(hok:pT cs)(hL:Jg ls cs ins)(el:P7 (cP n,((ls,(cs,())),(ins,())))=some (true,())) :
  H7 (cP n,((ls,(cs,())),(ins,(i,(j,())))))=some (true,()):=by
 have ef:=SK ft (ls:=ls) hok;refine aE el (ag rfl ?_);by_cases hc:Pl.fH n=0
 .cases hf:mP (cP n) (ls,(cs,()))with
  |false=>rw[TQ hc hf]at ef;exact aE ef (ao rfl rfl)|true=>
   rw[TR hc hf]at ef;obtain⟨V,hs,h0,hV,ha⟩:=Zb hc;have ok:=ZL hf hok;refine aE ef (ag rfl ?_);by_cases hi:i<0
   .exact ao (ax hi) rfl
   refine ag (show bD false true (iL i (0:Int))=false from aj hi) ?_;by_cases hj:j<i
   .exact ao (ax hj) rfl
   refine ag (show bD false true (iL j i)=false from aj hj) ?_;by_cases hn:(ins.length:Int)<=j
   .exact ao (ax hn) rfl
   refine ag (show bD false true (iE (Int.ofNat ins.length) j)=false from aj hn) ?_;obtain⟨i,rfl⟩:=Int.eq_ofNat_of_zero_le (show 0<=i by omega);obtain⟨j,rfl⟩:=Int.eq_ofNat_of_zero_le (show 0<=j by omega);have hI:ins.length<=100:=by have:=hL.2.2.1;omega
   refine aE (Z0 hs ft h0 ha ins hI (ls,cs) ok (i:Int) (j:Int)) ?_;cases hq:ins.any (fun x=>x.length != n.aU.length)with
   |true=>rfl|false=>
    have hvl:(eo n ins (ls,cs) ins.length).length=ins.length:=I1 _ _ _ _;have hsl:(fW n ins (ls,cs) ins.length).length=ins.length:=I0 _ _ _ _;have hvv:∀v∈eo n ins (ls,cs) ins.length,v.length=V+1:=by intro v hv;obtain⟨t,_,rfl⟩:=List.mem_map.1 hv;exact zO hs ft _ _
    have hij:i<=j:=by omega
    have hjn:j<ins.length:=by omega
    have hva:∀t,t<ins.length->(eo n ins (ls,cs) ins.length)[t]?=some (eH n ins (ls,cs) t):=by intro t ht;unfold eo;rw[bT,List.getElem?_range ht];rfl
    have hvd:∀t,t<ins.length->(eo n ins (ls,cs) ins.length).getD t []=eH n ins (ls,cs) t:=by intro t ht;rw[dP,hva t ht];rfl
    have hst:∀t,t<ins.length->gt cj (fW n ins (ls,cs) ins.length) (t:Int)=((cJ n ins (ls,cs) t).1,((cJ n ins (ls,cs) t).2,())):=by intro t ht;exact bn (σ:=cj) (bT.trans (congrArg (Option.map fun t=>(((cJ n ins (ls,cs) t).1,((cJ n ins (ls,cs) t).2,())):cj.T)) (List.getElem?_range ht)))
    have em:=UN hs hvv hij (by rw[hvl];exact hjn) (by rw[hvl];omega);have es:=Tq hs ft hc (a:=(eo n ins (ls,cs) ins.length).getD i []) (b:=(eo n ins (ls,cs) ins.length).getD j []) (by rw[hvd i (by omega)];exact zO hs ft _ _) (by rw[hvd j hjn];exact zO hs ft _ _)
     (((eo n ins (ls,cs) ins.length).drop i).take (j-i)) (fun v hv=>hvv v (List.mem_of_mem_drop (List.mem_of_mem_take hv))) (by rw[df,List.length_drop,hvl];omega)
    have b1:both (iE (0:Int) (i:Int)) (both (iE (i:Int) (j:Int)) (iE (j:Int) (Int.ofNat (eo n ins (ls,cs) ins.length).length)))=true:=by
     have a1:iE (0:Int) (i:Int)=true:=ax (by omega);have a2:iE (i:Int) (j:Int)=true:=ax (by omega);have a3:iE (j:Int) (Int.ofNat (eo n ins (ls,cs) ins.length).length)=true:=by rw[hvl];exact ax (show(j:Int)<=(ins.length:Int) by omega)
     rw[a1,a2,a3];rfl
    refine ai (show ah (i:Int) (eo n ins (ls,cs) ins.length).length=true from gy (by omega)) (ai (show ah (j:Int) (eo n ins (ls,cs) ins.length).length=true from gy (by omega)) (ai b1 (aE es (aE em ?_))));generalize hm:oY n ((eo n ins (ls,cs) ins.length).getD i []) ((eo n ins (ls,cs) ins.length).getD j []) (((eo n ins (ls,cs) ins.length).drop i).take (j-i))=m at *
    cases m with
    |true=>exact ao rfl (ao rfl rfl)|false=>
     unfold oY at hm;rw[Bool.or_eq_false_iff]at hm;obtain⟨m1,m2⟩:=hm;rw[hvd i (by omega),hvd j hjn]at m1;have hon:∀t,i<=t->t<j->gd n (eH n ins (ls,cs) t)=false:=by
      intro t h1 h2;have hmem:eH n ins (ls,cs) t∈((eo n ins (ls,cs) ins.length).drop i).take (j-i):=by refine List.mem_of_getElem? (i:=t-i) ?_;rw[List.getElem?_take_of_lt (by omega),List.getElem?_drop,show i+(t-i)=t by omega];exact hva t (by omega)
      exact any_false (by rw[m2];simp) _ hmem
     have heq:=SI hs ha (s:=(ls,cs)) ok hij m1 hon;have okj:=oA hs (I:=ins) (s:=(ls,cs)) ok j;have e12:=SL ft (by omega) okj;have e12':Ft (((gt cj (fW n ins (ls,cs) ins.length) (i:Int)).1,((gt cj (fW n ins (ls,cs) ins.length) (i:Int)).2.1,())),(((gt cj (fW n ins (ls,cs) ins.length) (j:Int)).1,((gt cj (fW n ins (ls,cs) ins.length) (j:Int)).2.1,())),()))=some (true,()):=by rw[hst i (by omega),hst j hjn,heq];exact e12
     exact ao rfl (ag rfl (ai (show ah (i:Int) (fW n ins (ls,cs) ins.length).length=true from gy (by omega)) (ai (show ah (j:Int) (fW n ins (ls,cs) ins.length).length=true from gy (by omega)) (aE e12' (ao rfl rfl)))))
 .rw[TP hc]at ef;exact aE ef (ao (show bD false true (Bool.not (iQ (Pl.fH n) (0:Int)))=true from Ah (aj hc)) rfl)
end
theorem Su(d:bE.T)(s:cj.T)(ins:List (List Bool))(i j:Int)(hd:gH bE d)(hs:gH cj s)(hi:gH (.sl (.sl .bool)) ins)(h3:gH (.int .i64) i)(h4:gH (.int .i64) j) :
  H7 (d,(s,(ins,(i,(j,())))))=some (true,()):=by
 obtain⟨ls,cs,⟨⟩⟩:=s;obtain⟨b,eb,hb⟩:=WO d ls cs ins;cases b with|false=>exact aE eb (ao rfl rfl)|true=>obtain⟨h5,hL⟩:=hb rfl;have ft:=Uz hd h5;have r:=Sz ft ls cs ins i j (UW hs.2.1) hL (by rw[Gd];exact eb);rw[Gd]at r;exact r
