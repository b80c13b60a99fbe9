import Derived.Test.YtjflbmpepamfjaaGreatKGi
import Derived.Test.YtjflbmpepamfjaaGreatKSb
set_option linter.all false
set_option maxHeartbeats 4000000
section
namespace Go.Proofs.YtjflbmpepamfjaaGreat
open Go Go.RowKit Pl
theorem Fp{Z n i:Nat}(hi:i<n):(jS Z n).getD i 0=((Z+1+i:Nat):Int):=by unfold jS;rw[fq,dO,aFH hi];rfl
structure mZ(w:World)(p:UP)(eb:Nat)(mv:Value)(Aa:lc)(ca:Nat)(Z P:Nat):Prop where
 bx:af w eb 65 (jo p mv (.slice Aa P ca) 1)
 act:cD w (fun _=>False) Aa (jS Z P)
 small:Z+P<65536
theorem mZ.below{w w':World}{p:UP}{eb ca Z P:Nat}{mv:Value}{Aa:lc}(h:mZ w p eb mv Aa ca Z P)(hb:Below w.heap.size w w'):mZ w' p eb mv Aa ca Z P:=⟨h.bx.below hb h.bx.lt,h.act.below hb,h.small⟩
def gL(Z P:Nat)(i:Int):Int:=if 0<=i/\i<(P:Int)then((Z+1+i.toNat:Nat):Int)else 0
section
variable{w:World}{p:UP}{eb ca Z P:Nat}{mv:Value}{Aa:lc}
theorem zC(h:mZ w p eb mv Aa ca Z P):Calls Tryz.prog 7 #[.pointer (some ⟨eb,0,none⟩)] w fun e w'=>e=.returned (.int .i64 P)/\w=w':=by
 obtain⟨_,_,_,c3,_⟩:=lK h.bx;clear h
 go_enter Tryz.func7,Tryz.ntmps7
 go_wp2_with fail
 go_ret
 exact⟨rfl,rfl⟩
theorem aeZ(h:mZ w p eb mv Aa ca Z P):Calls Tryz.prog 21 #[.pointer (some ⟨eb,0,none⟩)] w fun e w'=>e=.returned (.int .i64 1)/\w=w':=by
 obtain⟨_,_,_,_,c5⟩:=lK h.bx;clear h
 go_enter Tryz.func21,Tryz.ntmps21
 go_wp2_with fail
 go_ret
 exact⟨rfl,rfl⟩
theorem tK(i:Int)(h:mZ w p eb mv Aa ca Z P):Calls Tryz.prog 8 #[.pointer (some ⟨eb,0,none⟩),.int .i64 i] w fun e w'=>e=.returned (.int .i64 (gL Z P i))/\w=w':=by
 have hp:=zC h;by_cases h0:i<0
 .have h0':decide (i<0)=true:=by simpa using h0
  have e:gL Z P i=0:=rx aGl;rw[e];clear e h
  go_enter Tryz.func8,Tryz.ntmps8
  go_wp2_with fail
  go_ret
  exact⟨rfl,rfl⟩
 .have h0':decide (i<0)=false:=by simpa using h0
  by_cases h1:(P:Int)<=i
  .have h1':decide ((P:Int)<=i)=true:=by simpa using h1
   have e:gL Z P i=0:=rx aGl;rw[e];clear e h
   go_enter Tryz.func8,Tryz.ntmps8
   go_wp2_with fail
   refine hp.mono ?_;rintro e w' ⟨rfl,rfl⟩
   go_wp2_with fail
   go_ret
   exact⟨rfl,rfl⟩
  .have h1':decide ((P:Int)<=i)=false:=by simpa using h1
   obtain⟨k,rfl⟩:=Fd (show 0<=i by omega);have hk:k<P:=aGl
   obtain⟨b,o,rfl,_,_,hc⟩:=h.act k (by rw[zA];exact hk);rw[Fp hk]at hc;have e:gL Z P (k:Int)=((Z+1+k:Nat):Int):=by unfold gL;rw[BY aGl];rfl
   rw[e];obtain⟨_,_,_,c3,_⟩:=lK h.bx;generalize ((Z+1+k:Nat):Int)=x at hc;clear e h h0 h1
   go_enter Tryz.func8,Tryz.ntmps8
   go_wp2_with fail
   refine hp.mono ?_;rintro e w' ⟨rfl,rfl⟩
   go_wp2_with fail
   go_ret
   exact⟨rfl,rfl⟩
theorem FE(l:Int)(h:mZ w p eb mv Aa ca Z P)(hP:P<=100):Calls Tryz.prog 11 #[.pointer (some ⟨eb,0,none⟩),.int .i64 l] w fun e w'=>(∃(k:Int) (b:Bool),e=.returned (.tuple #[.int .i64 k,.bool b])/\((b=false/\k=0/\∀i,i<P->((Z+1+i:Nat):Int)≠l)\/∃j:Nat,b=true/\k=(j:Int)/\j<P/\((Z+1+j:Nat):Int)=l))/\w=w':=by
 by_cases h0:l=0
 .subst h0;clear h
  go_enter Tryz.func11,Tryz.ntmps11
  go_wp2_with fail
  go_ret2
  exact⟨⟨0,false,rfl,.inl ⟨rfl,rfl,fun i hi=>aGl⟩⟩,rfl⟩
 .have h0':(l == 0)=false:=pu.2 h0;have hR:=h.act.reads;rw[zA]at hR;have hf:=Qv (cap:=ca) l hR aGl;obtain⟨_,_,_,c3,_⟩:=lK h.bx;clear h hR h0
  go_enter Tryz.func11,Tryz.ntmps11
  go_wp2_with fail
  refine hf.mono ?_;rintro e w' ⟨k,rfl,hk,rfl⟩;clear hf;rcases hk with⟨rfl,hk⟩|⟨j,hj,rfl,hk,_⟩
  .have HK:=Lib.hid hk;clear hk
   go_wp2_with fail
   go_ret2
   exact⟨⟨0,false,rfl,.inl ⟨rfl,rfl,fun i hi=>by have:=HK.out i hi;rwa [Fp hi]at this⟩⟩,rfl⟩
  .rw[Fp hj]at hk;have HK:=Lib.hid hk;have hm:max (j:Int) 0=(j:Int):=Int.max_eq_left aGl;have hd:decide ((0:Int)<=(j:Int))=true:=aGn
   clear hk
   go_wp2_with fail
   go_ret2
   exact⟨⟨(j:Int),true,rfl,.inr ⟨j,rfl,rfl,hj,HK.out⟩⟩,rfl⟩
def oR(Z P:Nat)(ps:io):io:=(ps.map (gL Z P)).filter (fun x=>x != 0)
theorem PG(Z P:Nat)(ps:io)(x:Int):oR Z P (ps++[x])=oR Z P ps++(if gL Z P x=0 then[]else[gL Z P x]):=by
 unfold oR;rw[dE,List.filter_append];congr 1;by_cases h:gL Z P x=0
 .simp[h]
 .simp[h]
theorem PL(l:io){k:Nat}(h:k<l.length):l.take (k+1)=l.take k++[l.getD k 0]:=by rw[aGf,bF h,fq,bF h];rfl
set_option maxHeartbeats 2000000
theorem ahb{np cp:Nat}{Ap:lc}{ps:io}(h:mZ w p eb mv Aa ca Z P)(hR:cD w (fun _=>False) Ap ps)(hl:ps.length=np)(hn:np<=900) :
  Calls Tryz.prog 10 #[.pointer (some ⟨eb,0,none⟩),.slice Ap np cp] w fun e w'=>∃v n,e=.returned v/\w'.ownsRow w.heap.size 3 1 v n (iv (oR Z P ps))/\Below w.heap.size w w':=by
 have HH:=Lib.hid h;have HR:=Lib.hid hR;clear h hR
 go_enter Tryz.func10,Tryz.ntmps10
 go_wp2_with fail
 go_loopw [4,10] (fun v i wr=>∃(j n:Nat),j<=np/\n<=j/\i=.int .i64 j/\Hid (Below w.heap.size w wr/\wr.ownsRow w.heap.size 3 1 v n (iv (oR Z P (ps.take j))))) (fun _ i _=>np-(intOf i).toNat)
 case atStart=>exact⟨0,0,AI _,pi _,rfl,Lib.hid ⟨Below.refl _ _,World.ownsRow_nil _ _ _ _⟩⟩
 case round=>
  obtain⟨j,n,hj,hnj,rfl,hI⟩:=hrel;obtain⟨A3,c3,hv,_,_,_⟩:=eo hI.out.2;subst hv;by_cases hlt:j<np
  .obtain⟨b,off,rfl,_,_,hc⟩:=(HR.out.below hI.out.1) j aGl;have htk:=PL ps (k:=j) aGl;obtain⟨x,hx⟩:∃x,x=ps.getD j 0:=⟨_,rfl⟩;rw[<-hx]at hc htk;have hac:=tK x (HH.out.below hI.out.1);obtain⟨a,ha⟩:∃a,a=gL Z P x:=⟨_,rfl⟩;rw[<-ha]at hac;have hsn:=PG Z P (ps.take j) x;rw[<-htk,<-ha]at hsn;have HSN:=Lib.hid hsn;clear hx htk hsn ha
   go_wp2_with fail
   refine hac.mono ?_;rintro e w' ⟨rfl,rfl⟩;clear hac;by_cases h0:a=0
   .have h0':(a != 0)=false:=by simp[h0]
    have hs2:=HSN.out;rw[BY h0,dJ]at hs2;have HS2:=Lib.hid hs2;clear h0 hs2
    go_wp2_with fail
    go_roundw
    case rel=>exact⟨j+1,n,aGl,aGl,by go_num,Lib.hid ⟨hI.out.1,by rw[HS2.out];exact hI.out.2⟩⟩
    case measure=>simp[intOf];omega
   .have h0':(a != 0)=true:=by simp[h0]
    have hs2:=HSN.out;rw[rx h0]at hs2;have HS2:=Lib.hid hs2;clear h0 hs2
    go_wp2_with (at_builtin;refine oM _ rfl _ _ 22 rfl w.heap.size 3 (.int .i64 0) 8 Tryz.underlying22 ka rfl aGl _ _ _ rfl hI.out.2 (.int .i64 a) rfl _ rfl rfl aGl hI.out.1.size ?_;intro v3 w3 hown3 hg3 _;have HG3:=Lib.hid hg3;have HO3:=Lib.hid hown3;clear hg3 hown3)
    go_roundw
    case rel=>exact⟨j+1,n+1,aGl,aGl,by go_num,Lib.hid ⟨hI.out.1.grown HG3.out hI.out.1.size fun b hb=>(hI.out.2.lt b hb).1,by rw[HS2.out,oO];exact HO3.out⟩⟩
    case measure=>simp[intOf];omega
  .obtain rfl:j=np:=aGl
   have hf:ps.take j=ps:=By aGl;have hI2:=hI.out;rw[hf]at hI2;have HI2:=Lib.hid hI2;clear hf hI2 hI
   go_wp2_with fail
   go_ret
   exact⟨_,n,rfl,HI2.out.2,HI2.out.1⟩
end
open V (bX kI nD DH)
abbrev fC(N:aV):Array Value:=#[.int .i64 N.vars,.slice N.Ai N.bz.length N.ci,.slice N.Al N.aB.length N.cl,.slice N.Ao N.bN.length N.co,.slice N.Ab N.bO.length N.cb,.slice N.Ac N.constraints.length N.cc,.slice N.Am N.aa.length N.cm,.slice N.An N.al.length N.cn]
theorem aeF{L:List cS}(h:∀m∈L,jc m<=200):(L.map jc).sum<=200*L.length:=by induction L with|nil=>simp|cons x L ih=>have h1:=h x aGn;have h2:=ih fun m hm=>h m (by simp[hm]);simp only[IS,aGb,cF];omega
theorem ahZ{d:aZ}(ft:Fit d):∀m∈d.aa,jc m<=200:=fun m hm=>by have h:=ft.aa.2 m hm;have h1:=h.mJ;have h2:=h.qg;unfold jc;omega
theorem aec(L:List cS)(j:Nat):((L.take j).map jc).sum<=(L.map jc).sum:=by
 conv=>rhs;rw[<-FS j L]
 rw[dE,aEW];omega
set_option maxHeartbeats 4000000
set_option maxRecDepth 20000
theorem P4{w:World}{N:aV}(h:V.bR w fV V.bD (bX N.d) N.v)(ft:Fit N.d) :
  Calls Tryz.prog 14 #[N.v] w fun e w'=>e=.returned (.int .i64 (oQ N.d))/\Below w.heap.size w w':=by
 obtain⟨W,hW⟩:∃W,W=w.alloc (.cells (fC N) 27):=⟨_,rfl⟩;obtain⟨nb,hnb⟩:∃nb,nb=w.heap.size:=⟨_,rfl⟩;have hbW:Below w.heap.size w W:=by rw[hW];exact(Below.refl _ w).alloc (pi _) _
 have hxW:af W nb 27 (fC N):=by rw[hW,hnb];exact af.new w _ _
 have hdW:=j3 h hbW;have hpl:=aeF (ahZ ft);have hm100:=ft.aa.1;have hsum:(N.d.aa.map jc).sum<=20000:=aGl
 have hNv:N.v=.agg (fC N):=rfl;have hlm:N.d.aa.length=N.aa.length:=aR _;have HW:=Lib.hid hW;have HNB:=Lib.hid hnb;have HBW:=Lib.hid hbW;have HXW:=Lib.hid hxW;have HDW:=Lib.hid hdW;have HLM:=Lib.hid hlm;have HSM:=Lib.hid hsum;have hm100':N.aa.length<=100:=aGl
 rw[hNv];clear hW hnb hbW hxW hdW hNv h hpl hm100 hsum hlm ft
 go_enter Tryz.func14,Tryz.ntmps14
 go_wp2_with fail
 rw[<-HW.out,<-HNB.out];clear HW
 go_loopw [3,4] (fun s i wr=>∃(j t:Nat),j<=N.aa.length/\t<=20000/\i=.int .i64 j/\s=.int .i64 t/\Hid (t=((N.d.aa.take j).map jc).sum/\Below W.heap.size W wr)) (fun _ i _=>N.aa.length-(intOf i).toNat)
 case atStart=>exact⟨0,0,AI _,aGl,rfl,rfl,Lib.hid ⟨aGn,Below.refl _ _⟩⟩
 case round=>
  obtain⟨j,t,hj,ht2,rfl,rfl,hI⟩:=hrel;have hxr:=HXW.out.below hI.out.2 HXW.out.lt;have c6:=hxr.cell 6;simp only[fC,pp,rg,pm]at c6;have hdr:=j3 HDW.out hI.out.2;clear hxr;by_cases hlt:j<N.aa.length
  .obtain⟨d,hd⟩:∃d,N.d.aa[j]?=some d:=⟨_,bF (by rw[HLM.out];exact hlt)⟩;obtain⟨b,o,v0,v1,v2,v3,v4,hA,_,_,_,hdat,hcs⟩:=(Qc hdr).mem hd;obtain⟨m,hv,hmd,_⟩:=Qb hdat;have hvv:v3=.slice m.A m.reads.length m.c/\v4=.slice m.A2 m.writes.length m.c2:=by have:m.v=.agg #[.int .i64 m.addr,.int .i64 m.word,.bool m.any,.slice m.A m.reads.length m.c,.slice m.A2 m.writes.length m.c2]:=rfl;rw[this]at hv;injection hv with hv;simp at hv;exact⟨hv.2.2.2.1.symm,hv.2.2.2.2.symm⟩
   obtain⟨rfl,rfl⟩:=hvv;have y3:=hcs 3 _ rfl;have y4:=hcs 4 _ rfl;simp only[<-adc]at y3 y4;rw[hA]at c6;have hpc:jc d=m.reads.length+m.writes.length:=by rw[<-hmd];show(m.reads.map cO.d).length+(m.writes.map dM.d).length=_;rw[aR,aR]
   have hst:((N.d.aa.take (j+1)).map jc).sum=t+(m.reads.length+m.writes.length):=by rw[aGf,hd,dE,aEW,<-hI.out.1,<-hpc];simp
   have hle:=aec N.d.aa (j+1);have hbn:t+(m.reads.length+m.writes.length)<=20000:=by have:=HSM.out;omega
   obtain⟨nr,hnr⟩:∃nr,nr=m.reads.length:=⟨_,rfl⟩;obtain⟨nw,hnw⟩:∃nw,nw=m.writes.length:=⟨_,rfl⟩;rw[<-hnr,<-hnw]at hst hbn;rw[<-hnr]at y3;rw[<-hnw]at y4;have n1:=IntWalk.i64_in ((t:Int)+(nr:Int)) ⟨aGl,aGl⟩;have n2:=IntWalk.i64_in ((t:Int)+(nr:Int)+(nw:Int)) ⟨aGl,aGl⟩;have HST:=Lib.hid hst;clear hst hle hpc hdat hcs hv hmd hA hd hdr hnr hnw
   go_upto_region 5 with fail
   go_quiet (fail)
   go_wp2_with fail
   go_roundw
   case rel=>exact⟨j+1,t+(nr+nw),aGl,aGl,by go_num,by go_num,Lib.hid ⟨HST.out.symm,below_drewN hI.out.2 nq⟩⟩
   case measure=>simp[intOf];omega
  .obtain rfl:j=N.aa.length:=aGl
   have hI2:=hI.out;rw[By (by rw[HLM.out];exact pi _)]at hI2;have HI2:=Lib.hid hI2;clear hI hI2 hdr
   go_wp2_with fail
   go_ret
   exact⟨by rw[HI2.out.1];rfl,HBW.out.trans (HI2.out.2.mono HBW.out.size)⟩
section
variable{w:World}{N:aV}
theorem ahD(h:V.bR w fV V.bD (bX N.d) N.v):∃b:Bool,(b=true->V.sZ (bX N.d))/\Calls Tryz.prog 23 #[N.v] w fun e w'=>e=.returned (.bool b)/\Below w.heap.size w w':=by obtain⟨b,e,hb⟩:=V.asn (bX N.d);refine⟨b,hb,(V.W6.ok.2 (bX N.d,()) _ e w fV [N.v] (fun b h=>h.elim) ⟨N.v,_,rfl,h,rfl⟩).mono ?_⟩;rintro e w' ⟨vs,rfl,hb,v1,r,rfl,h1,hr⟩;have hr:r=[]:=hr;subst hr;rw[PT h1];exact⟨rfl,hb⟩
theorem ag3(h:V.bR w fV V.bD (bX N.d) N.v)(ft:Fit N.d):Calls Tryz.prog 13 #[N.v] w fun e w'=>e=.returned (.int .i64 (iN N.d))/\Below w.heap.size w w':=by refine(V.WL.ok.2 (bX N.d,()) _ (V.Zxe ft) w fV [N.v] (fun b h=>h.elim) ⟨N.v,_,rfl,h,rfl⟩).mono ?_;rintro e w' ⟨vs,rfl,hb,v1,r,rfl,h1,hr⟩;have hr:r=[]:=hr;subst hr;rw[Fy h1];exact⟨rfl,hb⟩
end
theorem agF{w:World}{n c1 c2:Nat}{A1 A2:lc}{L:io}(h1:cD w (fun _=>False) A1 L)(h2:cD w (fun _=>False) A2 L)(hl:L.length=n)(hn:n<=1000) :
  Calls Tryz.prog 9 #[.slice A1 n c1,.slice A2 n c2] w fun e w'=>e=.returned (.bool true)/\Below w.heap.size w w':=by
 have H1:=Lib.hid h1;have H2:=Lib.hid h2;have hne:((n:Int) != (n:Int))=false:=aGn
 clear h1 h2
 go_enter Tryz.func9,Tryz.ntmps9
 go_wp2_with fail
 go_loopw [5] (fun i wr=>∃(j:Nat),j<=n/\i=.int .i64 j/\Hid (Below w.heap.size w wr)) (fun i _=>n-(intOf i).toNat)
 case atStart=>exact⟨0,AI _,rfl,Lib.hid (Below.refl _ _)⟩
 case round=>
  obtain⟨j,hj,rfl,hI⟩:=hrel;by_cases hlt:j<n
  .obtain⟨b,o,rfl,_,_,hc⟩:=(H1.out.below hI.out) j aGl;obtain⟨b',o',rfl,_,_,hc'⟩:=(H2.out.below hI.out) j aGl;generalize L.getD j 0=x at hc hc';have hx:(x != x)=false:=aGn
   go_upto_region 6 with fail
   go_quiet (fail)
   go_wp2_with fail
   go_roundw
   case rel=>exact⟨j+1,aGl,by go_num,Lib.hid (below_drewN hI.out nq)⟩
   case measure=>simp[intOf];omega
  .obtain rfl:j=n:=aGl
   go_wp2_with fail
   go_ret
   exact⟨rfl,hI.out⟩
theorem agn{w:World}{N:aV}(h:V.bR w fV V.bD (bX N.d) N.v) :
  ∃b:Bool,(b=true->V.sZ (bX N.d)/\N.vars<=100)/\Calls Tryz.prog 12 #[N.v,.agg #[.slice none 0 0,.slice none 0 0,.slice none 0 0]] w fun e w'=>e=.returned (.bool b)/\Below w.heap.size w w':=by
 obtain⟨W,hW⟩:∃W,W=(w.alloc (.cells (fC N) 27)).alloc (.cells #[.slice none 0 0,.slice none 0 0,.slice none 0 0] 32):=⟨_,rfl⟩;have hb1:Below w.heap.size w (w.alloc (.cells (fC N) 27)):=(Below.refl _ w).alloc (pi _) _;have hbW:Below w.heap.size w W:=by rw[hW];exact hb1.alloc hb1.size _
 have hxW:af W w.heap.size 27 (fC N):=by rw[hW];exact(af.new w _ _).alloc _
 have hgW:af W (w.heap.size+1) 32 #[.slice none 0 0,.slice none 0 0,.slice none 0 0]:=by rw[hW];have:=af.new (w.alloc (.cells (fC N) 27)) 32 #[.slice none 0 0,.slice none 0 0,.slice none 0 0];simpa using this
 have hdW:=j3 h hbW;obtain⟨b7,hb7,hli⟩:=ahD hdW;have hNv:N.v=.agg (fC N):=rfl;refine⟨b7&&decide (N.vars<=100),fun hh=>?_,?_⟩
 .simp at hh;exact⟨hb7 hh.1,hh.2⟩
 rw[hNv]at hli |-;have HW:=Lib.hid hW;have HBW:=Lib.hid hbW;have HX:=Lib.hid hxW;have HG:=Lib.hid hgW;clear hW hb1 hbW hxW hgW hdW h hb7 hNv
 go_enter Tryz.func12,Tryz.ntmps12
 go_wp2_with fail
 rw[<-HW.out];clear HW;refine hli.mono ?_;rintro e w1 ⟨rfl,hb1⟩;have k0:=(HX.out.below hb1 HX.out.lt).cell 0;have hg:=HG.out.below hb1 HG.out.lt;have g0:=hg.cell 0;have g1:=hg.cell 1;have g2:=hg.cell 2;simp only[fC,pp,rg,pm]at k0 g0 g1 g2;have HB1:=Lib.hid hb1;clear hli hb1 hg;rcases b7 with _|_
 .go_wp2_with fail
  go_ret
  exact⟨rfl,HBW.out.trans (HB1.out.mono HBW.out.size)⟩
 .by_cases h100:100<N.vars
  .have hgt:decide (100<N.vars)=true:=by simpa using h100
   have e:decide (N.vars<=100)=false:=by simp;omega
   have E:=Lib.hid e;clear h100 e
   go_wp2_with fail
   go_ret
   exact⟨by rw[E.out];rfl,HBW.out.trans (HB1.out.mono HBW.out.size)⟩
  .have hgt:decide (100<N.vars)=false:=by simpa using h100
   have e:decide (N.vars<=100)=true:=by simp;omega
   have E:=Lib.hid e;clear h100 e
   go_wp2_with fail
   go_ret
   exact⟨by rw[E.out];rfl,HBW.out.trans (HB1.out.mono HBW.out.size)⟩
theorem ago{w:World}{N:aV}(h:V.bR w fV V.bD (bX N.d) N.v)(ok:V.jO V.bD (bX N.d)) :
  ∃b:Bool,(b=true->Fit N.d/\N.vars<=100/\iN N.d=0/\oQ N.d<=12)/\Calls Tryz.prog 4 #[N.v,.agg #[.slice none 0 0,.slice none 0 0,.slice none 0 0],.int .i64 1] w fun e w'=>e=.returned (.bool b)/\Below w.heap.size w w':=by
 obtain⟨W,hW⟩:∃W,W=(w.alloc (.cells (fC N) 27)).alloc (.cells #[.slice none 0 0,.slice none 0 0,.slice none 0 0] 32):=⟨_,rfl⟩;have hb1:Below w.heap.size w (w.alloc (.cells (fC N) 27)):=(Below.refl _ w).alloc (pi _) _;have hbW:Below w.heap.size w W:=by rw[hW];exact hb1.alloc hb1.size _
 have hxW:af W w.heap.size 27 (fC N):=by rw[hW];exact(af.new w _ _).alloc _
 have hgW:af W (w.heap.size+1) 32 #[.slice none 0 0,.slice none 0 0,.slice none 0 0]:=by rw[hW];have:=af.new (w.alloc (.cells (fC N) 27)) 32 #[.slice none 0 0,.slice none 0 0,.slice none 0 0];simpa using this
 have hdW:=j3 h hbW;obtain⟨b7,hb7,hli⟩:=agn hdW;have hNv:N.v=.agg (fC N):=rfl;have fit:b7=true->Fit N.d:=fun e=>by
  have:=V.ahj ok (hb7 e).1
  rwa [nD]at this
 obtain⟨c,hc⟩:∃c,c=iN N.d:=⟨_,rfl⟩;refine⟨b7&&(c == 0&&decide (oQ N.d<=12)),fun hh=>?_,?_⟩
 .simp at hh;exact⟨fit hh.1,(hb7 hh.1).2,by rw[<-hc];exact hh.2.1,hh.2.2⟩
 have HW:=Lib.hid hW;have HBW:=Lib.hid hbW;have HX:=Lib.hid hxW;have HD:=Lib.hid hdW;have HC:=Lib.hid hc;have FIT:=Lib.hid fit;rw[hNv]at hli |-;clear hW hb1 hbW hxW hgW hdW h hb7 hc fit ok
 go_enter Tryz.func4,Tryz.ntmps4
 go_wp2_with fail
 rw[<-HW.out];clear HW;refine hli.mono ?_;rintro e w1 ⟨rfl,hb1⟩;have HB1:=Lib.hid hb1;clear hli hb1;rcases b7 with _|_
 .go_wp2_with fail
  go_ret
  exact⟨rfl,HBW.out.trans (HB1.out.mono HBW.out.size)⟩
 .have ft:=FIT.out rfl;have hx1:=HX.out.below HB1.out HX.out.lt;have hck:=ag3 (j3 HD.out HB1.out) ft;have FT:=Lib.hid ft;rw[<-HC.out,hNv]at hck;have k0:=hx1.cell 0;have k1:=hx1.cell 1;have k2:=hx1.cell 2;have k3:=hx1.cell 3;have k4:=hx1.cell 4;have k5:=hx1.cell 5;have k6:=hx1.cell 6;have k7:=hx1.cell 7;simp only[fC,pp,rg,pm]at k0 k1 k2 k3 k4 k5 k6 k7;clear ft hx1
  go_wp2_with fail
  refine hck.mono ?_;rintro e w2 ⟨rfl,hb2⟩;have hx2:=HX.out.below (HB1.out.trans (hb2.mono HB1.out.size)) HX.out.lt;have hpo:=P4 (j3 HD.out (HB1.out.trans (hb2.mono HB1.out.size))) FT.out;rw[hNv]at hpo;have m0:=hx2.cell 0;have m1:=hx2.cell 1;have m2:=hx2.cell 2;have m3:=hx2.cell 3;have m4:=hx2.cell 4;have m5:=hx2.cell 5;have m6:=hx2.cell 6;have m7:=hx2.cell 7;simp only[fC,pp,rg,pm]at m0 m1 m2 m3 m4 m5 m6 m7;have HB2:=Lib.hid (HBW.out.trans ((HB1.out.mono HBW.out.size).trans (hb2.mono (rt HBW.out.size HB1.out.size))));clear hck hb2 hx2 k0 k1 k2 k3 k4 k5 k6 k7;by_cases hc0:c=0
  .subst hc0;obtain⟨P,hP⟩:∃P,P=oQ N.d:=⟨_,rfl⟩;rw[<-hP]at hpo;have HP:=Lib.hid hP;clear hP
   go_wp2_with fail
   refine hpo.mono ?_;rintro e w3 ⟨rfl,hb3⟩;have HB3:=Lib.hid hb3;clear hpo hb3
   go_wp2_with fail
   go_ret
   exact⟨lG (by rw[<-HP.out];simp;omega),HB2.out.trans (HB3.out.mono HB2.out.size)⟩
  .have hc0':(c == 0)=false:=pu.2 hc0;clear hc0 hpo
   go_wp2_with fail
   go_ret
   exact⟨by rw[hc0'];rfl,HB2.out⟩
theorem Qe{d:aZ}{Vn:Nat}(hs:dx d Vn)(ft:Fit d){m:cS}(hm:m∈d.aa):zG m/\jc m<=8:=by obtain⟨a1,a2,a3,a4,a5,a6,a7,a8⟩:=hs.aa m hm;have hf:=ft.aa.2 m hm;exact⟨⟨⟨a1,a2⟩,⟨a3,a4⟩,a7,a8,fun r hr=>⟨a5 r hr,⟨(hf.gC r hr).2.1,(hf.gC r hr).2.2.1⟩,fun x hx=>((hf.gC r hr).2.2.2 x hx).2⟩⟩,by unfold jc;omega⟩
theorem mu.step{w w':World}{p:UP}{eb cm ca:Nat}{D D':Nat->Prop}{Am Aa:lc}{ms:List k9}{acts:io}{done:Int}(h:mu w p eb D Am cm ms Aa ca acts done)(hf:ak D w w')(hd:∀b,D' b->D b\/w.heap.size<=b):mu w' p eb D' Am cm ms Aa ca acts done:=by have ha:∀b,(D' b\/(fG ms b\/b=eb))->(D b\/(fG ms b\/b=eb))\/w.heap.size<=b:=fun b hb=>hb.elim (fun hb=>(hd b hb).imp .inl id) fun hb=>.inl (.inr hb);refine⟨h.lN.an hf (fun b h=>.inl h) ha,hf.cC h.bx h.de,fun hx=>(hd _ hx).elim h.de fun hy=>absurd h.bx.lt aGl,fun i x hx=>?_,h.act.an (hf.mono fun b h=>.inl h) ha,h.lim,fun x hx=>⟨fun hd'=>(hd _ hd').elim (h.gZ x hx).1 fun hy=>absurd (h.gZ x hx).2 aGl,ro (h.gZ x hx).2 hf.size⟩⟩;obtain⟨b,o,e1,e2,e3,e4,e5⟩:=h.row i x hx;exact⟨b,o,e1,fun hx=>(hd b hx).elim e2 fun hy=>absurd e4 aGl,e3,ro e4 hf.size,(hf.cell (p:=⟨b,o+i,none⟩) e4 e2).trans e5⟩
theorem kF.emI{W w:World}{p:UP}{Z C eb n:Nat}{D D':Nat->Prop}{ms:List k9}{mv av:Value}(h:kF W p Z C eb D n ms mv av D' w)(hN:eX W p.N p.ov p.L (fun b=>D b\/b=eb))(heD:¬D eb)(heW:eb<W.heap.size)(hZ:Z+n<65536)
  (hd:∀x∈ms,V.bR W (fun b=>D b\/b=eb) V.aj (V.aF x.2.2.d) x.2.2.v/\zG x.2.2.d) :
  ∃Am cm Aa ca,mv=.slice Am ms.length cm/\av=.slice Aa n ca/\mu w p eb D' Am cm ms Aa ca (jS Z n) 0/\∀x∈ms,qp w (fun b=>D' b\/fG ms b) x.1 x.2.1 x.2.2:=by
 obtain⟨Am,cm,rfl,_,_,_⟩:=eo h.om;obtain⟨Aa,ca,rfl,_,_,_⟩:=eo h.mU;have hE:∀b,fG ms b->W.heap.size<=b:=fun b ⟨x,hx,e⟩=>by have:=(h.mem x hx).2.1;omega
 have hA:∀b,(D' b\/(fG ms b\/b=eb))->(D b\/b=eb)\/W.heap.size<=b:=fun b hb=>by
  rcases hb with hb|hb|hb
  .exact(h.sub b hb).imp .inl id
  .exact .inr (hE b hb)
  .exact .inl (.inr hb)
 have hal:(jS Z n).length=n:=zA Z n;refine⟨Am,cm,Aa,ca,rfl,rfl,⟨hN.an h.fr (fun b h=>h) hA,by rw[hal];exact h.bx,fun hx=>(h.sub _ hx).elim heD aGl,fun i x hx=>?_,cD.j5 h.mU (fun b hb hx=>?_),fun z hz=>?_,fun x hx=>⟨(h.mem x hx).2.2,(h.mem x hx).1.lt⟩⟩,fun x hx=>⟨(h.mem x hx).1,(hd x hx).1.keep (kA h.fr (fun b h=>h) fun b hb=>hA b (hb.imp id .inl)),(hd x hx).2⟩⟩
 .have hi:i<ms.length:=(AC.1 hx).1;obtain⟨b,c',hv,_,hl⟩:=h.om.form aGl;injection hv with hv1 hv2 hv3;subst hv1;refine⟨b,0,rfl,h.mo b rfl,fun⟨y,hy,e⟩=>dZ h.om (h.mem y hy).1 aGo (by rw[e];rfl),hl,?_⟩;have:=h.om.cellAt i aGl;rw[aFm,this,dO,hx];rfl
 .rcases hx with hx|⟨y,hy,e⟩|hx
  .exact h.ao b hb hx
  .exact dZ h.mU (h.mem y hy).1 aGo (by rw[e];exact hb)
  .exact dZ h.mU h.bx aGo (by rw[<-hx];exact hb)
 .unfold jS at hz;obtain⟨i,hi,rfl⟩:=IN.1 hz;have:=aFT.1 hi;omega
theorem ahe{w:World}{N:aV}{Vn:Nat}(h:V.bR w fV V.bD (bX N.d) N.v)(ft:Fit N.d)(hs:dx N.d Vn)(h0:iN N.d=0)(hV:Vn<=100)(hp:oQ N.d<=12) :
  Calls Tryz.prog 6 #[N.v,.bool false,.int .i64 1] w fun e w'=>∃ub eb p mv Aa ca,e=.returned (.tuple #[.pointer (some ⟨ub,0,none⟩),.pointer (some ⟨eb,0,none⟩),.bool true])/\mZ w' p eb mv Aa ca 1 (oQ N.d)/\Below w.heap.size w w':=by
 obtain⟨W0,hW0⟩:∃W,W=w.alloc (.cells (fC N) 27):=⟨_,rfl⟩;obtain⟨nb,hnb⟩:∃nb,nb=w.heap.size:=⟨_,rfl⟩;have hbW:Below w.heap.size w W0:=by rw[hW0];exact(Below.refl _ w).alloc (pi _) _
 have hxW:af W0 nb 27 (fC N):=by rw[hW0,hnb];exact af.new w _ _
 have hdW:=j3 h hbW;have hne:=aEO false hdW ft hs h0;have hands:N.al.length<=2000:=by have h1:=hs.lens.2.2.1;have h2:N.d.al.length=N.al.length:=rfl;omega
 have hNv:N.v=.agg (fC N):=rfl;have HW0:=Lib.hid hW0;have HNB:=Lib.hid hnb;have HBW:=Lib.hid hbW;have HXW:=Lib.hid hxW;have HDW:=Lib.hid hdW;have FT:=Lib.hid ft;have HS:=Lib.hid hs;have HP:=Lib.hid hp;rw[hNv]at hne |-;clear hW0 hnb hbW hxW hdW hNv h ft hs h0 hp
 go_enter Tryz.func6,Tryz.ntmps6
 go_wp2_with fail
 rw[<-HW0.out,<-HNB.out];clear HW0;refine hne.mono ?_;rintro e w1 ⟨p,D1,rfl,hu1,bw,hpv,⟨hpa,hpd⟩,hd1,hb1⟩;have hen:=aiu hu1 (by rw[hpd];exact FT.out) (fun m hm=>(Qe HS.out FT.out (by rw[<-hpd];exact hm)).2) (by rw[hpd];exact HS.out.lens.2.2.2.2) aGl;have HU1:=Lib.hid hu1;have OK:=Lib.hid bw;have HPV:=Lib.hid hpv;have HPA:=Lib.hid hpa;have HPD:=Lib.hid hpd;have HD1:=Lib.hid hd1;have HB1:=Lib.hid hb1;clear hne hu1 bw hpv hpa hpd hd1 hb1
 go_wp2_with fail
 refine hen.mono ?_;rintro e w2 ⟨eb,W,n,ms,mv,av,D2,rfl,hNI,hn,hml,hms,hNW,hbW,heW,heL⟩;rw[HPD.out]at hn hml hms;have heD:¬D1 eb:=fun hx=>absurd (HU1.out.lt _ hx) aGl;have hn12:n<=12:=by rw[hn];exact HP.out
 obtain⟨Am,cm,Aa,ca,rfl,rfl,hE,hMI⟩:=hNI.emI hNW heD heL aGl (fun x hx=>⟨(hms x hx).2,(Qe HS.out FT.out (hms x hx).1.2).1⟩);have hms4:ms.length<=4:=by rw[hml];exact HS.out.lens.2.2.2.2
 have hpu:=aro hNI.us OK.out aGl (by rw[HPV.out];omega) (by rw[HPA.out];omega);rw[HPV.out,HPA.out]at hpu;have hs01:=HB1.out.size;have hb0W:Below W0.heap.size W0 W:=HB1.out.trans (hbW.mono hs01);have hb02:Below W0.heap.size W0 w2:=hb0W.trans (hNI.fr.below hb0W.size fun b hb=>by
  rcases hb with hb|hb
  .exact HD1.out b hb
  .omega)
 have hD2:∀b,D2 b->W0.heap.size<=b:=fun b hb=>(hNI.sub b hb).elim (HD1.out b) fun hx=>rt hb0W.size hx;have hme:∀x∈ms,W0.heap.size<=x.1:=fun x hx=>rt hb0W.size (hNI.mem x hx).2.1;have heb0:W0.heap.size<=eb:=aGl
 have hnd:=hNI.nd;have hbases:∀x∈ms,x.2.1+x.2.2.reads.length<=n:=fun x hx=>by have h1:=(hms x hx).1.1;unfold jc at h1;have h2:x.2.2.d.reads.length=x.2.2.reads.length:=aR _;omega
 have HU2:=Lib.hid hNI.us;have HE:=Lib.hid hE;have HMI:=Lib.hid hMI;have HN:=Lib.hid hn;have HB02:=Lib.hid hb02;have HD2:=Lib.hid hD2;have HME:=Lib.hid hme;have HND:=Lib.hid hnd;have HBA:=Lib.hid hbases;have HPU:=Lib.hid hpu;clear hen hNI hn hml hms hNW hbW heW heL heD hE hMI hb0W hb02 hD2 hme hnd hbases hpu
 go_wp2_with fail
 go_loopw [10,12] (fun f i wr=>f=.int .i64 0/\((i=.int .i64 0/\w2=wr)\/(i=.int .i64 1/\Hid (mZ wr p eb (.slice Am ms.length cm) Aa ca 1 n/\Below W0.heap.size W0 wr)))) (fun _ i _=>1-(intOf i).toNat)
 case atStart=>exact⟨rfl,.inl ⟨rfl,rfl⟩⟩
 case round=>
  obtain⟨rfl,⟨rfl,rfl⟩|⟨rfl,hI⟩⟩:=hrel
  .go_wp2_with fail
   refine HPU.out.mono ?_;rintro e w3 ⟨rfl,Z3,C3,D3,hu3,b1,b2,b3,b4,b5,b6⟩;have hal:(jS 1 n).length=n:=zA 1 n;have hE3:=HE.out.step b6 b5;have hM3:∀x∈ms,qp w3 (fun b=>D3 b\/fG ms b) x.1 x.2.1 x.2.2/\x.2.1+x.2.2.reads.length<=(jS 1 n).length:=fun x hx=>⟨(HMI.out x hx).an b6 (fun b h=>.inl h) (fun b hb=>hb.elim (fun hb=>(b5 b hb).imp .inl id) fun hb=>.inl (.inr hb)) (HE.out.gZ x hx).1,by rw[hal];exact HBA.out x hx⟩;have hep:=ahf hu3 hE3 hM3 HND.out hms4 (by rw[hal];omega) aGl aGl;rw[hal]at hep;have hb03:Below W0.heap.size W0 w3:=HB02.out.trans (b6.below HB02.out.size HD2.out);have hD3:∀b,D3 b->W0.heap.size<=b:=fun b hb=>(b5 b hb).elim (HD2.out b) fun hx=>rt HB02.out.size hx;have HEP:=Lib.hid hep;have HB03:=Lib.hid hb03;have HD3:=Lib.hid hD3;clear hu3 b1 b2 b3 b4 b5 b6 hE3 hM3 hep hb03 hD3 hal
   go_wp2_with fail
   refine HEP.out.mono ?_;rintro e w4 ⟨rfl,hx4,hr4,hf4⟩;have hA4:mZ w4 p eb (.slice Am ms.length cm) Aa ca 1 n:=⟨hx4,hr4,aGl⟩;have hb04:Below W0.heap.size W0 w4:=HB03.out.trans (hf4.below HB03.out.size fun b hb=>by
    rcases hb with hb|⟨x,hx,e⟩|hb
    .exact HD3.out b hb
    .have:=HME.out x hx;omega
    .omega)
   have HA4:=Lib.hid hA4;have HB04:=Lib.hid hb04;clear hx4 hr4 hf4 hA4 hb04 HEP
   go_wp2_with fail
   go_roundw
   case rel=>exact⟨rfl,.inr ⟨by go_num,Lib.hid ⟨HA4.out,HB04.out⟩⟩⟩
   case measure=>simp[intOf]
  .have hx9:=HXW.out.below hI.out.2 HXW.out.lt;have k0:=hx9.drew.cell 0;have k1:=hx9.drew.cell 1;have k2:=hx9.drew.cell 2;have k3:=hx9.drew.cell 3;have k4:=hx9.drew.cell 4;have k5:=hx9.drew.cell 5;have k6:=hx9.drew.cell 6;have k7:=hx9.drew.cell 7;simp only[fC,pp,rg,pm]at k0 k1 k2 k3 k4 k5 k6 k7;have hfr:=aeZ (hI.out.1.below (w':=wr.drew) (Below.refl _ wr).drew);have hpo:=zC (hI.out.1.below (w':=wr.drew) (Below.refl _ wr).drew);have hrp:=P4 (w:=wr.drew) (j3 (j3 HDW.out hI.out.2) (Below.refl _ wr).drew) FT.out;have hNv:N.v=.agg (fC N):=rfl;obtain⟨P,hP⟩:∃P,P=oQ N.d:=⟨_,rfl⟩;rw[hNv,<-hP]at hrp;have hnP:n=P:=by rw[HN.out,hP]
   subst hnP;have HPP:=Lib.hid hP;have HI:=Lib.hid hI.out;have hnn:((n:Int) == (n:Int))=true:=aGn
   have hxd:=hx9.drew;clear hI hNv hx9 hP
   go_wp2_with fail
   have HFR:=Lib.hid hfr;have HPO:=Lib.hid hpo;have HRP:=Lib.hid hrp;have HX9:=Lib.hid hxd;clear hfr hpo hrp hxd
   go_region_held3 (fun w'=>w'.cell? ⟨nb,0,none⟩=some (.int .i64 N.vars)/\w'.cell? ⟨nb,1,none⟩=some (.slice N.Ai N.bz.length N.ci)/\w'.cell? ⟨nb,2,none⟩=some (.slice N.Al N.aB.length N.cl)/\w'.cell? ⟨nb,3,none⟩=some (.slice N.Ao N.bN.length N.co)/\w'.cell? ⟨nb,4,none⟩=some (.slice N.Ab N.bO.length N.cb)/\w'.cell? ⟨nb,5,none⟩=some (.slice N.Ac N.constraints.length N.cc)/\w'.cell? ⟨nb,6,none⟩=some (.slice N.Am N.aa.length N.cm)/\w'.cell? ⟨nb,7,none⟩=some (.slice N.An N.al.length N.cn)) (first|assumption|(refine⟨?_,?_,?_,?_,?_,?_,?_,?_⟩<;>with_reducible assumption)) (first
    |(go_at_call 21;refine HFR.out.mono ?_;clear HFR;rintro e w' ⟨rfl,rfl⟩)
    |(go_at_call 7;refine HPO.out.mono ?_;clear HPO;rintro e w' ⟨rfl,rfl⟩)
    |(go_at_call 14;refine HRP.out.mono ?_;clear HRP;rintro e w9 ⟨rfl,hb9⟩;have hx9:=HX9.out.below hb9 HX9.out.lt;have m0:=hx9.cell 0;have m1:=hx9.cell 1;have m2:=hx9.cell 2;have m3:=hx9.cell 3;have m4:=hx9.cell 4;have m5:=hx9.cell 5;have m6:=hx9.cell 6;have m7:=hx9.cell 7;simp only[fC,pp,rg,pm]at m0 m1 m2 m3 m4 m5 m6 m7;have HB9:=Lib.hid hb9;clear hb9 hx9))
   all_goals (
    go_wp2_with fail
    refine bodyPost_ret (v:=.tuple #[.pointer (some ⟨p.u,0,none⟩),.pointer (some ⟨eb,0,none⟩),.bool true]) (results_tmp3 Tryz.results6 _ _ _) rfl ?_;exact⟨p.u,eb,p,.slice Am ms.length cm,Aa,ca,rfl,by rw[<-HPP.out];exact(HI.out.1.below (w':=wr.drew) (Below.refl _ wr).drew).below HB9.out,HBW.out.trans ((HI.out.2.trans ((Below.refl _ wr).drew.trans HB9.out |>.mono HI.out.2.size)).mono HBW.out.size)⟩)
theorem P7{Z P:Nat}{x:Int}:gL Z P x=0↔¬(0<=x/\x<(P:Int)):=by
 unfold gL;split
 .rename_i h;simp[h];exact fun e=>aGl
 .rename_i h;simp[h]
theorem aeG{w:World}{N:aV}{np cp:Nat}{Ap:lc}{ps:io}(l:Int)(hal:∀w,Calls Tryz.prog 5 #[] w fun e w'=>e=.returned (.bool true)/\Below w.heap.size w w')(h:V.bR w fV V.bD (bX N.d) N.v)(ok:V.jO V.bD (bX N.d))(hR:cD w (fun _=>False) Ap ps)(hl:ps.length=np)(hln:(np:Int)<=9223372036854775807) :
  Calls Tryz.prog 3 #[N.v,.slice Ap np cp,.int .i64 l] w fun e w'=>e=.returned (.bool true)/\Below w.heap.size w w':=by
 obtain⟨W,hW⟩:∃W,W=w.alloc (.cells (fC N) 27):=⟨_,rfl⟩;obtain⟨nb,hnb⟩:∃nb,nb=w.heap.size:=⟨_,rfl⟩;have hbW:Below w.heap.size w W:=by rw[hW];exact(Below.refl _ w).alloc (pi _) _
 have hxW:af W nb 27 (fC N):=by rw[hW,hnb];exact af.new w _ _
 have hdW:=j3 h hbW;obtain⟨b,hb,hli⟩:=ago hdW ok;have hNv:N.v=.agg (fC N):=rfl;have HW:=Lib.hid hW;have HNB:=Lib.hid hnb;have HBW:=Lib.hid hbW;have HXW:=Lib.hid hxW;have HDW:=Lib.hid hdW;have HR:=Lib.hid (hR.below hbW);have HAL:=Lib.hid hal;rw[hNv]at hli |-;clear hW hnb hbW hxW hdW hNv h ok hR hal;rcases b with _|_
 .clear hb
  go_enter Tryz.func3,Tryz.ntmps3
  go_wp2_with fail
  rw[<-HW.out];refine hli.mono ?_;rintro e w1 ⟨rfl,hb1⟩;have HB1:=Lib.hid hb1;clear hli hb1
  go_wp2_with fail
  refine(HAL.out w1).mono ?_;rintro e w2 ⟨rfl,hb2⟩;have HB2:=Lib.hid hb2;clear hb2
  go_wp2_with fail
  go_ret
  exact⟨rfl,HBW.out.trans ((HB1.out.trans (HB2.out.mono HB1.out.size)).mono HBW.out.size)⟩
 obtain⟨ft,hv100,hc0,hp12⟩:=hb rfl;by_cases h30:30<(np:Int)
 .have h30':decide (30<(np:Int))=true:=by simpa using h30
  clear hb ft hv100 hc0 hp12 h30
  go_enter Tryz.func3,Tryz.ntmps3
  go_wp2_with fail
  rw[<-HW.out];refine hli.mono ?_;rintro e w1 ⟨rfl,hb1⟩;have HB1:=Lib.hid hb1;clear hli hb1
  go_wp2_with fail
  refine(HAL.out w1).mono ?_;rintro e w2 ⟨rfl,hb2⟩;have HB2:=Lib.hid hb2;clear hb2
  go_wp2_with fail
  go_ret
  exact⟨rfl,HBW.out.trans ((HB1.out.trans (HB2.out.mono HB1.out.size)).mono HBW.out.size)⟩
 have h30':decide (30<(np:Int))=false:=by simpa using h30
 have hnp30:np<=30:=aGl
 have hs0:fx N.d=0:=by
  have h0:=hc0;unfold iN at h0;split at h0
  .rename_i hx;exact absurd h0 hx
  .rename_i hx;exact aFS fun hy=>hx hy
 obtain⟨Vn,hs⟩:=Ht hs0;have hvs:N.vars=(Vn:Int):=hs.vars;have HV100:Hid (Vn<=100):=Lib.hid aGl;have FT:=Lib.hid ft;have HS:=Lib.hid hs;have HC0:=Lib.hid hc0;have HP12:=Lib.hid hp12;have HVS:=Lib.hid hvs;clear hb ft hv100 hc0 hp12 h30 hs0 hs hvs
 go_enter Tryz.func3,Tryz.ntmps3
 go_wp2_with fail
 rw[<-HW.out];refine hli.mono ?_;rintro e w1 ⟨rfl,hb1⟩;have hx1:=HXW.out.below hb1 HXW.out.lt;rw[HNB.out]at hx1;have k0:=hx1.cell 0;have k1:=hx1.cell 1;have k2:=hx1.cell 2;have k3:=hx1.cell 3;have k4:=hx1.cell 4;have k5:=hx1.cell 5;have k6:=hx1.cell 6;have k7:=hx1.cell 7;simp only[fC,pp,rg,pm]at k0 k1 k2 k3 k4 k5 k6 k7;have hma:=ahe (j3 HDW.out hb1) FT.out HS.out HC0.out HV100.out HP12.out;rw[show N.v=.agg (fC N)from rfl]at hma;have HB1:=Lib.hid hb1;clear hli hb1 hx1
 go_wp2_with fail
 refine hma.mono ?_;rintro e w2 ⟨ub,eb,p,mv,Aa,ca,rfl,hA,hb2⟩;obtain⟨P,hP⟩:∃P,P=oQ N.d:=⟨_,rfl⟩;rw[<-hP]at hA;have hP12:P<=12:=by rw[hP];exact HP12.out
 have HA:=Lib.hid hA;have HB2:=Lib.hid (HB1.out.trans (hb2.mono HB1.out.size));have HR2:=Lib.hid ((HR.out.below HB1.out).below hb2);clear hma hA hb2 hP k0 k1 k2 k3 k4 k5 k6 k7
 go_wp2_with fail
 go_loopw [10,11] (fun v i wr=>∃(j n:Nat),j<=np/\n<=j/\i=.int .i64 j/\Hid (Below w2.heap.size w2 wr/\wr.ownsRow w2.heap.size 3 1 v n (iv (oR 1 P (ps.take j))))) (fun _ i _=>np-(intOf i).toNat)
 case atStart=>exact⟨0,0,AI _,pi _,rfl,Lib.hid ⟨Below.refl _ _,World.ownsRow_nil _ _ _ _⟩⟩
 case round=>
  obtain⟨j,n,hj,hnj,rfl,hI⟩:=hrel;obtain⟨A3,c3,hv,_,_,_⟩:=eo hI.out.2;subst hv;by_cases hlt:j<np
  .obtain⟨b,off,rfl,_,_,hc⟩:=(HR2.out.below hI.out.1) j aGl;have htk:=PL ps (k:=j) aGl;obtain⟨x,hx⟩:∃x,x=ps.getD j 0:=⟨_,rfl⟩;rw[<-hx]at hc htk;have hAr:=HA.out.below hI.out.1;have HPO:Hid (∀q,Calls Tryz.prog 7 #[.pointer (some ⟨eb,0,none⟩)] (wr.drewN q) fun e w'=>e=.returned (.int .i64 P)/\wr.drewN q=w'):=Lib.hid fun q=>zC (hAr.below (below_drewN (Below.refl _ _) q));have HAC:Hid (∀q,Calls Tryz.prog 8 #[.pointer (some ⟨eb,0,none⟩),.int .i64 x] (wr.drewN q) fun e w'=>e=.returned (.int .i64 (gL 1 P x))/\wr.drewN q=w'):=Lib.hid fun q=>tK x (hAr.below (below_drewN (Below.refl _ _) q));have hsn:=PG 1 P (ps.take j) x;rw[<-htk]at hsn;have HSN:=Lib.hid hsn;clear hx htk hsn hAr;by_cases hx01:0<=x/\x<(P:Int)
   .have d0:decide (0<=x)=true:=by simpa using hx01.1
    have d1:decide (x<(P:Int))=true:=by simpa using hx01.2
    have hne:¬gL 1 P x=0:=fun e=>P7.1 e hx01;have hs2:=HSN.out;rw[rx hne]at hs2;have HS2:=Lib.hid hs2;obtain⟨a,ha⟩:∃a,a=gL 1 P x:=⟨_,rfl⟩;rw[<-ha]at HAC HS2;clear hx01 hne hs2 ha
    go_upto_region 10 with fail
    go_quiet ((go_at_call 7;exact kO (HPO.out _)))
    go_wp2_with fail
    refine(HAC.out _).mono ?_;rintro e w' ⟨rfl,rfl⟩
    go_wp2_with (at_builtin;refine oM _ rfl _ _ 22 rfl w2.heap.size 3 (.int .i64 0) 8 Tryz.underlying22 ka rfl aGl _ _ _ rfl (hI.out.2:(wr.drewN nq).ownsRow _ _ _ _ _ _) (.int .i64 a) rfl _ rfl rfl aGl hI.out.1.size ?_;intro v3 w3 hown3 hg3 _;have HG3:=Lib.hid hg3;have HO3:=Lib.hid hown3;clear hg3 hown3)
    go_roundw
    case rel=>exact⟨j+1,n+1,aGl,aGl,by go_num,Lib.hid ⟨(below_drewN hI.out.1 nq).grown HG3.out hI.out.1.size fun b hb=>(hI.out.2.lt b hb).1,by rw[HS2.out,oO];exact HO3.out⟩⟩
    case measure=>simp[intOf];omega
   .have hz:gL 1 P x=0:=P7.2 hx01;have hs2:=HSN.out;rw[BY hz,dJ]at hs2;have HS2:=Lib.hid hs2;rcases(show ¬(0<=x)\/(0<=x/\¬x<(P:Int)) by omega)with h0|⟨h0,h1⟩
    .have d0:decide (0<=x)=false:=by simpa using h0
     clear hx01 hz hs2 h0
     go_upto_region 10 with fail
     go_quiet ((go_at_call 7;exact kO (HPO.out _)))
     go_wp2_with fail
     go_roundw
     case rel=>exact⟨j+1,n,aGl,aGl,by go_num,Lib.hid ⟨below_drewN hI.out.1 nq,by rw[HS2.out];exact hI.out.2⟩⟩
     case measure=>simp[intOf];omega
    .have d0:decide (0<=x)=true:=by simpa using h0
     have d1:decide (x<(P:Int))=false:=by simpa using h1
     clear hx01 hz hs2 h0 h1
     go_upto_region 10 with fail
     go_quiet ((go_at_call 7;exact kO (HPO.out _)))
     go_wp2_with fail
     go_roundw
     case rel=>exact⟨j+1,n,aGl,aGl,by go_num,Lib.hid ⟨below_drewN hI.out.1 nq,by rw[HS2.out];exact hI.out.2⟩⟩
     case measure=>simp[intOf];omega
  .obtain rfl:j=np:=aGl
   have hf:ps.take j=ps:=By aGl;have hI2:=hI.out;rw[hf]at hI2;have hAr:=HA.out.below hI2.1;have hac:=ahb (cp:=cp) hAr (HR2.out.below hI2.1) hl aGl;have HI2:=Lib.hid hI2;have HAR:=Lib.hid hAr;clear hf hI2 hI hAr
   go_wp2_with fail
   refine hac.mono ?_;rintro e w3 ⟨v,n3,rfl,ho3,hb3⟩;have hA3:=HAR.out.below hb3;have hr2:cD w3 (fun _=>False) A3 (oR 1 P ps):=(cD.j5 HI2.out.2 (fun _ _ h=>h)).below hb3;have hn1:(oR 1 P ps).length=n:=by have:=HI2.out.2.1;rw[fX]at this;omega
   have hn3:(oR 1 P ps).length=n3:=by have:=ho3.1;rw[fX]at this;omega
   obtain rfl:n3=n:=aGl
   obtain⟨Av,cv,rfl,_,_,_⟩:=eo ho3;have hsm:=agF (c1:=cv) (c2:=c3) (cD.j5 ho3 (fun _ _ h=>h)) hr2 hn1 aGl;have HA3:=Lib.hid hA3;have HB3:=Lib.hid hb3;clear hac hA3 hr2 hn1 hn3 ho3 hb3
   go_wp2_with fail
   refine hsm.mono ?_;rintro e w4 ⟨rfl,hb4⟩;have hA4:=HA3.out.below hb4;have HB4:Hid (Below w.heap.size w w4):=Lib.hid (HBW.out.trans ((HB2.out.trans ((HI2.out.1.trans ((HB3.out.trans (hb4.mono HB3.out.size)).mono HI2.out.1.size)).mono HB2.out.size)).mono HBW.out.size));have hm1:=tK (-1) hA4;have hpp:=zC hA4;have hmp:=tK (P:Int) hA4;rw[show gL 1 P (-1)=0 from rx aGl]at hm1;rw[show gL 1 P (P:Int)=0 from rx aGl]at hmp;have HA4:=Lib.hid hA4;have HM1:=Lib.hid hm1;have HPP:=Lib.hid hpp;have HMP:=Lib.hid hmp;clear hsm hb4 hA4 hm1 hpp hmp
   go_wp2_with fail
   refine HM1.out.mono ?_;rintro e w' ⟨rfl,rfl⟩;clear HM1
   go_wp2_with fail
   refine HPP.out.mono ?_;rintro e w' ⟨rfl,rfl⟩
   go_wp2_with fail
   refine HMP.out.mono ?_;rintro e w' ⟨rfl,rfl⟩;clear HMP
   go_wp2_with fail
   go_loopw [12] (fun i wr=>∃(q:Nat),q<=P/\i=.int .i64 q/\w4=wr) (fun i _=>P-(intOf i).toNat)
   case atStart=>exact⟨0,AI _,rfl,rfl⟩
   case round=>
    obtain⟨q,hq,rfl,rfl⟩:=hrel;by_cases hlq:q<P
    .have hac:=tK (q:Int) HA4.out;have hxq:gL 1 P (q:Int)=((1+1+q:Nat):Int):=by unfold gL;rw[BY aGl];rfl
     obtain⟨x,hx⟩:∃x:Int,x=((1+1+q:Nat):Int):=⟨_,rfl⟩;rw[hxq,<-hx]at hac;have hp1:=FE x HA4.out aGl;have hp2:=FE (-x) HA4.out aGl;have hx0:decide (x<=0)=false:=by simp;omega
     have n1:=IntWalk.i64_in (-x) ⟨aGl,aGl⟩;have hqq:((q:Int) != (q:Int))=false:=aGn
     have HAC:=Lib.hid hac;have HP1:=Lib.hid hp1;have HP2:=Lib.hid hp2;have HX:=Lib.hid hx;clear hac hp1 hp2 hx hxq
     go_wp2_with fail
     refine HPP.out.mono ?_;rintro e w' ⟨rfl,rfl⟩
     go_wp2_with fail
     refine HAC.out.mono ?_;rintro e w' ⟨rfl,rfl⟩
     go_wp2_with fail
     refine HP1.out.mono ?_;rintro e w' ⟨⟨kk,bb,rfl,hk⟩,rfl⟩;have hkb:kk=(q:Int)/\bb=true:=by
      have hx:=HX.out;rcases hk with⟨_,_,hk⟩|⟨jj,e1,e2,h1,h2⟩
      .exact absurd (hk q hlq) (by rw[hx];exact fun h=>h rfl)
      .exact⟨aGl,e1⟩
     obtain⟨rfl,rfl⟩:=hkb;clear hk
     go_wp2_with fail
     refine HAC.out.mono ?_;rintro e w' ⟨rfl,rfl⟩
     go_wp2_with fail
     refine HP2.out.mono ?_;rintro e w' ⟨⟨kk,bb,rfl,hk⟩,rfl⟩;have hkb:kk=0/\bb=false:=by
      have hx:=HX.out;rcases hk with⟨e1,e2,_⟩|⟨jj,e1,e2,h1,h2⟩
      .exact⟨e2,e1⟩
      .omega
     obtain⟨rfl,rfl⟩:=hkb;clear hk
     go_wp2_with fail
     refine HAC.out.mono ?_;rintro e w' ⟨rfl,rfl⟩
     go_wp2_with fail
     go_roundw
     case rel=>exact⟨q+1,aGl,by go_num,trivial⟩
     case measure=>simp[intOf];omega
    .obtain rfl:q=P:=aGl
     have hpl:=FE l HA4.out aGl;have HPL:=Lib.hid hpl;clear hpl
     go_wp2_with fail
     refine HPP.out.mono ?_;rintro e w' ⟨rfl,rfl⟩
     go_wp2_with fail
     refine HPL.out.mono ?_;rintro e w' ⟨⟨kk,bb,rfl,hk⟩,rfl⟩;rcases hk with⟨rfl,rfl,_⟩|⟨jj,rfl,rfl,h1,h2⟩
     .go_wp2_with fail
      refine(HAL.out w4).mono ?_;rintro e w5 ⟨rfl,hb5⟩;have HB5:=Lib.hid hb5;clear hb5
      go_wp2_with fail
      go_ret
      exact⟨rfl,HB4.out.trans (HB5.out.mono HB4.out.size)⟩
     .have hac:=tK (jj:Int) HA4.out;rw[show gL 1 q (jj:Int)=l by unfold gL;rw[BY aGl];exact h2]at hac;have hll:(l == l)=true:=aGn
      have HAC:=Lib.hid hac;clear hac h2
      go_wp2_with fail
      refine HAC.out.mono ?_;rintro e w' ⟨rfl,rfl⟩
      go_wp2_with fail
      refine(HAL.out w4).mono ?_;rintro e w5 ⟨rfl,hb5⟩;have HB5:=Lib.hid hb5;clear hb5
      go_wp2_with fail
      go_ret
      exact⟨rfl,HB4.out.trans (HB5.out.mono HB4.out.size)⟩
