import Derived.Test.YtjflbmpepamfjaaGreatKGc
import Derived.Test.YtjflbmpepamfjaaGreatKNe
import Derived.Deep.RegionHeld3
set_option linter.all false
section
namespace Go.Proofs.YtjflbmpepamfjaaGreat
open Go Go.RowKit Pl
open V (bR Cs gj ib vt bX kI nD)
theorem afd{w:World}{base V g:Nat}{frames:List io}(h:TS w base V g frames)(frame l:Int):-65536<=kg V frames frame l/\kg V frames frame l<=65536:=by
 obtain⟨lv,fs,h,rfl⟩:=h;unfold kg;split
 .omega
 .rename_i hc;have hi:frame.toNat<fs.length:=by rw[aR]at hc;omega
  have e:(fs.map (·.2)).getD frame.toNat []=(fs[frame.toNat]).2:=by rw[fq,dO,bF hi];rfl
  rw[e];have:=(h.fr frame.toNat _ (bF hi)).2.2.2 (l / 2).toNat;split<;>omega
def TW(w:World)(V t k:Nat)(D:Nat->Prop):Prop:=∃frames,TD w V t frames D/\frames.length=k/\∀b,D b->b<w.heap.size
theorem TD.bound{w:World}{V g:Nat}{frames:List io}{D:Nat->Prop}(h:TD w V g frames D):TD w V g frames (fun b=>D b/\b<w.heap.size):=by obtain⟨lv,fs,h,e,d1,d2,d3⟩:=h;exact⟨lv,fs,h,e,⟨d1,h.hd.lt⟩,fun b hb=>⟨d2 b hb,(h.own.lt b hb).2⟩,fun i f hf=>⟨d3 i f hf,(h.fr i f hf).1.lt⟩⟩
theorem TW.an{w w':World}{V t k:Nat}{D D':Nat->Prop}(h:TW w V t k D)(hf:ak D' w w')(hd:∀b,D b->¬D' b):TW w' V t k D:=by obtain⟨fr,h,e,hl⟩:=h;exact⟨fr,h.an hf hd,e,fun b hb=>ro (hl b hb) hf.size⟩
section
variable{w:World}{V t k:Nat}{D:Nat->Prop}
theorem afG(h:TW w V t k D):Calls Tryz.prog 73 #[.pointer (some ⟨t,0,none⟩)] w fun e w'=>e=.returned (.int .i64 k)/\w=w':=by obtain⟨fr,h,rfl,_⟩:=h;exact lO h.ts
theorem ah6(h:TW w V t k D)(hk:k<1000000):Calls Tryz.prog 36 #[.pointer (some ⟨t,0,none⟩)] w fun e w'=>e=.returned (.int .i64 k)/\(∃D',TW w' V t (k+1) D'/\∀b,D' b->D b\/w.heap.size<=b)/\ak D w w':=by obtain⟨fr,h,rfl,hl⟩:=h;refine(aev h hk).mono ?_;rintro e w' ⟨rfl,D',h1,h2,h3⟩;exact⟨rfl,⟨_,⟨_,h1.bound,aGn,fun b hb=>hb.2⟩,fun b hb=>h2 b hb.1⟩,h3⟩
theorem arl(h:TW w V t k D)(frame v l:Int):Calls Tryz.prog 39 #[.pointer (some ⟨t,0,none⟩),.int .i64 frame,.int .i64 v,.int .i64 l] w fun e w'=>(∃b,e=.returned (.bool b))/\TW w' V t k D/\ak D w w':=by
 obtain⟨fr,h,rfl,hl⟩:=h;by_cases bw:zT fr.length V frame v l
 .refine(aeJ frame v l h bw).mono ?_;rintro e w' ⟨rfl,h1,h2⟩;exact⟨⟨_,rfl⟩,⟨_,h1,by simp[wX],fun b hb=>ro (hl b hb) h2.size⟩,h2⟩
 .refine(agO frame v l h.ts bw).mono ?_;rintro e w' ⟨rfl,rfl⟩;exact⟨⟨_,rfl⟩,⟨fr,h,rfl,hl⟩,.refl _ _⟩
theorem Uw(h:TW w V t k D)(frame l:Int)(hl:l<=9223372036854775807):∃r:Int,(-65536<=r/\r<=65536)/\∀q,Calls Tryz.prog 37 #[.pointer (some ⟨t,0,none⟩),.int .i64 frame,.int .i64 l] (w.drewN q) fun e w'=>e=.returned (.int .i64 r)/\∃q',w'=w.drewN q':=by obtain⟨fr,h,rfl,_⟩:=h;refine⟨kg V fr frame l,afd h.ts frame l,fun q=>(afF frame l (h.ts.drewN q) hl).mono ?_⟩;rintro e w' ⟨rfl,q',rfl⟩;exact⟨rfl,q+q',by rw[World.drewN_drewN]⟩
end
abbrev jY:=Bool×Int×Int×Unit
structure eX(w:World)(N:aV)(ov:Value)(L:List jY)(A:Nat->Prop):Prop where
 jb:bR w A V.bD (bX N.d) N.v
 ord:bR w A (.sl V.ae) L ov
theorem kA{w w':World}{D A A':Nat->Prop}(h:ak D w w')(hd:∀b,D b->A b)(ha:∀b,A' b->A b\/w.heap.size<=b):ib w A w' A':=fun b o hb hs=>by have hl:b<w.heap.size:=(aFs.1 hs).1;exact⟨(h.block b hl fun hx=>hb (hd b hx)).trans hs,fun hx=>(ha b hx).elim hb fun h2=>aGl⟩
theorem eX.an{w w':World}{N:aV}{ov:Value}{L:List jY}{D A A':Nat->Prop}(n:eX w N ov L A)(h:ak D w w')(hd:∀b,D b->A b)(ha:∀b,A' b->A b\/w.heap.size<=b):eX w' N ov L A':=⟨n.jb.keep (kA h hd ha),n.ord.keep (kA h hd ha)⟩
section
variable{w:World}{N:aV}{ov:Value}{L:List jY}{A:Nat->Prop}
theorem eX.bw(n:eX w N ov L A):∃M:aV,M.v=N.v/\M.d=N.d/\M.bU w w.heap.size:=by obtain⟨M,h1,h2,h3⟩:=vt n.jb;exact⟨M,h1,by rw[h2,nD],h3⟩
theorem eX.aC(n:eX w N ov L A):Sl w w.heap.size 3 N.Al N.aB.length N.cl (N.aB.flatMap fv.cells):=by
 obtain⟨M,h1,h2,h3⟩:=n.bw;have e1:M.Al=N.Al/\M.cl=N.cl:=by simp[aV.v,aV.fs]at h1;grind
 have e2:M.aB=N.aB:=by simp[aV.d]at h2;grind
 rw[<-e1.1,<-e1.2,<-e2];exact h3.aC
theorem eX.and(n:eX w N ov L A):Sl w w.heap.size 3 N.An N.al.length N.cn (N.al.flatMap ga.cells):=by
 obtain⟨M,h1,h2,h3⟩:=n.bw;have e1:M.An=N.An/\M.cn=N.cn:=by simp[aV.v,aV.fs]at h1;grind
 have e2:M.al=N.al:=by simp[aV.d]at h2;grind
 rw[<-e1.1,<-e1.2,<-e2];exact h3.and
def cD(w:World)(D:Nat->Prop)(a:lc)(l:io):Prop:=∀j,j<l.length->∃b off,a=some ⟨b,off,none⟩/\¬D b/\b<w.heap.size/\w.cell? ⟨b,off+j,none⟩=some (.int .i64 (l.getD j 0))
theorem cD.an{w w':World}{D D':Nat->Prop}{a:lc}{l:io}(h:cD w D a l)(hf:ak D w w')(hd:∀b,D' b->D b\/w.heap.size<=b):cD w' D' a l:=fun j hj=>by obtain⟨b,off,e,h1,h2,h3⟩:=h j hj;exact⟨b,off,e,fun hx=>(hd b hx).elim h1 fun hy=>aGl,ro h2 hf.size,(hf.cell (p:=⟨b,off+j,none⟩) h2 h1).trans h3⟩
theorem PM{w:World}{A:Nat->Prop}:∀{L:io}{X:kw},V.aY (Cs w A .I) L X->∀j,j<L.length->X[j]?=some (.int .i64 (L.getD j 0))
 |[],_,_,j,hj=>by simp at hj|x::L,X,⟨c,r,e,q,t⟩,j,hj=>by have q:c=[.int .i64 x]:=q;subst q;subst e;cases j with|zero=>rfl|succ j=>simpa using PM t j (by simpa using hj)
theorem Fo{w:World}{A:Nat->Prop}{L:io}{a:lc}{n cap:Nat}(h:Cs w A (.sl .I) L [.slice a n cap]):n=L.length/\n<=cap/\cD w A a L:=by obtain⟨a',len,cap',e1,e2,e3,e4⟩:=h;injection e1 with e1 _;injection e1 with q1 q2 q3;subst q1 q2 q3;refine⟨e2,e3,fun j hj=>?_⟩;obtain⟨b,o,X,rfl,r2,r3,c,ty,fr,r4,r5⟩:=e4 (by intro e;rw[show L=[]from e]at hj;simp at hj);refine⟨b,o,rfl,r2,(aFs.1 r4).1,?_⟩;have:=r5 j _ (PM r3 j hj);simp only[World.cell?,r4,aET,GE,aFk];exact this
theorem eX.aht(n:eX w N ov L A):cD w A N.Ai N.bz:=by
 obtain⟨c1,r1,e1,h1,q1⟩:=V.eZ n.jb.1;obtain⟨c2,r2,rfl,h2,q2⟩:=V.eZ q1;obtain⟨V2,rfl,h2⟩:=V.lP h2;have h1:c1=[.int .i64 N.vars]:=h1;subst h1;have e1:[Value.int .i64 N.vars,.slice N.Ai N.bz.length N.ci]++_=[.int .i64 N.vars]++([V2]++r2):=e1;have e2:Value.slice N.Ai N.bz.length N.ci=V2:=by simp at e1;exact e1.1
 subst e2;exact(Fo h2).2.2
theorem eX.mem(n:eX w N ov L A){k:Nat}{m:cS}(hk:N.d.aa[k]?=some m) :
  ∃b off v0 v1 v2 v3 v4,N.Am=some ⟨b,off,none⟩/\k<N.aa.length/\¬A b/\b<w.heap.size/\bR w A V.aj (V.aF m) (.agg #[v0,v1,v2,v3,v4])/\∀j u,[v0,v1,v2,v3,v4][j]?=some u->w.cell? ⟨b,off+(k*5+j),none⟩=some u:=by
 obtain⟨c1,r1,e1,h1,q1⟩:=V.eZ n.jb.1;obtain⟨c2,r2,rfl,h2,q2⟩:=V.eZ q1;obtain⟨c3,r3,rfl,h3,q3⟩:=V.eZ q2;obtain⟨c4,r4,rfl,h4,q4⟩:=V.eZ q3;obtain⟨c5,r5,rfl,h5,q5⟩:=V.eZ q4;obtain⟨c6,r6,rfl,h6,q6⟩:=V.eZ q5;obtain⟨c7,r7,rfl,h7,q7⟩:=V.eZ q6;obtain⟨V2,rfl,_⟩:=V.lP h2;obtain⟨V3,rfl,_⟩:=V.lP h3;obtain⟨V4,rfl,_⟩:=V.lP h4;obtain⟨V5,rfl,_⟩:=V.lP h5;obtain⟨V6,rfl,_⟩:=V.lP h6;obtain⟨V7,rfl,h7⟩:=V.lP h7;have h1:c1=[.int .i64 N.vars]:=h1;subst h1;have e2:Value.slice N.Am N.aa.length N.cm=V7:=by simp[aV.v,aV.fs,Value.cells]at e1;exact e1.2.2.2.2.2.1
 subst e2;obtain⟨a',len,cap',p1,p2,p3,p4⟩:=h7;injection p1 with p1 _;injection p1 with s1 s2 s3;have hne:((bX N.d).2.2.2.2.2.2.1:List V.aj.T)≠[]:=by intro e;have e:N.d.aa.map V.aF=[]:=e;rw[List.map_eq_nil_iff]at e;rw[e]at hk;simp at hk
 obtain⟨b,o,X,t1,t2,t3,c,ty,fr,t4,t5⟩:=p4 hne;have hk2:(N.d.aa.map V.aF)[k]?=some (V.aF m):=by rw[dO,hk];rfl
 obtain⟨cs,u1,u2⟩:=V.aY.get (fun x c=>Cs.length) t3 hk2;have hlen:cs.length=5:=Cs.length u1;have hkl:k<N.aa.length:=by have h1:=(AC.1 hk).1;have h2:N.d.aa.length=N.aa.length:=aR _;omega
 match cs,hlen with
 |[v0,v1,v2,v3,v4],_=>
  refine⟨b,o,v0,v1,v2,v3,v4,by rw[s1,t1],hkl,t2,(aFs.1 t4).1,⟨u1,rfl⟩,fun j u hj=>?_⟩;have hj5:j<5:=by have:=(AC.1 hj).1;simpa using this
  have h2:=u2 j (by show j<V.Sh.size V.aj;exact hj5);rw[show V.Sh.size V.aj=5 from rfl,hj]at h2;have:=t5 _ _ h2;simp only[World.cell?,t4,aET,GE,aFk];exact this
theorem eX.node(n:eX w N ov L A){k:Nat}{x:jY}(hk:L[k]?=some x) :
  ∃b off cap,ov=.slice (some ⟨b,off,none⟩) L.length cap/\w.cell? ⟨b,off+k*3,none⟩=some (.bool x.1)/\w.cell? ⟨b,off+k*3+1,none⟩=some (.int .i64 x.2.1)/\w.cell? ⟨b,off+k*3+2,none⟩=some (.int .i64 x.2.2.1):=by
 obtain⟨h,hag⟩:=n.ord;obtain⟨a,len,cap,e1,e2,e3,e4⟩:=h;have hL:L≠[]:=by rintro rfl;simp at hk
 obtain⟨b,o,X,rfl,q2,q3,c,ty,fr,q4,q5⟩:=e4 hL;obtain⟨cs,r1,r2⟩:=V.aY.get (z:=3) (fun x c h=>Cs.length (σ:=V.ae) h) q3 hk;have hov:ov=.slice (some ⟨b,o,none⟩) len cap:=by cases ov<;>first|(cases hag;done)|(simp[Value.cells]at e1;done)|(simp[Value.cells]at e1 |-;exact e1)
 obtain⟨c0,t0,rfl,k0,r1⟩:=r1;obtain⟨c1,t1,rfl,k1,r1⟩:=r1;obtain⟨c2,t2,rfl,k2,r1⟩:=r1;have k0:c0=[.bool x.1]:=k0;have k1:c1=[.int .i64 x.2.1]:=k1;have k2:c2=[.int .i64 x.2.2.1]:=k2;subst k0 k1 k2;have cell:∀j u,X[j]?=some u->w.cell? ⟨b,o+j,none⟩=some u:=fun j u hj=>by have:=q5 j u hj;simp only[World.cell?,q4,aET,GE,aFk];exact this
 exact⟨b,o,cap,by rw[hov];exact IT (fun n=>Value.slice _ n cap) e2,cell _ _ (r2 0 aGl),by rw[adc];exact cell _ _ (r2 1 aGl),by rw[adc];exact cell _ _ (r2 2 aGl)⟩
end
structure UP where
 u:Nat
 t:Nat
 g:Nat
 Vn:Nat
 N:aV
 Ao:lc
 co:Nat
 L:List jY
 free:Bool
def UP.ov(p:UP):Value:=.slice p.Ao p.L.length p.co
def UP.cells(p:UP):Array Value:=#[.pointer (some ⟨p.t,0,none⟩),.int .i64 p.N.vars,.slice p.N.Ai p.N.bz.length p.N.ci,.slice p.N.Al p.N.aB.length p.N.cl,.slice p.N.Ao p.N.bN.length p.N.co,.slice p.N.Ab p.N.bO.length p.N.cb,.slice p.N.Ac p.N.constraints.length p.N.cc,.slice p.N.Am p.N.aa.length p.N.cm,.slice p.N.An p.N.al.length p.N.cn,.slice p.Ao p.L.length p.co,.pointer (some ⟨p.g,0,none⟩),.bool p.free]
structure UM(w:World)(p:UP)(k V C:Nat)(D Dt Dg:Nat->Prop):Prop where
 bx:af w p.u 78 p.cells
 tb:TW w p.Vn p.t k Dt
 gs:GD w p.g V C Dg
 gZ:∀b,Dt b->¬Dg b
 st:∀b,Dt b->D b
 sg:∀b,Dg b->D b
 nu:¬D p.u
 lt:∀b,D b->b<w.heap.size
 yv:eX w p.N p.ov p.L D
def US(w:World)(p:UP)(k V C:Nat)(D:Nat->Prop):Prop:=∃Dt Dg,UM w p k V C D Dt Dg
def cL(w:World)(p:UP)(k V C dV dC:Nat)(D:Nat->Prop)(w':World):Prop:=∃V' C' D',US w' p k V' C' D'/\V<=V'/\V'<=V+dV/\C<=C'/\C'<=C+dC/\(∀b,D' b->D b\/w.heap.size<=b)/\ak D w w'
section
variable{w w':World}{p:UP}{k k' V C:Nat}{D Dt Dg Dt':Nat->Prop}
theorem UM.EE(h:UM w p k V C D Dt Dg)(hf:ak Dt w w')(ht:TW w' p.Vn p.t k' Dt')(hd:∀b,Dt' b->Dt b\/w.heap.size<=b):∃D',US w' p k' V C D'/\(∀b,D' b->D b\/w.heap.size<=b)/\ak D w w':=by
 have hlt:∀b,Dt' b->b<w'.heap.size:=by obtain⟨_,_,_,h⟩:=ht;exact h
 have hgl:∀b,Dg b->b<w.heap.size:=fun b hb=>h.lt b (h.sg b hb);refine⟨fun b=>D b\/Dt' b,⟨Dt',Dg,⟨hf.cC h.bx fun hx=>h.nu (h.st _ hx),ht,h.gs.an hf fun b hb hx=>h.gZ b hx hb,fun b hb hg=>(hd b hb).elim (fun hx=>h.gZ b hx hg) fun hx=>by have:=hgl b hg;omega,fun b hb=>.inr hb,fun b hb=>.inl (h.sg b hb),fun hx=>hx.elim h.nu fun hx=>(hd _ hx).elim (fun hy=>h.nu (h.st _ hy)) fun hy=>by have:=h.bx.lt;omega,fun b hb=>hb.elim (fun hx=>ro (h.lt b hx) hf.size) (hlt b),h.yv.an hf h.st fun b hb=>hb.elim .inl fun hx=>(hd b hx).imp (h.st b) id⟩⟩,fun b hb=>hb.elim .inl fun hx=>(hd b hx).imp (h.st b) id,hf.mono h.st⟩
theorem UM.yr{dV dC:Nat}(h:UM w p k V C D Dt Dg)(hg:j6 w p.g V C dV dC Dg w'):cL w p k V C dV dC D w':=by
 obtain⟨V',C',D',h1,h2,h3,h4,h5,h6,h7⟩:=hg;have hlt:∀b,D' b->b<w'.heap.size:=by obtain⟨_,_,_,_,_,_,_,h,_⟩:=h1;exact h.lt
 refine⟨V',C',fun b=>D b\/D' b,⟨Dt,D',⟨h7.cC h.bx fun hx=>h.nu (h.sg _ hx),h.tb.an h7 h.gZ,h1,fun b hb hg=>(h6 b hg).elim (h.gZ b hb) fun hx=>by have:=h.lt b (h.st b hb);omega,fun b hb=>.inl (h.st b hb),fun b hb=>.inr hb,fun hx=>hx.elim h.nu fun hx=>(h6 _ hx).elim (fun hy=>h.nu (h.sg _ hy)) fun hy=>by have:=h.bx.lt;omega,fun b hb=>hb.elim (fun hx=>ro (h.lt b hx) h7.size) (hlt b),h.yv.an h7 h.sg fun b hb=>hb.elim .inl fun hx=>(h6 b hx).imp (h.sg b) id⟩⟩,h2,h3,h4,h5,fun b hb=>hb.elim .inl fun hx=>(h6 b hx).imp (h.sg b) id,h7.mono h.sg⟩
theorem US.below(h:US w p k V C D)(hb:Below w.heap.size w w'):US w' p k V C D:=by obtain⟨Dt,Dg,h⟩:=h;have hf:ak (fun _=>False) w w':=.cR hb;exact⟨Dt,Dg,hf.cC h.bx (fun h=>h),h.tb.an hf (fun _ _ h=>h),h.gs.an hf (fun _ _ h=>h),h.gZ,h.st,h.sg,h.nu,fun b hx=>ro (h.lt b hx) hb.size,h.yv.an hf (fun _ h=>h.elim) fun b hx=>.inl hx⟩
theorem US.drew(h:US w p k V C D):US w.drew p k V C D:=h.below (Below.refl _ w).drew
theorem cL.pre{w1:World}{dV dC:Nat}(hb:Below w.heap.size w w1)(h:cL w1 p k V C dV dC D w'):cL w p k V C dV dC D w':=by obtain⟨V',C',D',h1,h2,h3,h4,h5,h6,h7⟩:=h;exact⟨V',C',D',h1,h2,h3,h4,h5,fun b hx=>(h6 b hx).imp id fun hy=>rt hb.size hy,(ak.cR hb).trans h7⟩
theorem cL.same{dV dC:Nat}(h:US w p k V C D)(hb:Below w.heap.size w w'):cL w p k V C dV dC D w':=⟨V,C,D,h.below hb,pi _,aGi _ _,pi _,aGi _ _,fun b hx=>.inl hx,.cR hb⟩
theorem cL.wide{dV dC dV' dC':Nat}(h:cL w p k V C dV dC D w')(h1:dV<=dV')(h2:dC<=dC'):cL w p k V C dV' dC' D w':=by obtain⟨V',C',D',a,b,c,d,e,f⟩:=h;exact⟨V',C',D',a,b,aGl,d,aGl,f⟩
theorem cL.comp{w1 w2:World}{V1 C1 dV dC dV' dC':Nat}{D1:Nat->Prop}(b1:V<=V1)(b2:V1<=V+dV)(b3:C<=C1)(b4:C1<=C+dC)(b5:∀b,D1 b->D b\/w.heap.size<=b)(b6:ak D w w1)(h:cL w1 p k V1 C1 dV' dC' D1 w2):cL w p k V C (dV+dV') (dC+dC') D w2:=by obtain⟨V2,C2,D2,a2,c1,c2,d2,e2,f2,g2⟩:=h;exact⟨V2,C2,D2,a2,aGl,aGl,aGl,aGl,fun b hb=>(f2 b hb).elim (b5 b) fun hx=>.inr (rt b6.size hx),b6.after g2 b5⟩
end
section
variable{w:World}{g V C:Nat}{D:Nat->Prop}
theorem agh(h:GD w g V C D)(hV:V<65536):Calls Tryz.prog 33 #[.pointer (some ⟨g,0,none⟩)] w fun e w'=>e=.returned (.int .i64 ((V+1:Nat):Int))/\j6 w g V C 1 0 D w':=by obtain⟨cs,f,m,rv,Df,n,M,h,rfl⟩:=h;have hlt:=h.lt;refine(Fx h hV).mono ?_;rintro e w' ⟨rfl,h1,h2⟩;exact⟨rfl,V+1,cs.length,D,⟨cs,f,m,rv,Df,n,M,h1,rfl⟩,aGl,pi _,pi _,pi _,fun b hb=>.inl hb,h2.mono h.sub⟩
theorem Qy(h:GD w g V C D):Calls Tryz.prog 76 #[.pointer (some ⟨g,0,none⟩)] w fun e w'=>e=.returned (.int .i64 1)/\w=w':=by obtain⟨cs,f,m,rv,Df,n,M,h,rfl⟩:=h;exact ahp h
theorem ahr(h:GD w g V C D):Calls Tryz.prog 35 #[.pointer (some ⟨g,0,none⟩)] w fun e w'=>e=.returned (.bool false)/\w=w':=by obtain⟨cs,f,m,rv,Df,n,M,h,rfl⟩:=h;exact ahm h
end
section
variable{w:World}{p:UP}{k V C:Nat}{D:Nat->Prop}
theorem Qf(h:US w p k V C D)(hV:V<65536):Calls Tryz.prog 33 #[.pointer (some ⟨p.g,0,none⟩)] w fun e w'=>(∃r:Int,e=.returned (.int .i64 r))/\cL w p k V C 1 0 D w':=by obtain⟨Dt,Dg,h⟩:=h;refine(agh h.gs hV).mono ?_;rintro e w' ⟨rfl,h1⟩;exact⟨⟨_,rfl⟩,h.yr h1⟩
theorem zZ(h:US w p k V C D)(frame v l:Int):Calls Tryz.prog 39 #[.pointer (some ⟨p.t,0,none⟩),.int .i64 frame,.int .i64 v,.int .i64 l] w fun e w'=>(∃b,e=.returned (.bool b))/\cL w p k V C 0 0 D w':=by obtain⟨Dt,Dg,h⟩:=h;refine(arl h.tb frame v l).mono ?_;rintro e w' ⟨⟨b,rfl⟩,h1,h2⟩;obtain⟨D',a,b2,c⟩:=h.EE h2 h1 fun b hb=>.inl hb;exact⟨⟨b,rfl⟩,V,C,D',a,pi _,pi _,pi _,pi _,b2,c⟩
theorem US.box(h:US w p k V C D):af w p.u 78 p.cells:=by obtain⟨_,_,h⟩:=h;exact h.bx
theorem US.gd(h:US w p k V C D):∃Dg,GD w p.g V C Dg:=by obtain⟨_,Dg,h⟩:=h;exact⟨Dg,h.gs⟩
theorem US.lN(h:US w p k V C D):eX w p.N p.ov p.L D:=by obtain⟨_,_,h⟩:=h;exact h.yv
theorem US.lt(h:US w p k V C D):∀b,D b->b<w.heap.size:=by obtain⟨_,_,h⟩:=h;exact h.lt
end
set_option maxHeartbeats 1000000
theorem ah9{w:World}{p:UP}{k V C:Nat}{D:Nat->Prop}(l:fv)(h:US w p k V C D)(hV:V<65536) :
  Calls Tryz.prog 38 #[.pointer (some ⟨p.u,0,none⟩),.agg #[.int .i64 l.var,.int .i64 l.next,.int .i64 l.init]] w fun e w'=>(∃r:Int,e=.returned (.int .i64 r))/\cL w p k V C 1 0 D w':=by
 obtain⟨W,hW⟩:∃W,W=w.alloc (.cells #[.int .i64 l.var,.int .i64 l.next,.int .i64 l.init] 85):=⟨_,rfl⟩;have hb:Below w.heap.size w W:=by rw[hW];exact(Below.refl _ w).alloc (pi _) _
 have hU:=h.below hb;obtain⟨Dg,hgd⟩:=hU.gd;have b4:=h.box.cell 11;have b3:=h.box.cell 10;have hul:=h.box.lt;simp only[UP.cells,pp,rg,pm]at b3 b4;have hfr:=Qf hU hV;have htr:=Qy hgd;have HU:=Lib.hid hU;have HB:=Lib.hid hb;have HH:=Lib.hid h;have HW:=Lib.hid hW;clear h hb hU hgd hW;generalize l.init=i at *
 generalize p.free=fr at *
 rcases fr with _|_
 .rcases(show i=2\/(i≠2/\i=1)\/(i≠2/\i≠1) by omega)with h1|⟨h1,h2⟩|⟨h1,h2⟩
  .have d1:(i == 2)=true:=aFc.2 h1;clear h1
   go_enter Tryz.func38,Tryz.ntmps38
   go_wp2_with fail
   rw[<-HW.out];clear HW;refine hfr.mono ?_;rintro e w' ⟨⟨r,rfl⟩,hm⟩;have HM:=Lib.hid hm;clear hm hfr htr
   go_wp2_with fail
   go_ret
   exact⟨⟨r,rfl⟩,HM.out.pre HB.out⟩
  .have d1:(i == 2)=false:=pu.2 h1;have d2:(i == 1)=true:=aFc.2 h2;clear h1 h2
   go_enter Tryz.func38,Tryz.ntmps38
   go_wp2_with fail
   rw[<-HW.out];clear HW;refine htr.mono ?_;rintro e w' ⟨rfl,rfl⟩
   go_wp2_with fail
   go_ret
   exact⟨⟨_,rfl⟩,.same HH.out HB.out⟩
  .have d1:(i == 2)=false:=pu.2 h1;have d2:(i == 1)=false:=pu.2 h2;clear h1 h2
   go_enter Tryz.func38,Tryz.ntmps38
   go_wp2_with fail
   rw[<-HW.out];clear HW;refine htr.mono ?_;rintro e w' ⟨rfl,rfl⟩
   go_wp2_with fail
   go_ret
   exact⟨⟨_,rfl⟩,.same HH.out HB.out⟩
 .go_enter Tryz.func38,Tryz.ntmps38
  go_wp2_with fail
  rw[<-HW.out];clear HW;refine hfr.mono ?_;rintro e w' ⟨⟨r,rfl⟩,hm⟩;have HM:=Lib.hid hm;clear hm hfr htr
  go_wp2_with fail
  go_ret
  exact⟨⟨r,rfl⟩,HM.out.pre HB.out⟩
theorem FA{w:World}{p:UP}{k V C:Nat}{D:Nat->Prop}(h:US w p k V C D):Calls Tryz.prog 34 #[.pointer (some ⟨p.u,0,none⟩)] w fun e w'=>e=.returned (.int .i64 k)/\w=w':=by
 have b0:=h.box.cell 0;simp only[UP.cells,pp,pm]at b0;have h1:Calls Tryz.prog 73 #[.pointer (some ⟨p.t,0,none⟩)] w fun e w'=>e=.returned (.int .i64 k)/\w=w':=by obtain⟨Dt,Dg,h⟩:=h;exact afG h.tb
 clear h
 go_enter Tryz.func34,Tryz.ntmps34
 go_wp2_with fail
 refine h1.mono ?_;rintro e w' ⟨rfl,rfl⟩
 go_wp2_with fail
 go_ret
 exact⟨rfl,rfl⟩
set_option maxHeartbeats 2000000
theorem Qg{w:World}{p:UP}{k V C n cap:Nat}{D:Nat->Prop}{A:lc}(frame:Int)(l:io)(h:US w p k V C D)(hn:n=l.length)(hV:V+n<=65536)(hS:cD w D A l) :
  Calls Tryz.prog 40 #[.pointer (some ⟨p.u,0,none⟩),.int .i64 frame,.slice A n cap] w fun e w'=>e=.returned (.tuple #[])/\cL w p k V C n 0 D w':=by
 have HH:=Lib.hid h;have HS:=Lib.hid hS;have HN:=Lib.hid hn;have hul:=h.box.lt;clear h hS hn
 go_enter Tryz.func40,Tryz.ntmps40
 go_wp2_with fail
 go_loopw [10] (fun i wr=>∃j:Nat,j<=n/\i=.int .i64 j/\Hid (cL w p k V C j 0 D wr)) (fun i _=>n-(intOf i).toNat)
 case atStart=>exact⟨0,AI _,rfl,Lib.hid (.same HH.out (Below.refl _ _))⟩
 case round=>
  obtain⟨j,hj,rfl,hI⟩:=hrel;by_cases hlt:j<n
  .obtain⟨V1,C1,D1,hU,b1,b2,b3,b4,b5,b6⟩:=hI.out;obtain⟨b,off,rfl,_,_,hc⟩:=(HS.out.an b6 b5) j (by rw[<-HN.out];exact hlt);have c0:=hU.drew.box.cell 0;have qd:=hU.drew.box.cell 10;simp only[UP.cells,pp,rg,pm]at c0 qd;generalize l.getD j 0=v at hc;have HF:=Lib.hid (Qf (w:=wr.drew) hU.drew aGl);have HU:=Lib.hid hU;have B1:=Lib.hid b1;have B2:=Lib.hid b2;have B3:=Lib.hid b3;have B4:=Lib.hid b4;have B5:=Lib.hid b5;have B6:=Lib.hid b6;clear hI hU b1 b2 b3 b4 b5 b6
   go_wp2_with fail
   go_region_law (first
    |(go_simp;go_at_call 33;refine HF.out.mono ?_;rintro e w2 ⟨⟨r,rfl⟩,hm2⟩;have x0:w2.cell? ⟨p.u,0,none⟩=some (.pointer (some ⟨p.t,0,none⟩)):=(by obtain⟨_,_,_,hU9,_⟩:=hm2;have:=hU9.box.cell 0;simpa only[UP.cells,pp,pm]using this);obtain⟨V2,C2,D2,hU2,m1,m2,m3,m4,m5,m6⟩:=hm2;have HU2:=Lib.hid hU2;have M1:=Lib.hid m1;have M2:=Lib.hid m2;have M3:=Lib.hid m3;have M4:=Lib.hid m4;have M5:=Lib.hid m5;have M6:=Lib.hid m6;clear hU2 m1 m2 m3 m4 m5 m6)
    |(go_simp;go_at_call 39;refine(zZ HU2.out _ _ _).mono ?_;rintro e w3 ⟨⟨bb,rfl⟩,hm3⟩;have HM3:=Lib.hid hm3;clear hm3))
   all_goals (
    go_wp2_with fail
    go_roundw
    case rel=>exact⟨j+1,aGl,by go_num,Lib.hid (.comp B1.out B2.out B3.out B4.out B5.out B6.out (.pre (Below.refl _ wr).drew (.comp M1.out M2.out M3.out M4.out M5.out M6.out HM3.out)))⟩
    case measure=>simp[intOf];omega)
  .obtain rfl:j=n:=aGl
   go_wp2_with fail
   exact⟨rfl,.tuple #[],results_none rfl _ _ _,rfl,hI.out⟩
def zD(n:aZ)(x:jY)(dv dc:Nat):Prop:=
 (x.1=false/\∃(i:Nat) (a:ga),x.2.2.1=(i:Int)/\n.al[i]?=some a/\dv=1/\dc=3) \/
 (x.1=true/\∃(mi i:Nat) (m:cS) (r:gr),x.2.1=(mi:Int)/\x.2.2.1=(i:Int)/\n.aa[mi]?=some m/\m.reads[i]?=some r/\(0<=m.word/\m.word<=4000)/\(-1099511627776<=r.var/\r.var<=1099511627776)/\dv=m.word.toNat/\dc=0)
structure LF(p:UP)(f:jY->Nat×Nat):Prop where
 node:∀x∈p.L,zD p.N.d x (f x).1 (f x).2
 Cf:p.N.aB.length+p.N.bz.length+(p.L.map fun x=>(f x).1).sum<=p.Vn
 Zy:(p.L.map fun x=>(f x).2).sum<=3*p.N.al.length
 vn:p.Vn<=2000
 aC:∀l∈p.N.aB,l.next<=9223372036854775807
 and:∀a∈p.N.al,a.a<=9223372036854775807/\a.b<=9223372036854775807
 many:p.L.length<=100000/\p.N.aB.length<=100000
theorem US.c0{w:World}{p:UP}{k V C:Nat}{D:Nat->Prop}(h:US w p k V C D):w.cell? ⟨p.u,0,none⟩=some (.pointer (some ⟨p.t,0,none⟩)):=by have:=h.box.cell 0;simpa only[UP.cells,pp,pm]using this
theorem US.qd{w:World}{p:UP}{k V C:Nat}{D:Nat->Prop}(h:US w p k V C D):w.cell? ⟨p.u,10,none⟩=some (.pointer (some ⟨p.g,0,none⟩)):=by have:=h.box.cell 10;simpa only[UP.cells,pp,rg,pm]using this
theorem US.c2{w:World}{p:UP}{k V C:Nat}{D:Nat->Prop}(h:US w p k V C D):w.cell? ⟨p.u,2,none⟩=some (.slice p.N.Ai p.N.bz.length p.N.ci):=by have:=h.box.cell 2;simpa only[UP.cells,pp,rg,pm]using this
theorem US.c3{w:World}{p:UP}{k V C:Nat}{D:Nat->Prop}(h:US w p k V C D):w.cell? ⟨p.u,3,none⟩=some (.slice p.N.Al p.N.aB.length p.N.cl):=by have:=h.box.cell 3;simpa only[UP.cells,pp,rg,pm]using this
theorem US.c7{w:World}{p:UP}{k V C:Nat}{D:Nat->Prop}(h:US w p k V C D):w.cell? ⟨p.u,7,none⟩=some (.slice p.N.Am p.N.aa.length p.N.cm):=by have:=h.box.cell 7;simpa only[UP.cells,pp,rg,pm]using this
theorem US.c8{w:World}{p:UP}{k V C:Nat}{D:Nat->Prop}(h:US w p k V C D):w.cell? ⟨p.u,8,none⟩=some (.slice p.N.An p.N.al.length p.N.cn):=by have:=h.box.cell 8;simpa only[UP.cells,pp,rg,pm]using this
theorem US.c9{w:World}{p:UP}{k V C:Nat}{D:Nat->Prop}(h:US w p k V C D):w.cell? ⟨p.u,9,none⟩=some (.slice p.Ao p.L.length p.co):=by have:=h.box.cell 9;simpa only[UP.cells,pp,rg,pm]using this
theorem US.lit{w:World}{p:UP}{k V C:Nat}{D:Nat->Prop}(h:US w p k V C D)(frame l:Int)(hl:l<=9223372036854775807):∃r:Int,(-65536<=r/\r<=65536)/\∀q,Calls Tryz.prog 37 #[.pointer (some ⟨p.t,0,none⟩),.int .i64 frame,.int .i64 l] (w.drewN q) fun e w'=>e=.returned (.int .i64 r)/\∃q',w'=w.drewN q':=by obtain⟨Dt,Dg,h⟩:=h;exact Uw h.tb frame l hl
theorem US.full{w:World}{p:UP}{k V C:Nat}{D:Nat->Prop}(h:US w p k V C D):Calls Tryz.prog 35 #[.pointer (some ⟨p.g,0,none⟩)] w fun e w'=>e=.returned (.bool false)/\w=w':=by obtain⟨Dt,Dg,h⟩:=h;exact ahr h.gs
def afO(w:World)(p:UP)(k V C:Nat)(D:Nat->Prop)(w1:World):Prop:=∃D1,US w1 p (k+1) V C D1/\(∀b,D1 b->D b\/w.heap.size<=b)/\ak D w w1
theorem aEP{w:World}{p:UP}{k V C:Nat}{D:Nat->Prop}(h:US w p k V C D)(hk:k<1000000):Calls Tryz.prog 36 #[.pointer (some ⟨p.t,0,none⟩)] w fun e w'=>e=.returned (.int .i64 k)/\afO w p k V C D w':=by obtain⟨Dt,Dg,h⟩:=h;refine(ah6 h.tb hk).mono ?_;rintro e w' ⟨rfl,⟨D',h1,h2⟩,h3⟩;exact⟨rfl,h.EE h3 h1 h2⟩
theorem arn{w:World}{p:UP}{k V C:Nat}{D:Nat->Prop}(a b:Int)(h:US w p k V C D)(hC:C<999990)(hV:V<65536)(ha:-65536<=a/\a<=65536)(hb:-65536<=b/\b<=65536) :
  Calls Tryz.prog 42 #[.pointer (some ⟨p.g,0,none⟩),.int .i64 a,.int .i64 b] w fun e w'=>(∃r:Int,e=.returned (.int .i64 r))/\cL w p k V C 1 3 D w':=by
 obtain⟨Dt,Dg,h⟩:=h;refine(QU a b h.gs hC hV ha hb).mono ?_;rintro e w' ⟨⟨r,hr,_⟩,h1⟩;exact⟨⟨r,hr⟩,h.yr h1⟩
theorem P5{α:Type}{L:List α}{j:Nat}{x:α}(h:L[j]?=some x)(g:α->Nat):((L.take (j+1)).map g).sum=((L.take j).map g).sum+g x:=by rw[aGf,h];simp
theorem zz{α:Type}(L:List α)(j:Nat)(g:α->Nat):((L.take j).map g).sum<=(L.map g).sum:=by
 conv=>rhs;rw[<-FS j L]
 rw[dE,aEW];omega
theorem Ux{w:World}{D:Nat->Prop}{m:cS}{i:Nat}{r:gr}{v:Value}(hD:∀b,D b->b<w.heap.size)(hd:V.bR w D V.aj (V.aF m) v)(hr:m.reads[i]?=some r)(hw:0<=m.word/\m.word<=4000)(hv:-1099511627776<=r.var/\r.var<=1099511627776) :
  Calls Tryz.prog 41 #[v,.int .i64 (i:Int)] w fun e w'=>∃A cap l,e=.returned (.slice A m.word.toNat cap)/\Below w.heap.size w w'/\l.length=m.word.toNat/\cD w' D A l:=by
 have h:=V.Ko.ok.2 (V.aF m,(i:Int),()) _ (V.Hb m i r hr hw hv) w D [v,.int .i64 (i:Int)] hD ⟨v,_,rfl,hd,.int .i64 (i:Int),[],rfl,⟨rfl,rfl⟩,rfl⟩;refine h.mono ?_;rintro e w' ⟨vs,rfl,hb,v1,vs1,rfl,⟨h1,h2⟩,h3⟩;have h3:vs1=[]:=h3;subst h3;obtain⟨a,len,cap,e1,e2,e3,e4⟩:=h1;have hv1:v1=.slice a len cap:=by cases v1<;>first|(cases h2;done)|(simp[Value.cells]at e1;done)|(simp[Value.cells]at e1 |-;exact e1)
 subst hv1;have hl:(cQ r.var m.word.toNat).length=m.word.toNat:=by simp[cQ]
 obtain⟨q1,q2,q3⟩:=Fo (A:=D) (L:=cQ r.var m.word.toNat) (a:=a) (n:=len) (cap:=cap) ⟨a,len,cap,rfl,e2,e3,e4⟩;exact⟨a,cap,cQ r.var m.word.toNat,by rw[q1,hl];rfl,hb,hl,q3⟩
set_option maxHeartbeats 4000000
set_option maxRecDepth 20000
theorem aro{w:World}{p:UP}{k V C:Nat}{D:Nat->Prop}{f:jY->Nat×Nat}(h:US w p k V C D)(ok:LF p f)(hk:k<42)(hV:V+p.Vn<=65535)(hC:C+3*p.N.al.length<990000) :
  Calls Tryz.prog 17 #[.pointer (some ⟨p.u,0,none⟩)] w fun e w'=>e=.returned (.int .i64 0)/\∃V' C' D',US w' p (k+1) V' C' D'/\V<=V'/\V'<=V+p.Vn/\C<=C'/\C'<=C+3*p.N.al.length/\(∀b,D' b->D b\/w.heap.size<=b)/\ak D w w':=by
 have h1:=FA h;have hf:=h.full;have ht:=aEP h aGl;have c0:=h.c0;have qd:=h.qd;have hk42:((k:Int) == 42)=false:=pu.2 aGl;have HH:=Lib.hid h;have OK:=Lib.hid ok;clear h ok
 go_enter Tryz.func17,Tryz.ntmps17
 go_wp2_with fail
 go_step3
 go_wp2_with fail
 refine h1.mono ?_;rintro e w' ⟨rfl,rfl⟩
 go_wp2_with fail
 refine hf.mono ?_;rintro e w' ⟨rfl,rfl⟩
 go_wp2_with fail
 refine ht.mono ?_;rintro e w1 ⟨rfl,D1,h2,d2,f2⟩;have e0:=h2.c0;have e3:=h2.c3;obtain⟨Al,hAl⟩:∃Al,Al=p.N.Al:=⟨_,rfl⟩;obtain⟨nl,hnl⟩:∃nl,nl=p.N.aB.length:=⟨_,rfl⟩;rw[<-hAl,<-hnl]at e3;have HAl:=Lib.hid hAl;have HNl:=Lib.hid hnl;have hnlb:nl<=100000:=by have:=OK.out.many.2;omega
 have H2:=Lib.hid h2;have D2:=Lib.hid d2;have F2:=Lib.hid f2;clear h2 d2 f2 h1 hf ht hAl hnl
 go_wp2_with fail
 go_loopw [41] (fun i wr=>∃j:Nat,j<=nl/\i=.int .i64 j/\Hid (cL w1 p (k+1) V C j 0 D1 wr)) (fun i _=>nl-(intOf i).toNat)
 case atStart=>exact⟨0,AI _,rfl,Lib.hid (.same H2.out (Below.refl _ _))⟩
 case round=>
  obtain⟨j,hj,rfl,hI⟩:=hrel;by_cases hlt:j<nl
  .obtain⟨V1,C1,D3,hU,b1,b2,b3,b4,b5,b6⟩:=hI.out;obtain⟨b,off,x,hA,_,_,hxm,hc⟩:=Sl.elem hU.lN.aC aGl (fun x=>rfl) (k:=j) (by rw[<-HNl.out];exact hlt);rw[<-HAl.out]at hA;obtain rfl:=hA;obtain⟨l0,l1,l2⟩:=fv.at_ hc;have hx1:=OK.out.aC x hxm;obtain⟨W,hW⟩:∃W,W=wr.alloc (.cells #[.int .i64 x.var,.int .i64 x.next,.int .i64 x.init] 85):=⟨_,rfl⟩;have hbW:Below wr.heap.size wr W:=by rw[hW];exact(Below.refl _ wr).alloc (pi _) _
   have hUW:=hU.below hbW;have hx:af W wr.heap.size 85 #[.int .i64 x.var,.int .i64 x.next,.int .i64 x.init]:=by rw[hW];exact af.new wr _ _
   have hxD:¬D3 wr.heap.size:=fun hx=>Or _ (hU.lt _ hx);have hfi:=ah9 x hUW (by have:=OK.out.Cf;have:=HNl.out;omega);obtain⟨rl,_,hli⟩:=hUW.lit ((k:Int)-1) x.next hx1;have hli:=hli 0;have HBW:=Lib.hid hbW;have HX:=Lib.hid hx;have HXD:=Lib.hid hxD;have HUW:=Lib.hid hUW;have HW:=Lib.hid hW;have B1:=Lib.hid b1;have B2:=Lib.hid b2;have B3:=Lib.hid b3;have B4:=Lib.hid b4;have B5:=Lib.hid b5;have B6:=Lib.hid b6;clear hI hU b1 b2 b3 b4 b5 b6 hbW hx hxD hUW hW hc hxm hx1 e0 e3;have step:∀(r:Int) (w2:World),cL W p (k+1) V1 C1 1 0 D3 w2->Hid (∃V2 C2 D4,US w2 p (k+1) V2 C2 D4/\(w2.drew.cell? ⟨wr.heap.size,0,none⟩=some (.int .i64 x.var))/\∀w3,cL w2 p (k+1) V2 C2 0 0 D4 w3->cL w1 p (k+1) V C (j+1) 0 D1 w3):=fun r w2 hm=>by obtain⟨V2,C2,D4,hU2,m1,m2,m3,m4,m5,m6⟩:=hm;refine Lib.hid ⟨V2,C2,D4,hU2,?_,fun w3 h3=>.comp B1.out B2.out B3.out B4.out B5.out B6.out (.pre HBW.out (.comp m1 m2 m3 m4 m5 m6 h3))⟩;have:=(m6.cC HX.out HXD.out).cell 0;simpa using this
   have STEP:=Lib.hid step;clear step;by_cases hk0:k=0
   .have hk0':((k:Int) == 0)=true:=aFc.2 aGl;clear hli hk0
    go_wp2_with fail
    rw[<-HW.out];clear HW;refine hfi.mono ?_;rintro e w2 ⟨⟨r,rfl⟩,hm⟩;obtain⟨V2,C2,D4,hU2,hv,hg⟩:=(STEP.out r w2 hm).out;have c0':=hU2.drew.c0;have HU2:=Lib.hid hU2;have HG:=Lib.hid hg;clear hfi hm hU2 hg STEP
    go_wp2_with fail
    go_still_tail 8,aGm
    change wpList _ _ _ _ _ w2.drew
    go_wp2_with fail
    refine(zZ HU2.out.drew _ _ _).mono ?_;rintro e w3 ⟨⟨bb,rfl⟩,h3⟩;have H3:=Lib.hid h3;clear h3
    go_wp2_with fail
    go_roundw
    case rel=>exact⟨j+1,aGl,by go_num,Lib.hid (HG.out w3 (.pre (Below.refl _ w2).drew H3.out))⟩
    case measure=>simp[intOf];omega
   .have hk0':((k:Int) == 0)=false:=pu.2 aGl;clear hfi hk0
    go_wp2_with fail
    rw[<-HW.out];clear HW;refine hli.mono ?_;rintro e w2 ⟨rfl,q,rfl⟩;obtain⟨V2,C2,D4,hU2,hv,hg⟩:=(STEP.out rl (W.drewN q) (.same HUW.out (below_drewN (Below.refl _ W) q))).out;have c0':=hU2.drew.c0;have HU2:=Lib.hid hU2;have HG:=Lib.hid hg;obtain⟨w2,hw2⟩:∃w2,w2=W.drewN q:=⟨_,rfl⟩;rw[<-hw2]at HU2 HG c0' hv |-;clear hli hU2 hg STEP hw2
    go_wp2_with fail
    go_still_tail 8,aGm
    change wpList _ _ _ _ _ w2.drew
    go_wp2_with fail
    refine(zZ HU2.out.drew _ _ _).mono ?_;rintro e w3 ⟨⟨bb,rfl⟩,h3⟩;have H3:=Lib.hid h3;clear h3
    go_wp2_with fail
    go_roundw
    case rel=>exact⟨j+1,aGl,by go_num,Lib.hid (HG.out w3 (.pre (Below.refl _ w2).drew H3.out))⟩
    case measure=>simp[intOf];omega
  .obtain rfl:j=nl:=aGl
   obtain⟨V1,C1,D3,hU,b1,b2,b3,b4,b5,b6⟩:=hI.out;have e2:=hU.c2;have aU:=Qg (cap:=p.N.ci) (k:Int) p.N.bz hU rfl (by have:=OK.out.Cf;have:=HNl.out;omega) hU.lN.aht;have B1:=Lib.hid b1;have B2:=Lib.hid b2;have B3:=Lib.hid b3;have B4:=Lib.hid b4;have B5:=Lib.hid b5;have B6:=Lib.hid b6;clear hI hU b1 b2 b3 b4 b5 b6 e0 e3
   go_wp2_with fail
   refine aU.mono ?_;rintro e w2 ⟨rfl,hm⟩;have hm2:cL w1 p (k+1) V C (j+p.N.bz.length) 0 D1 w2:=.comp B1.out B2.out B3.out B4.out B5.out B6.out hm;obtain⟨V2,C2,D4,hU2,_⟩:=hm;have e9:=hU2.c9;obtain⟨Ao,hAo⟩:∃Ao,Ao=p.Ao:=⟨_,rfl⟩;obtain⟨no,hno⟩:∃no,no=p.L.length:=⟨_,rfl⟩;rw[<-hAo,<-hno]at e9;have hnob:no<=100000:=by have:=OK.out.many.1;omega
   have HAo:=Lib.hid hAo;have HNo:=Lib.hid hno;have HM2:=Lib.hid hm2;clear aU hU2 hm2 hAo hno B1 B2 B3 B4 B5 B6 e2
   go_wp2_with fail
   go_step3
   go_wp2_with fail
   obtain⟨ni,hni⟩:∃ni,ni=p.N.bz.length:=⟨_,rfl⟩;rw[<-hni]at HM2;have HNi:=Lib.hid hni;clear hni
   go_loopw [79] (fun i wr=>∃q:Nat,q<=no/\i=.int .i64 q/\Hid (cL w1 p (k+1) V C (j+ni+((p.L.take q).map fun x=>(f x).1).sum) ((p.L.take q).map fun x=>(f x).2).sum D1 wr)) (fun i _=>no-(intOf i).toNat)
   case atStart=>exact⟨0,AI _,rfl,Lib.hid (by simpa using HM2.out)⟩
   case round=>
    obtain⟨q,hq,rfl,hI⟩:=hrel;by_cases hlt:q<no
    .obtain⟨V3,C3,D5,hU,b1,b2,b3,b4,b5,b6⟩:=hI.out;have hql:q<p.L.length:=by rw[<-HNo.out];exact hlt
     have hx:p.L[q]?=some p.L[q]:=bF hql;have hn:=OK.out.node _ (EQ hql);have sv:((p.L.take (q+1)).map fun x=>(f x).1).sum=((p.L.take q).map fun x=>(f x).1).sum+(f p.L[q]).1:=P5 hx fun x=>(f x).1;have sc:((p.L.take (q+1)).map fun x=>(f x).2).sum=((p.L.take q).map fun x=>(f x).2).sum+(f p.L[q]).2:=P5 hx fun x=>(f x).2;have tv:=zz p.L (q+1) fun x=>(f x).1;have tc:=zz p.L (q+1) fun x=>(f x).2;obtain⟨b,off,cap,hov,n0,n1,n2⟩:=hU.lN.node hx;generalize p.L[q]=x at hx hn sv sc n0 n1 n2;have hAo:p.Ao=some ⟨b,off,none⟩:=by unfold UP.ov at hov;injection hov
     rw[<-HAo.out]at hAo;obtain rfl:=hAo;obtain⟨rd,mm,pos,un⟩:=x;dsimp only at n0 n1 n2;have sV:=OK.out.Cf;have sC:=OK.out.Zy;have hnl:=HNl.out;have hni:=HNi.out;obtain⟨sv0,hsv0⟩:∃s,s=((p.L.take q).map fun x=>(f x).1).sum:=⟨_,rfl⟩;obtain⟨sc0,hsc0⟩:∃s,s=((p.L.take q).map fun x=>(f x).2).sum:=⟨_,rfl⟩;rw[<-hsv0]at sv b2;rw[<-hsc0]at sc b4;have hV3:V3+(f (rd,mm,pos,un)).1<=65535:=aGl
     have hC3:C3+(f (rd,mm,pos,un)).2<990000:=aGl
     have fin:∀w9,cL wr p (k+1) V3 C3 (f (rd,mm,pos,un)).1 (f (rd,mm,pos,un)).2 D5 w9->cL w1 p (k+1) V C (j+ni+((p.L.take (q+1)).map fun x=>(f x).1).sum) ((p.L.take (q+1)).map fun x=>(f x).2).sum D1 w9:=fun w9 h9=>by have:=cL.comp b1 b2 b3 b4 b5 b6 h9;rw[sv,sc,<-adc];exact this
     have FIN:=Lib.hid fin;have hn':zD p.N.d (rd,mm,pos,un) (f (rd,mm,pos,un)).1 (f (rd,mm,pos,un)).2:=hn;generalize (f (rd,mm,pos,un)).1=dv at *
     generalize (f (rd,mm,pos,un)).2=dc at *
     obtain⟨W,hW⟩:∃W,W=wr.alloc (.cells #[.bool rd,.int .i64 mm,.int .i64 pos] 90):=⟨_,rfl⟩;have hbW:Below wr.heap.size wr W:=by rw[hW];exact(Below.refl _ wr).alloc (pi _) _
     have hUW:=hU.below hbW;have hWs:W.heap.size=wr.heap.size+1:=by rw[hW];simp
     have hxb:af W wr.heap.size 90 #[.bool rd,.int .i64 mm,.int .i64 pos]:=by rw[hW];exact af.new wr _ _
     have hxD:¬D5 wr.heap.size:=fun hx=>Or _ (hU.lt _ hx);have HU:=Lib.hid hU;have HUW:=Lib.hid hUW;have HBW:=Lib.hid hbW;have HXB:=Lib.hid hxb;have HXD:=Lib.hid hxD;have HW:=Lib.hid hW;have HWS:=Lib.hid hWs;clear hI hU b1 b2 b3 b4 b5 b6 hx hn sv sc tv tc hov sV sC hnl hni hsv0 hsc0 fin hbW hUW hWs hxb hxD hW;rcases hn' with⟨hr,i,a,hi,ha,rfl,rfl⟩|⟨hr,mi,i,m,r,hmi,hi,hm,hr2,hw,hv,rfl,rfl⟩
     .obtain rfl:rd=false:=hr;obtain rfl:pos=(i:Int):=hi;have e8:=HUW.out.drew.c8;have x2:=HXB.out.drew.cell 2;have hil:i<p.N.al.length:=(AC.1 ha).1;obtain⟨b8,o8,y,hA8,hb8,hy,_,hc8⟩:=Sl.elem HUW.out.drew.lN.and aGl (fun x=>rfl) hil;have ha':p.N.al[i]?=some a:=ha;rw[ha']at hy;injection hy with hy;subst hy;have hAND:=OK.out.and a (ep ha');rw[hA8]at e8;obtain⟨y0,y1,y2⟩:=ga.at_ hc8;obtain⟨na,hna⟩:∃na,na=p.N.al.length:=⟨_,rfl⟩;rw[<-hna]at hil e8;have HNa:=Lib.hid hna;have hil2:(i:Int)<(na:Int):=aGl
      have hul:p.u<W.heap.size:=HUW.out.box.lt;have hws2:wr.heap.size<W.heap.size:=by have:=HWS.out;omega
      have hb82:b8<W.heap.size:=hb8;have e8a:=(World.cell?_alloc_lt W (.cells #[.int .i64 0,.int .i64 0,.int .i64 0] 93) ⟨p.u,8,none⟩ hul).trans e8;have x2a:=(World.cell?_alloc_lt W (.cells #[.int .i64 0,.int .i64 0,.int .i64 0] 93) ⟨wr.heap.size,2,none⟩ hws2).trans x2;have y0a:=(World.cell?_alloc_lt W (.cells #[.int .i64 0,.int .i64 0,.int .i64 0] 93) ⟨b8,o8+i*3,none⟩ hb82).trans y0;have y1a:=(World.cell?_alloc_lt W (.cells #[.int .i64 0,.int .i64 0,.int .i64 0] 93) ⟨b8,o8+i*3+1,none⟩ hb82).trans y1;have y2a:=(World.cell?_alloc_lt W (.cells #[.int .i64 0,.int .i64 0,.int .i64 0] 93) ⟨b8,o8+i*3+2,none⟩ hb82).trans y2;clear hna hc8 ha hA8
      go_wp2_with fail
      rw[<-HW.out];clear HW
      go_region
      clear e8 e8a x2 x2a y0 y0a y1 y1a y2 y2a;obtain⟨W2,hW2⟩:∃W2,W2=(W.alloc (.cells #[.int .i64 a.var,.int .i64 a.a,.int .i64 a.b] 93)).drew:=⟨_,rfl⟩;have hb2:Below W.heap.size W W2:=by rw[hW2];exact((Below.refl _ W).alloc (pi _) _).drew
      have hyb:af W2 W.heap.size 93 #[.int .i64 a.var,.int .i64 a.a,.int .i64 a.b]:=by rw[hW2];exact(af.new W _ _).drew
      have hU2:=HUW.out.below hb2;have hyD:¬D5 W.heap.size:=fun hx=>Or _ (HUW.out.lt _ hx);have s0:=hU2.drew.c0;have s1:=hU2.drew.qd;have s2:=hyb.drew.cell 0;have s3:=hyb.drew.cell 1;have s4:=hyb.drew.cell 2;simp only[pp,rg,pm]at s2 s3 s4;obtain⟨ra,hra,hla⟩:=hU2.drew.lit (k:Int) a.a hAND.1;obtain⟨rb,hrb,hlb⟩:=hU2.drew.lit (k:Int) a.b hAND.2;have han:=fun q=>arn ra rb (hU2.drew.below (w':=W2.drew.drewN q) (below_drewN (Below.refl _ _) q)) aGl aGl hra hrb;have hst:∀q r w4,cL (W2.drew.drewN q) p (k+1) V3 C3 1 3 D5 w4->Hid (∃V4 C4 D6,US w4 p (k+1) V4 C4 D6/\(w4.cell? ⟨p.u,0,none⟩=some (.pointer (some ⟨p.t,0,none⟩))/\w4.cell? ⟨p.u,10,none⟩=some (.pointer (some ⟨p.g,0,none⟩))/\w4.cell? ⟨W.heap.size,0,none⟩=some (.int .i64 a.var)/\w4.cell? ⟨W.heap.size,1,none⟩=some (.int .i64 a.a)/\w4.cell? ⟨W.heap.size,2,none⟩=some (.int .i64 a.b))/\Calls Tryz.prog 39 #[.pointer (some ⟨p.t,0,none⟩),.int .i64 (k:Int),.int .i64 a.var,.int .i64 r] w4 fun e w5=>(∃bb,e=.returned (.bool bb))/\cL wr p (k+1) V3 C3 1 3 D5 w5/\(w5.cell? ⟨p.u,0,none⟩=some (.pointer (some ⟨p.t,0,none⟩))/\w5.cell? ⟨p.u,10,none⟩=some (.pointer (some ⟨p.g,0,none⟩))/\w5.cell? ⟨W.heap.size,0,none⟩=some (.int .i64 a.var)/\w5.cell? ⟨W.heap.size,1,none⟩=some (.int .i64 a.a)/\w5.cell? ⟨W.heap.size,2,none⟩=some (.int .i64 a.b))):=fun q r w4 hm=>by
       obtain⟨V4,C4,D6,hU4,m1,m2,m3,m4,m5,m6⟩:=hm;have hyb4:=m6.cC ((hyb.drew).drewN q) hyD;refine Lib.hid ⟨V4,C4,D6,hU4,⟨hU4.c0,hU4.qd,by simpa using hyb4.cell 0,by simpa using hyb4.cell 1,by simpa using hyb4.cell 2⟩,(zZ hU4 _ _ _).mono ?_⟩;rintro e w5 ⟨hb,h5⟩;obtain⟨V5,C5,D7,hU5,_,_,_,_,_,f5⟩:=id h5;have hlw:W.heap.size<W2.heap.size:=hyb.lt;have hyb5:=f5.cC hyb4 fun hx=>(m5 _ hx).elim hyD fun hy=>by have hy:W2.heap.size<=W.heap.size:=hy;omega
       exact⟨hb,.pre (HBW.out.trans (hb2.mono HBW.out.size)) (.pre (below_drewN (Below.refl _ W2).drew q) (.comp m1 m2 m3 m4 m5 m6 h5)),hU5.c0,hU5.qd,by simpa using hyb5.cell 0,by simpa using hyb5.cell 1,by simpa using hyb5.cell 2⟩
      have hla0:=hla 0;rw[World.drewN_zero]at hla0;have HLA:=Lib.hid hla0;have HLB:=Lib.hid hlb;have HAN:=Lib.hid han;have HST:=Lib.hid hst;have HW2:=Lib.hid hW2;clear hb2 hyb hU2 hyD hla hla0 hlb han hst hW2
      go_wp2_with fail
      rw[<-HW2.out];clear HW2
      go_region_held3 (fun w'=>w'.cell? ⟨p.u,0,none⟩=some (.pointer (some ⟨p.t,0,none⟩))/\w'.cell? ⟨p.u,10,none⟩=some (.pointer (some ⟨p.g,0,none⟩))/\w'.cell? ⟨W.heap.size,0,none⟩=some (.int .i64 a.var)/\w'.cell? ⟨W.heap.size,1,none⟩=some (.int .i64 a.a)/\w'.cell? ⟨W.heap.size,2,none⟩=some (.int .i64 a.b)) (first|assumption|(refine⟨?_,?_,?_,?_,?_⟩<;>assumption)) (first
       |(go_at_call 37;refine HB0.out.mono ?_;clear HB0;rintro e wB ⟨rfl,qB,hqB⟩;have v0:wB.cell? ⟨p.u,0,none⟩=some (.pointer (some ⟨p.t,0,none⟩)):=(by rw[hqB];exact s0);have v1:wB.cell? ⟨p.u,10,none⟩=some (.pointer (some ⟨p.g,0,none⟩)):=(by rw[hqB];exact s1);have v2:wB.cell? ⟨W.heap.size,0,none⟩=some (.int .i64 a.var):=(by rw[hqB];exact s2);have v3:wB.cell? ⟨W.heap.size,1,none⟩=some (.int .i64 a.a):=(by rw[hqB];exact s3);have v4:wB.cell? ⟨W.heap.size,2,none⟩=some (.int .i64 a.b):=(by rw[hqB];exact s4);have hA0:=HAN.out qB;rw[<-hqB]at hA0;have HA0:=Lib.hid hA0;have hs0:=HST.out qB;rw[<-hqB]at hs0;have HS0:=Lib.hid hs0;clear hA0 hs0 hqB HAN HST)
       |(go_at_call 37;refine HLA.out.mono ?_;clear HLA;rintro e wA ⟨rfl,qA,hqA⟩;have t0:wA.cell? ⟨p.u,0,none⟩=some (.pointer (some ⟨p.t,0,none⟩)):=(by rw[hqA];exact s0);have t1:wA.cell? ⟨p.u,10,none⟩=some (.pointer (some ⟨p.g,0,none⟩)):=(by rw[hqA];exact s1);have t2:wA.cell? ⟨W.heap.size,0,none⟩=some (.int .i64 a.var):=(by rw[hqA];exact s2);have t3:wA.cell? ⟨W.heap.size,1,none⟩=some (.int .i64 a.a):=(by rw[hqA];exact s3);have t4:wA.cell? ⟨W.heap.size,2,none⟩=some (.int .i64 a.b):=(by rw[hqA];exact s4);have hB0:=HLB.out qA;rw[<-hqA]at hB0;have HB0:=Lib.hid hB0;clear hB0 hqA HLB)
       |(go_at_call 42;refine HA0.out.mono ?_;clear HA0;rintro e w4 ⟨⟨r,rfl⟩,hm⟩;obtain⟨V4,C4,D6,hU4,hS4,hset⟩:=(HS0.out r w4 hm).out;obtain⟨z0,z1,z2,z3,z4⟩:=hS4;have HSET:=Lib.hid hset;clear hset hU4 hm HS0)
       |(go_at_call 39;refine HSET.out.mono ?_;clear HSET;rintro e w5 ⟨⟨bb,rfl⟩,h5,g0,g1,g2,g3,g4⟩;have H5:=Lib.hid h5;clear h5))
      go_wp2_with fail
      go_roundw
      case rel=>exact⟨q+1,aGl,by go_num,Lib.hid (FIN.out w5 H5.out)⟩
      case measure=>simp[intOf];omega
     .obtain rfl:rd=true:=hr;obtain rfl:mm=(mi:Int):=hmi;obtain rfl:pos=(i:Int):=hi;have e7:=HUW.out.drew.c7;have x1:=HXB.out.drew.cell 1;have x2:=HXB.out.drew.cell 2;simp only[pp,rg,pm]at x1 x2;obtain⟨b7,o7,v0,v1,v2,v3,v4,hAm,hml,hb7,hb7l,hdat,hcm⟩:=HUW.out.drew.lN.mem hm;rw[hAm]at e7;have y0:=hcm 0 v0 rfl;have y1:=hcm 1 v1 rfl;have y2:=hcm 2 v2 rfl;have y3:=hcm 3 v3 rfl;have y4:=hcm 4 v4 rfl;simp only[aux,<-adc]at y0 y1 y2 y3 y4;obtain⟨nm,hnm⟩:∃nm,nm=p.N.aa.length:=⟨_,rfl⟩;rw[<-hnm]at hml e7;have hml2:(mi:Int)<(nm:Int):=aGl
      have hda:=Ux (w:=W.drew) HUW.out.drew.lt hdat hr2 hw hv;have hul:p.u<W.drew.heap.size:=HUW.out.drew.box.lt;have hxl:wr.heap.size<W.drew.heap.size:=HXB.out.drew.lt;obtain⟨nw,hnw⟩:∃nw,nw=m.word.toNat:=⟨_,rfl⟩;rw[<-hnw]at hda hV3;have hda2:Calls Tryz.prog 41 #[.agg #[v0,v1,v2,v3,v4],.int .i64 (i:Int)] W.drew fun e w4=>∃A cap',e=.returned (.slice A nw cap')/\(w4.cell? ⟨p.u,7,none⟩=some (.slice (some ⟨b7,o7,none⟩) nm p.N.cm)/\w4.cell? ⟨wr.heap.size,1,none⟩=some (.int .i64 (mi:Int))/\w4.cell? ⟨wr.heap.size,2,none⟩=some (.int .i64 (i:Int))/\w4.cell? ⟨b7,o7+mi*5,none⟩=some v0/\w4.cell? ⟨b7,o7+mi*5+1,none⟩=some v1/\w4.cell? ⟨b7,o7+mi*5+2,none⟩=some v2/\w4.cell? ⟨b7,o7+mi*5+3,none⟩=some v3/\w4.cell? ⟨b7,o7+mi*5+4,none⟩=some v4)/\Hid (Calls Tryz.prog 40 #[.pointer (some ⟨p.u,0,none⟩),.int .i64 (k:Int),.slice A nw cap'] w4 fun e w5=>e=.returned (.tuple #[])/\cL wr p (k+1) V3 C3 nw 0 D5 w5/\w5.cell? ⟨p.u,7,none⟩=some (.slice (some ⟨b7,o7,none⟩) nm p.N.cm)/\w5.cell? ⟨wr.heap.size,1,none⟩=some (.int .i64 (mi:Int))/\w5.cell? ⟨wr.heap.size,2,none⟩=some (.int .i64 (i:Int))/\w5.cell? ⟨b7,o7+mi*5,none⟩=some v0/\w5.cell? ⟨b7,o7+mi*5+1,none⟩=some v1/\w5.cell? ⟨b7,o7+mi*5+2,none⟩=some v2/\w5.cell? ⟨b7,o7+mi*5+3,none⟩=some v3/\w5.cell? ⟨b7,o7+mi*5+4,none⟩=some v4):=by refine hda.mono ?_;rintro e w4 ⟨A,cap',l,rfl,hb4,hl4,hR4⟩;have hU4:=HUW.out.drew.below hb4;have z:=fun(o:Nat)=>hb4.cell (p:=⟨b7,o,none⟩) hb7l;have zx:=HXB.out.drew.below hb4 hxl;refine⟨A,cap',rfl,⟨by rw[hU4.c7,hAm,hnm],by simpa using zx.cell 1,by simpa using zx.cell 2,(z _).trans y0,(z _).trans y1,(z _).trans y2,(z _).trans y3,(z _).trans y4⟩,Lib.hid ?_⟩;refine(Qg (cap:=cap') (k:Int) l hU4 hl4.symm aGl hR4).mono ?_;rintro e w5 ⟨rfl,h5⟩;obtain⟨V5,C5,D7,hU5,_,_,_,_,_,f5⟩:=id h5;have z5:=fun(o:Nat)=>f5.cell (p:=⟨b7,o,none⟩) (ro hb7l hb4.size) hb7;have zx5:=f5.cC zx HXD.out;exact⟨rfl,.pre HBW.out (.pre (Below.refl _ W).drew (.pre hb4 h5)),by rw[hU5.c7,hAm,hnm],by simpa using zx5.cell 1,by simpa using zx5.cell 2,(z5 _).trans ((z _).trans y0),(z5 _).trans ((z _).trans y1),(z5 _).trans ((z _).trans y2),(z5 _).trans ((z _).trans y3),(z5 _).trans ((z _).trans y4)⟩
      have HDA:=Lib.hid hda2;have HNW:=Lib.hid hnw;have HNM:=Lib.hid hnm;clear hda hda2 hdat hcm hm hr2 hw hv hb7 hb7l hAm hnw hnm
      go_wp2_with fail
      rw[<-HW.out];clear HW
      go_region_held3 (fun w'=>w'.cell? ⟨p.u,7,none⟩=some (.slice (some ⟨b7,o7,none⟩) nm p.N.cm)/\w'.cell? ⟨wr.heap.size,1,none⟩=some (.int .i64 (mi:Int))/\w'.cell? ⟨wr.heap.size,2,none⟩=some (.int .i64 (i:Int))/\w'.cell? ⟨b7,o7+mi*5,none⟩=some v0/\w'.cell? ⟨b7,o7+mi*5+1,none⟩=some v1/\w'.cell? ⟨b7,o7+mi*5+2,none⟩=some v2/\w'.cell? ⟨b7,o7+mi*5+3,none⟩=some v3/\w'.cell? ⟨b7,o7+mi*5+4,none⟩=some v4) (first|(with_reducible assumption)|(refine⟨?_,?_,?_,?_,?_,?_,?_,?_⟩<;>with_reducible assumption)) (first
       |(go_at_call 41;refine HDA.out.mono ?_;clear HDA;rintro e w4 ⟨A4,cap4,rfl,⟨t0,t1,t2,t3,t4,t5,t6,t7⟩,HFR⟩)
       |(go_at_call 40;refine HFR.out.mono ?_;clear HFR;rintro e w5 ⟨rfl,h5,g0,g1,g2,g3,g4,g5,g6,g7⟩;have H5:=Lib.hid h5;clear h5))
      go_wp2_with fail
      go_roundw
      case rel=>exact⟨q+1,aGl,by go_num,Lib.hid (by rw[HNW.out]at H5;exact FIN.out w5 H5.out)⟩
      case measure=>simp[intOf];omega
    .obtain rfl:q=no:=aGl
     obtain⟨V3,C3,D5,hU,b1,b2,b3,b4,b5,b6⟩:=hI.out;have e10:=hU.qd;have hfu:=hU.full;have HU:=Lib.hid hU;have HE:Hid (V<=V3/\V3<=V+p.Vn/\C<=C3/\C3<=C+3*p.N.al.length/\(∀b,D5 b->D b\/w.heap.size<=b)/\ak D w wr):=by have tv:=zz p.L q fun x=>(f x).1;have tc:=zz p.L q fun x=>(f x).2;have sV:=OK.out.Cf;have sC:=OK.out.Zy;have hnl:=HNl.out;have hni:=HNi.out;exact Lib.hid ⟨b1,aGl,b3,aGl,fun b hb=>(b5 b hb).elim (D2.out b) fun hx=>.inr (rt F2.out.size hx),F2.out.after b6 D2.out⟩
     clear hI hU b1 b2 b3 b4 b5 b6
     go_wp2_with fail
     refine hfu.mono ?_;rintro e w9 ⟨rfl,rfl⟩
     go_wp2_with fail
     try rw[Exit.noGoto_ret]
     go_ret
     obtain⟨q1,q2,q3,q4,q5,q6⟩:=HE.out;exact⟨rfl,V3,C3,D5,HU.out,q1,q2,q3,q4,q5,q6⟩
