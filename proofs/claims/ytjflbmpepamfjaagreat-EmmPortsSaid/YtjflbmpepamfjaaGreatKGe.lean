import Derived.Test.YtjflbmpepamfjaaGreatKGd
import Derived.Test.YtjflbmpepamfjaaGreatKTd
set_option linter.all false
section
namespace Go.Proofs.YtjflbmpepamfjaaGreat.V
open Go Go.RowKit Go.Proofs.YtjflbmpepamfjaaGreat.Pl
theorem PK:∀(V:Nat) (l:io),l.Nodup->(∀x∈l,1<=x/\x<=(V:Int))->l.length<=V
 |0,l,_,h=>by cases l with|nil=>simp|cons x l=>have:=h x aGn;omega
 |V+1,l,hn,h=>by
  have h1:=PK V (l.erase ((V:Int)+1)) (hn.erase _) fun x hx=>by obtain⟨h1,h2⟩:=(List.Nodup.mem_erase_iff hn).1 hx;have:=h x h2;omega
  rw[List.length_erase]at h1;split at h1<;>omega
theorem Qa{α:Type}(L:List α)(key:α->Int)(g:α->Nat):∀m:Nat,(((List.range m).flatMap fun i:Nat=>L.filter fun x=>decide (key x=(i:Int)+1)).map g).sum=((L.filter fun x=>decide (1<=key x/\key x<=(m:Int))).map g).sum
 |0=>by
  have:(L.filter fun x=>decide (1<=key x/\key x<=((0:Nat):Int)))=[]:=aGe.2 fun x _=>by simp;omega
  rw[this];rfl
 |m+1=>by
  rw[aFj,Ne,dE,aEW,Qa L key g m];simp only[Fn,aER,dJ]
  induction L with
  |nil=>rfl|cons x L ih=>
   simp only[List.filter_cons];by_cases h1:1<=key x/\key x<=(m:Int)
   .rw[BY (by simpa using h1),rx (by simp;omega),BY (by simp;omega)];simp only[IS,aGb];omega
   .by_cases h2:key x=(m:Int)+1
    .rw[rx (by simpa using h1),BY (by simpa using h2),BY (by simp;omega)];simp only[IS,aGb];omega
    .rw[rx (by simpa using h1),rx (by simpa using h2),rx (by simp;omega)];exact ih
theorem filter_all{α:Type}{L:List α}{p:α->Bool}(h:∀x∈L,p x=true):L.filter p=L:=List.filter_eq_self.2 h
variable{V:Nat}{n:aZ}
theorem Fu(hs:dx n V)(ha:gN (bh n) V=true)(g:bG×bE->Nat):((jn n V).map g).sum=((n6 n).map g).sum:=by unfold jn;rw[Qa (n6 n) (fun x=>lk (lvl n V) x.2) g,filter_all fun x hx=>by have:=QD hs ha hx;simpa using this]
theorem Ft{x:bG×bE}(h:x∈jn n V):x∈n6 n:=by unfold jn at h;obtain⟨i,_,h⟩:=WP.1 h;exact(List.mem_filter.1 h).1
def lM(y:bG):jY:=(y.rd,(y.mem:Int),(y.pos:Int),())
def kU(n:aZ)(x:jY):Nat×Nat:=match x.1 with
 |true=>((match n.aa[x.2.1.toNat]? with|some M=>M.word.toNat|none=>0),0)
 |false=>(1,3)
theorem Fw{y:bG}{i:bE}(h:y.is n i):kU n (lM y)=(i.to.length,if y.rd then 0 else 3):=by
 rcases h with⟨h,a,ha,rfl⟩|⟨h,M,r,hM,hr,rfl⟩
 .unfold kU lM;rw[h];rfl
 .unfold kU lM;rw[h];simp only[Id,hM];simp[nV,cQ]
theorem afp(hs:dx n V)(ft:Fit n){x:jY}(hx:x∈(jn n V).map fun y=>lM y.1):zD n x (kU n x).1 (kU n x).2:=by
 obtain⟨y,hy,rfl⟩:=IN.1 hx;have his:=vG n (Ft hy);rw[Fw his];rcases his with⟨h,a,ha,e⟩|⟨h,M,r,hM,hr,e⟩
 .exact .inl ⟨h,y.1.pos,a,rfl,ha,by rw[e];rfl,by rw[h];rfl⟩
 .have hm:=ft.aa.2 M (ep hM);have hw:=(hs.aa M (ep hM)).2.2;have hv:=hm.gC r (ep hr);exact .inr ⟨h,y.1.mem,y.1.pos,M,r,rfl,rfl,hM,hr,⟨aGl,aGl⟩,⟨hv.2.1,hv.2.2.1⟩,by rw[e];simp[nV,cQ],by rw[h];rfl⟩
theorem yi(n:aZ):n.bz.length+n.aB.length+((fy n).map fun i=>i.to.length).sum=(df n).length:=by
 unfold fy df;rw[dE,aEW];simp only[aO,aR];have h1:((n.al.map oc).map fun i=>i.to.length).sum=n.al.length:=by
  rw[aFF]
  induction n.al with|nil=>rfl|cons a l ih=>rw[IS,aGb,ih];simp[oc];omega
 have h2:((n.aa.flatMap jm).map fun i=>i.to.length).sum=(n.aa.flatMap gA).length:=by
  induction n.aa with
  |nil=>rfl|cons m l ih=>
   rw[Fn,Fn,dE,aEW,aO,ih];congr 1;unfold jm gA
   induction m.reads with|nil=>rfl|cons r k ih2=>rw[IS,IS,aGb,ih2,Fn,aO];rfl
 omega
theorem aeM(n:aZ):((n6 n).map fun y=>if y.1.rd then 0 else 3).sum<=3*n.al.length:=by
 have e:(n6 n).map (fun y=>if y.1.rd then 0 else 3)=(dS n).map fun y=>if y.rd then 0 else 3:=by rw[<-FI,aFF];rfl
 rw[e];unfold dS;rw[dE,aEW];have h1:(((List.range n.al.length).map fun i=>(⟨false,0,i⟩:bG)).map fun y=>if y.rd then 0 else 3).sum=3*n.al.length:=by
  rw[aFF]
  induction n.al.length with|zero=>rfl|succ m ih=>rw[aFj,dE,aEW,ih];simp;omega
 have h2:∀(k:Nat) (l:List cS),((iF k l).map fun y=>if y.rd then 0 else 3).sum=0:=by
  intro k l
  induction l generalizing k with
  |nil=>rfl|cons m l ih=>
   rw[iF,dE,aEW,ih];unfold Pl.iG;rw[aFF]
   induction m.reads.length with|zero=>rfl|succ j ih2=>rw[aFj,dE,aEW];simp at ih2 |-;exact ih2
 rw[h1,h2];omega
theorem afq(hs:dx n V)(ha:gN (bh n) V=true) :
  n.aB.length+n.bz.length+(((jn n V).map fun y=>lM y.1).map fun x=>(kU n x).1).sum<=V/\(((jn n V).map fun y=>lM y.1).map fun x=>(kU n x).2).sum<=3*n.al.length:=by
 have e1:((jn n V).map fun y=>lM y.1).map (fun x=>(kU n x).1)=(jn n V).map fun y=>y.2.to.length:=by rw[aFF];exact aFW fun y hy=>by show(kU n (lM y.1)).1=_;rw[Fw (vG n (Ft hy))]
 have e2:((jn n V).map fun y=>lM y.1).map (fun x=>(kU n x).2)=(jn n V).map fun y=>if y.1.rd then 0 else 3:=by rw[aFF];exact aFW fun y hy=>by show(kU n (lM y.1)).2=_;rw[Fw (vG n (Ft hy))]
 rw[e1,e2,Fu hs ha,Fu hs ha];refine⟨?_,aeM n⟩;have h1:(n6 n).map (fun y:bG×bE=>y.2.to.length)=(fy n).map fun i=>i.to.length:=by rw[<-ue,aFF];rfl
 rw[h1];have h2:=yi n;have h3:=PK V (df n) hs.nodup hs.rng;omega
theorem agD(hs:dx n V)(ha:gN (bh n) V=true):(jn n V).length<=3000:=by
 have h1:=Fu hs ha fun _=>1;have h2:∀l:List (bG×bE),(l.map fun _=>1).sum=l.length:=fun l=>by induction l with|nil=>rfl|cons x l ih=>rw[IS,aGb,ih,cF];omega
 rw[h2,h2]at h1;have:=(F8 hs).len;omega
end Go.Proofs.YtjflbmpepamfjaaGreat.V
end
section
namespace Go.Proofs.YtjflbmpepamfjaaGreat
open Go Go.RowKit Pl
open V (bX kI nD)
abbrev fV:Nat->Prop:=fun _=>False
variable{v:Value}{A:Nat->Prop}
theorem Fy{w:World}{x:Int}(h:V.bR w A .I x v):v=.int .i64 x:=by
 obtain⟨h1,h2⟩:=h;have h1:v.cells.toList=[.int .i64 x]:=h1;have hv:v.cells=#[v]:=by cases v<;>first|rfl|cases h2
 rw[hv]at h1;exact(List.cons.inj h1).1
theorem PT{w:World}{x:Bool}(h:V.bR w A .bool x v):v=.bool x:=by
 obtain⟨h1,h2⟩:=h;have h1:v.cells.toList=[.bool x]:=h1;have hv:v.cells=#[v]:=by cases v<;>first|rfl|cases h2
 rw[hv]at h1;exact(List.cons.inj h1).1
theorem j3{w w':World}{N:aV}(h:V.bR w fV V.bD (bX N.d) N.v)(hb:Below w.heap.size w w'):V.bR w' fV V.bD (bX N.d) N.v:=h.keep (kA (.cR (D:=fV) hb) (fun _ h=>h) fun _ h=>.inl h)
section
variable{w:World}{N:aV}
theorem aeH(h:V.bR w fV V.bD (bX N.d) N.v)(ft:Fit N.d)(h0:iN N.d=0):Calls Tryz.prog 26 #[N.v] w fun e w'=>e=.returned (.int .i64 0)/\Below w.heap.size w w':=by refine(V.X3.ok.2 (bX N.d,()) _ (V.Zq6 ft) w fV [N.v] (fun b h=>h.elim) ⟨N.v,_,rfl,h,rfl⟩).mono ?_;rintro e w' ⟨vs,rfl,hb,v1,r,rfl,h1,hr⟩;have hr:r=[]:=hr;subst hr;rw[Fy h1,h0];exact⟨rfl,hb⟩
theorem aeI{Vn:Nat}(h:V.bR w fV V.bD (bX N.d) N.v)(ft:Fit N.d)(hs:dx N.d Vn)(h0:iN N.d=0)(L:List jY)(hL:L=(V.jn N.d Vn).map fun y=>V.lM y.1) :
  Calls Tryz.prog 27 #[N.v] w fun e w'=>∃Ao co,e=.returned (.tuple #[.slice Ao L.length co,.bool true])/\Below w.heap.size w w'/\V.bR w' fV (.sl V.ae) L (.slice Ao L.length co):=by
 have hs0:fx N.d=0:=by
  unfold iN at h0;split at h0
  .rename_i hx;exact absurd h0 hx
  .rename_i hx;exact aFS fun hy=>hx hy
 have ha:gN (bh N.d) Vn=true:=by
  unfold iN at h0;rw[rx (fun hx=>hx hs0),hs.vars,Id]at h0;split at h0
  .assumption
  .cases h0
 have e:=V.au3 hs ft hs0;rw[BY ha]at e;refine(V.YQ.ok.2 (bX N.d,()) _ e w fV [N.v] (fun b h=>h.elim) ⟨N.v,_,rfl,h,rfl⟩).mono ?_;rintro e w' ⟨vs,rfl,hb,v1,r,rfl,h1,v2,r2,rfl,h2,hr⟩;have hr:r2=[]:=hr;subst hr;have h2:V.bR w' fV .bool true v2:=h2;rw[PT h2];have h1:V.bR w' fV (.sl V.ae) L v1:=by rw[hL];exact h1
 obtain⟨⟨a,len,cap,e1,e2,e3,e4⟩,hag⟩:=h1;have hv1:v1=.slice a len cap:=by cases v1<;>first|(cases hag;done)|(simp[Value.cells]at e1;done)|(simp[Value.cells]at e1 |-;exact e1)
 have e2:len=List.length (α:=jY) L:=e2;subst hv1;rw[e2];exact⟨a,cap,rfl,hb,⟨a,_,cap,rfl,rfl,by rw[<-e2];exact e3,e4⟩,rfl⟩
theorem PZ(hA:∀b,A b->b<w.heap.size)(h:V.bR w A V.bD (bX N.d) N.v)(ft:Fit N.d) :
  Calls Tryz.prog 29 #[N.v] w fun e w'=>∃M:aV,M.d=N.d/\e=.returned M.v/\Below w.heap.size w w'/\V.bR w' A V.bD (bX M.d) M.v:=by
 refine(V.Y1.ok.2 (bX N.d,()) _ (V.aeO ft) w A [N.v] hA ⟨N.v,_,rfl,h,rfl⟩).mono ?_;rintro e w' ⟨vs,rfl,hb,v1,r,rfl,h1,hr⟩;have hr:r=[]:=hr;subst hr;obtain⟨M,rfl,hM,_⟩:=V.vt h1;have hM:M.d=N.d:=by rw[hM];exact nD N.d
 exact⟨M,hM,rfl,hb,by rw[hM];exact h1⟩
end
variable{Vn:Nat}
theorem afD(w:World)(Vn:Nat)(h:Vn<=2000):Calls Tryz.prog 28 #[.int .i64 (Vn:Int)] w fun e w'=>∃t D,e=.returned (.pointer (some ⟨t,0,none⟩))/\TW w' Vn t 0 D/\(∀b,D b->w.heap.size<=b)/\Below w.heap.size w w':=by refine(aeb Vn w h).mono ?_;rintro e w' ⟨t,rfl,h1,h2⟩;exact⟨t,_,rfl,⟨[],(FK.td h1).bound,rfl,fun b hb=>hb.2⟩,fun b hb=>hb.1,h2⟩
variable{Ao:lc}{t:Nat}{L:List jY}{M:aV}{g:Nat}{co:Nat}
theorem aiH{w2 w3 w4 w5:World}{Dt Dg:Nat->Prop}(free:Bool)(ho:V.bR w2 fV (.sl V.ae) L (.slice Ao L.length co))(hb3:Below w2.heap.size w2 w3)(ht:TW w3 Vn t 0 Dt)(hDt:∀b,Dt b->w2.heap.size<=b)
  (hb4:Below w3.heap.size w3 w4) (hd:V.bR w4 Dt V.bD (bX M.d) M.v) (hg:GD w5 g 1 1 Dg) (hDg:∀b,Dg b->w4.heap.size<=b) (hb5:Below w4.heap.size w4 w5) :
  US (w5.alloc (.cells (UP.cells ⟨w5.heap.size,t,g,Vn,M,Ao,co,L,free⟩) 78)) ⟨w5.heap.size,t,g,Vn,M,Ao,co,L,free⟩ 0 1 1 (fun b=>Dt b\/Dg b):=by
 have hal:Below w5.heap.size w5 (w5.alloc (.cells (UP.cells ⟨w5.heap.size,t,g,Vn,M,Ao,co,L,free⟩) 78)):=(Below.refl _ w5).alloc (pi _) _;have hDtl:∀b,Dt b->b<w3.heap.size:=by obtain⟨_,_,_,h⟩:=ht;exact h
 have hDgl:∀b,Dg b->b<w5.heap.size:=by obtain⟨_,_,_,_,_,_,_,h,_⟩:=hg;exact h.lt
 have s3:=hb3.size;have s4:=hb4.size;have s5:=hb5.size;have gY:Below w3.heap.size w3 w5:=hb4.trans (hb5.mono s4);have ef:=gY.trans (hal.mono gY.size);have fA:=hb5.trans (hal.mono hb5.size);have nF:=hb3.trans (ef.mono s3);refine⟨Dt,Dg,af.new w5 _ _,ht.an (D':=fV) (.cR ef) (fun _ _ h=>h),hg.below hal,fun b h1 h2=>by have:=hDtl b h1;have:=hDg b h2;omega,fun b h=>.inl h,fun b h=>.inr h,fun h=>h.elim (fun h=>by have h:=hDtl _ h;have h:w5.heap.size<w3.heap.size:=h;omega) fun h=>Or _ (hDgl _ h),fun b h=>by
  have hs:(w5.alloc (.cells (UP.cells ⟨w5.heap.size,t,g,Vn,M,Ao,co,L,free⟩) 78)).heap.size=w5.heap.size+1:=aGn
  rw[hs];rcases h with h|h
  .have:=hDtl b h;omega
  .have:=hDgl b h;omega,?_⟩
 exact⟨hd.keep (kA (D:=fV) (.cR fA) (fun _ h=>h.elim) fun b h=>h.elim .inl fun h=>.inr (hDg b h)),ho.keep (kA (D:=fV) (.cR nF) (fun _ h=>h) fun b h=>.inr (h.elim (hDt b) fun h=>by have:=hDg b h;omega))⟩
theorem ahT{N:aV}{u:Nat}{free:Bool}(hM:M.d=N.d)(ft:Fit N.d)(hs:dx N.d Vn)(h0:iN N.d=0)(hL:L=(V.jn N.d Vn).map fun y=>V.lM y.1) :
  LF ⟨u,t,g,Vn,M,Ao,co,L,free⟩ (V.kU N.d):=by
 have hs0:fx N.d=0:=by
  unfold iN at h0;split at h0
  .rename_i hx;exact absurd h0 hx
  .rename_i hx;exact aFS fun hy=>hx hy
 have ha:gN (bh N.d) Vn=true:=by
  unfold iN at h0;rw[rx (fun hx=>hx hs0),hs.vars,Id]at h0;split at h0
  .assumption
  .cases h0
 have e1:M.aB=N.aB:=by simp[aV.d]at hM;grind
 have e2:M.bz=N.bz:=by simp[aV.d]at hM;grind
 have e3:M.al=N.al:=by simp[aV.d]at hM;grind
 obtain⟨s1,s2⟩:=V.afq hs ha;have hl:=V.agD hs ha;have f1:=ft.aC.2;have f2:=ft.al.2;have f3:=ft.aC.1;subst hL;refine⟨fun x hx=>?_,?_,?_,hs.v2,fun l hl=>?_,fun a ha=>?_,?_,?_⟩
 .show zD M.d x _ _;rw[hM];exact V.afp hs ft hx
 .show M.aB.length+M.bz.length+_<=Vn;rw[e1,e2];exact s1
 .show _<=3*M.al.length;rw[e3];exact s2
 .have hl:l∈M.aB:=hl;rw[e1]at hl;exact(f1 l hl).2.1.2
 .have ha:a∈M.al:=ha;rw[e3]at ha;exact⟨(f2 a ha).2.1.2,(f2 a ha).2.2.2⟩
 .show(List.map _ _).length<=_;rw[aR];omega
 .show M.aB.length<=_;rw[e1];have f3:N.aB.length<=4000:=f3;omega
set_option maxHeartbeats 2000000
set_option maxRecDepth 20000
theorem aEO{w:World}{N:aV}(free:Bool)(h:V.bR w fV V.bD (bX N.d) N.v)(ft:Fit N.d)(hs:dx N.d Vn)(h0:iN N.d=0) :
  Calls Tryz.prog 15 #[N.v,.bool free] w fun e w'=>∃p D,e=.returned (.tuple #[.pointer (some ⟨p.u,0,none⟩),.int .i64 0])/\US w' p 0 1 1 D/\LF p (V.kU N.d)/\p.Vn=Vn/\(p.N.al.length=N.al.length/\p.N.d=N.d)/\(∀b,D b->w.heap.size<=b)/\Below w.heap.size w w':=by
 have hvs:N.vars=(Vn:Int):=hs.vars;have hNv:N.v=.agg #[.int .i64 (Vn:Int),.slice N.Ai N.bz.length N.ci,.slice N.Al N.aB.length N.cl,.slice N.Ao N.bN.length N.co,.slice N.Ab N.bO.length N.cb,.slice N.Ac N.constraints.length N.cc,.slice N.Am N.aa.length N.cm,.slice N.An N.al.length N.cn]:=by unfold aV.v aV.fs;rw[hvs]
 obtain⟨W,hW⟩:∃W,W=w.alloc (.cells #[.int .i64 (Vn:Int),.slice N.Ai N.bz.length N.ci,.slice N.Al N.aB.length N.cl,.slice N.Ao N.bN.length N.co,.slice N.Ab N.bO.length N.cb,.slice N.Ac N.constraints.length N.cc,.slice N.Am N.aa.length N.cm,.slice N.An N.al.length N.cn] 27):=⟨_,rfl⟩;have hbW:Below w.heap.size w W:=by rw[hW];exact(Below.refl _ w).alloc (pi _) _
 have hx:af W w.heap.size 27 #[.int .i64 (Vn:Int),.slice N.Ai N.bz.length N.ci,.slice N.Al N.aB.length N.cl,.slice N.Ao N.bN.length N.co,.slice N.Ab N.bO.length N.cb,.slice N.Ac N.constraints.length N.cc,.slice N.Am N.aa.length N.cm,.slice N.An N.al.length N.cn]:=by rw[hW];exact af.new w _ _
 have hd:=j3 h hbW;have hck:=aeH hd ft h0;obtain⟨L,hL⟩:∃L:List jY,L=(V.jn N.d Vn).map fun y=>V.lM y.1:=⟨_,rfl⟩;have HW:=Lib.hid hW;have HBW:=Lib.hid hbW;have HX:=Lib.hid hx;have HD:=Lib.hid hd;have HFT:=Lib.hid ft;have HS:=Lib.hid hs;have H0:=Lib.hid h0;have HL:=Lib.hid hL;have HNV:=Lib.hid hNv;rw[hNv]at hck |-;clear hW hbW hx hd hL hNv h ft hs h0 hvs
 go_enter Tryz.func15,Tryz.ntmps15
 go_wp2_with fail
 rw[<-HW.out];clear HW;refine hck.mono ?_;rintro e w1 ⟨rfl,hb1⟩;have hx1:=HX.out.below hb1 HX.out.lt;have k0:=(hx1).cell 0;have k1:=(hx1).cell 1;have k2:=(hx1).cell 2;have k3:=(hx1).cell 3;have k4:=(hx1).cell 4;have k5:=(hx1).cell 5;have k6:=(hx1).cell 6;have k7:=(hx1).cell 7;have hd1:=j3 HD.out hb1;have hor:=aeI hd1 HFT.out HS.out H0.out L HL.out;rw[HNV.out]at hor;have HB1:=Lib.hid hb1;have HX1:=Lib.hid hx1;have HD1:=Lib.hid hd1;clear hck hb1 hx1 hd1
 go_wp2_with fail
 refine hor.mono ?_;rintro e w2 ⟨Ao,co,rfl,hb2,hdo⟩;have hx2:=HX1.out.below hb2 HX1.out.lt;clear k0 k1 k2 k3 k4 k5 k6 k7;have m0:=(hx2.drew).cell 0;have m1:=(hx2.drew).cell 1;have m2:=(hx2.drew).cell 2;have m3:=(hx2.drew).cell 3;have m4:=(hx2.drew).cell 4;have m5:=(hx2.drew).cell 5;have m6:=(hx2.drew).cell 6;have m7:=(hx2.drew).cell 7;have hd2:=j3 HD1.out hb2;have hv2:=HS.out.v2;have HB2:=Lib.hid hb2;have HX2:=Lib.hid hx2;have HD2:=Lib.hid hd2;have HDO:=Lib.hid hdo;clear hor hb2 hx2 hd2 hdo
 go_wp2_with fail
 have hcl:∀t D w3,TW w3 Vn t 0 D->(∀b,D b->w2.heap.size<=b)->Below w2.drew.heap.size w2.drew w3->Hid (Calls Tryz.prog 29 #[N.v] w3 fun e w'=>∃M:aV,M.d=N.d/\e=.returned (.agg #[.int .i64 M.vars,.slice M.Ai M.bz.length M.ci,.slice M.Al M.aB.length M.cl,.slice M.Ao M.bN.length M.co,.slice M.Ab M.bO.length M.cb,.slice M.Ac M.constraints.length M.cc,.slice M.Am M.aa.length M.cm,.slice M.An M.al.length M.cn])/\Below w3.heap.size w3 w'/\V.bR w' D V.bD (bX M.d) M.v):=fun t D w3 ht hD hb3=>by
  have Oz:V.bR w3 D V.bD (bX N.d) N.v:=(j3 HD2.out (Below.refl _ w2).drew).keep (kA (D:=fV) (.cR hb3) (fun _ h=>h) fun b hb=>.inr (hD b hb));have hlt:∀b,D b->b<w3.heap.size:=by obtain⟨_,_,_,h⟩:=ht;exact h
  exact Lib.hid (PZ hlt Oz HFT.out)
 rw[HNV.out]at hcl;have HCL:=Lib.hid hcl;clear hcl
 go_region_law (first
  |(go_simp;go_at_call 28;refine(afD _ Vn hv2).mono ?_;rintro e w3 ⟨t,Dt,rfl,ht,hDt,hb3⟩;have hcl3:=HCL.out t Dt w3 ht hDt hb3;have hx3:=HX2.out.drew.below hb3 HX2.out.drew.lt;have n0:=hx3.cell 0;have n1:=hx3.cell 1;have n2:=hx3.cell 2;have n3:=hx3.cell 3;have n4:=hx3.cell 4;have n5:=hx3.cell 5;have n6:=hx3.cell 6;have n7:=hx3.cell 7;have HCL3:=Lib.hid hcl3;have HT:=Lib.hid ht;have HDT:=Lib.hid hDt;have HB3:=Lib.hid hb3;clear hcl3 hx3 ht hDt hb3)
  |(go_simp;go_at_call 29;refine HCL3.out.out.mono ?_;rintro e w4 ⟨M,hMd,rfl,hb4,hd4⟩;have HM:=Lib.hid hMd;have HB4:=Lib.hid hb4;have HD4:=Lib.hid hd4;clear hMd hb4 hd4)
  |(go_simp;go_at_call 30;refine(aiy _).mono ?_;rintro e w5 ⟨g,Dg,rfl,hg,hDg,hb5⟩;have HG:=Lib.hid hg;have HDG:=Lib.hid hDg;have HB5:=Lib.hid hb5;clear hg hDg hb5))
 all_goals (
  go_wp2_with fail
  go_ret2
  have s2:=HB2.out.size;have b3:Below w2.heap.size w2 w3:=(Below.refl _ w2).drew.trans HB3.out;have hu:=aiH free HDO.out b3 HT.out HDT.out HB4.out HD4.out HG.out HDG.out HB5.out;have e3:M.al=N.al:=by have:=HM.out;simp[aV.d]at this;grind
  refine⟨⟨w5.heap.size,t,g,Vn,M,Ao,co,L,free⟩,_,rfl,hu,ahT HM.out HFT.out HS.out H0.out HL.out,rfl,⟨by rw[e3],HM.out⟩,fun b hb=>rt (rt (rt HBW.out.size HB1.out.size) s2) (hb.elim (HDT.out b) fun h=>rt (rt b3.size HB4.out.size) (HDG.out b h)),?_⟩;exact(HBW.out.trans ((HB1.out.mono HBW.out.size).trans ((HB2.out.mono (rt HBW.out.size HB1.out.size)).trans ((b3.mono (rt (rt HBW.out.size HB1.out.size) s2)).trans ((HB4.out.mono (rt (rt (rt HBW.out.size HB1.out.size) s2) b3.size)).trans (HB5.out.mono (rt (rt (rt (rt HBW.out.size HB1.out.size) s2) b3.size) HB4.out.size))))))).alloc (rt (rt (rt (rt (rt HBW.out.size HB1.out.size) s2) b3.size) HB4.out.size) HB5.out.size) _)
