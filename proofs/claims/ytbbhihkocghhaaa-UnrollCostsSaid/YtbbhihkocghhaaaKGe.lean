import Derived.Test.YtbbhihkocghhaaaKGd
import Derived.Test.YtbbhihkocghhaaaKTd
import Derived.Test.YtbbhihkocghhaaaKSb
import Derived.Test.YtbbhihkocghhaaaKEv
set_option linter.all false
section
namespace Go.Proofs.Ytbbhihkocghhaaa.V
open Go Go.RowKit Go.Proofs.Ytbbhihkocghhaaa.Pl
theorem Jd:∀(V:Nat) (l:io),l.Nodup->(∀x∈l,1<=x/\x<=(V:Int))->l.length<=V
 |0,l,_,h=>by cases l with|nil=>simp|cons x l=>have:=h x acv;omega
 |V+1,l,hn,h=>by
  have h1:=Jd V (l.erase ((V:Int)+1)) (hn.erase _) fun x hx=>by obtain⟨h1,h2⟩:=(List.Nodup.mem_erase_iff hn).1 hx;have:=h x h2;omega
  rw[List.length_erase]at h1;split at h1<;>omega
theorem Ju{α:Type}(L:List α)(key:α->Int)(g:α->Nat):∀m:Nat,(((List.range m).flatMap fun i:Nat=>L.filter fun x=>decide (key x=(i:Int)+1)).map g).sum=((L.filter fun x=>decide (1<=key x/\key x<=(m:Int))).map g).sum
 |0=>by
  have:(L.filter fun x=>decide (1<=key x/\key x<=((0:Nat):Int)))=[]:=ack.2 fun x _=>by simp;omega
  rw[this];rfl
 |m+1=>by
  rw[aby,IO,dN,abx,Ju L key g m];simp only[GT,abm,dE]
  induction L with
  |nil=>rfl|cons x L ih=>
   simp only[List.filter_cons];by_cases h1:1<=key x/\key x<=(m:Int)
   .rw[ut (by simpa using h1),qr (by simp;omega),ut (by simp;omega)];simp only[Pi,acq];omega
   .by_cases h2:key x=(m:Int)+1
    .rw[qr (by simpa using h1),ut (by simpa using h2),ut (by simp;omega)];simp only[Pi,acq];omega
    .rw[qr (by simpa using h1),qr (by simpa using h2),qr (by simp;omega)];exact ih
theorem filter_all{α:Type}{L:List α}{p:α->Bool}(h:∀x∈L,p x=true):L.filter p=L:=List.filter_eq_self.2 h
variable{V:Nat}{n:ba}
theorem AH(hs:cZ n V)(ha:fF (aZ n) V=true)(g:bt×bn->Nat):((im n V).map g).sum=((n6 n).map g).sum:=by unfold im;rw[Ju (n6 n) (fun x=>lk (lvl n V) x.2) g,filter_all fun x hx=>by have:=JU hs ha hx;simpa using this]
theorem AG{x:bt×bn}(h:x∈im n V):x∈n6 n:=by unfold im at h;obtain⟨i,_,h⟩:=Or.1 h;exact(List.mem_filter.1 h).1
def jQ(y:bt):i5:=(y.rd,(y.mem:Int),(y.pos:Int),())
def jB(n:ba)(x:i5):Nat×Nat:=match x.1 with
 |true=>((match n.aa[x.2.1.toNat]? with|some M=>M.word.toNat|none=>0),0)
 |false=>(1,3)
theorem AL{y:bt}{i:bn}(h:y.is n i):jB n (jQ y)=(i.to.length,if y.rd then 0 else 3):=by
 rcases h with⟨h,a,ha,rfl⟩|⟨h,M,r,hM,hr,rfl⟩
 .unfold jB jQ;rw[h];rfl
 .unfold jB jQ;rw[h];simp only[Fr,hM];simp[kZ,cA]
theorem Tj(hs:cZ n V)(ft:Fit n){x:i5}(hx:x∈(im n V).map fun y=>jQ y.1):vf n x (jB n x).1 (jB n x).2:=by
 obtain⟨y,hy,rfl⟩:=IN.1 hx;have his:=ri n (AG hy);rw[AL his];rcases his with⟨h,a,ha,e⟩|⟨h,M,r,hM,hr,e⟩
 .exact .inl ⟨h,y.1.pos,a,rfl,ha,by rw[e];rfl,by rw[h];rfl⟩
 .have hm:=ft.aa.2 M (d8 hM);have hw:=(hs.aa M (d8 hM)).2.2;have hv:=hm.gG r (d8 hr);exact .inr ⟨h,y.1.mem,y.1.pos,M,r,rfl,rfl,hM,hr,⟨acs,acs⟩,⟨hv.2.1,hv.2.2.1⟩,by rw[e];simp[kZ,cA],by rw[h];rfl⟩
theorem tN(n:ba):n.bk.length+n.az.length+((ei n).map fun i=>i.to.length).sum=(cL n).length:=by
 unfold ei cL;rw[dN,abx];simp only[aP,aT];have h1:((n.ai.map lg).map fun i=>i.to.length).sum=n.ai.length:=by
  rw[abN]
  induction n.ai with|nil=>rfl|cons a l ih=>rw[Pi,acq,ih];simp[lg];omega
 have h2:((n.aa.flatMap ik).map fun i=>i.to.length).sum=(n.aa.flatMap fv).length:=by
  induction n.aa with
  |nil=>rfl|cons m l ih=>
   rw[GT,GT,dN,abx,aP,ih];congr 1;unfold ik fv
   induction m.reads with|nil=>rfl|cons r k ih2=>rw[Pi,Pi,acq,ih2,GT,aP];rfl
 omega
theorem SH(n:ba):((n6 n).map fun y=>if y.1.rd then 0 else 3).sum<=3*n.ai.length:=by
 have e:(n6 n).map (fun y=>if y.1.rd then 0 else 3)=(db n).map fun y=>if y.rd then 0 else 3:=by rw[<-AS,abN];rfl
 rw[e];unfold db;rw[dN,abx];have h1:(((List.range n.ai.length).map fun i=>(⟨false,0,i⟩:bt)).map fun y=>if y.rd then 0 else 3).sum=3*n.ai.length:=by
  rw[abN]
  induction n.ai.length with|zero=>rfl|succ m ih=>rw[aby,dN,abx,ih];simp;omega
 have h2:∀(k:Nat) (l:List cP),((gr k l).map fun y=>if y.rd then 0 else 3).sum=0:=by
  intro k l
  induction l generalizing k with
  |nil=>rfl|cons m l ih=>
   rw[gr,dN,abx,ih];unfold Pl.gw;rw[abN]
   induction m.reads.length with|zero=>rfl|succ j ih2=>rw[aby,dN,abx];simp at ih2 |-;exact ih2
 rw[h1,h2];omega
theorem Tl(hs:cZ n V)(ha:fF (aZ n) V=true) :
  n.az.length+n.bk.length+(((im n V).map fun y=>jQ y.1).map fun x=>(jB n x).1).sum<=V/\(((im n V).map fun y=>jQ y.1).map fun x=>(jB n x).2).sum<=3*n.ai.length:=by
 have e1:((im n V).map fun y=>jQ y.1).map (fun x=>(jB n x).1)=(im n V).map fun y=>y.2.to.length:=by rw[abN];exact acd fun y hy=>by show(jB n (jQ y.1)).1=_;rw[AL (ri n (AG hy))]
 have e2:((im n V).map fun y=>jQ y.1).map (fun x=>(jB n x).2)=(im n V).map fun y=>if y.1.rd then 0 else 3:=by rw[abN];exact acd fun y hy=>by show(jB n (jQ y.1)).2=_;rw[AL (ri n (AG hy))]
 rw[e1,e2,AH hs ha,AH hs ha];refine⟨?_,SH n⟩;have h1:(n6 n).map (fun y:bt×bn=>y.2.to.length)=(ei n).map fun i=>i.to.length:=by rw[<-pT,abN];rfl
 rw[h1];have h2:=tN n;have h3:=Jd V (cL n) hs.nodup hs.Rm;omega
theorem Uo(hs:cZ n V)(ha:fF (aZ n) V=true):(im n V).length<=3000:=by
 have h1:=AH hs ha fun _=>1;have h2:∀l:List (bt×bn),(l.map fun _=>1).sum=l.length:=fun l=>by induction l with|nil=>rfl|cons x l ih=>rw[Pi,acq,ih,cq];omega
 rw[h2,h2]at h1;have:=(Bk hs).len;omega
end Go.Proofs.Ytbbhihkocghhaaa.V
end
section
namespace Go.Proofs.Ytbbhihkocghhaaa
open Go Go.RowKit Pl
open V (cx kC nX)
abbrev fN:Nat->Prop:=fun _=>False
variable{A:Nat->Prop}{v:Value}
theorem Jt{w:World}{x:Int}(h:V.cH w A .I x v):v=.int .i64 x:=by
 obtain⟨h1,h2⟩:=h;have h1:v.cells.toList=[.int .i64 x]:=h1;have hv:v.cells=#[v]:=by cases v<;>first|rfl|cases h2
 rw[hv]at h1;exact(List.cons.inj h1).1
theorem AF{w:World}{x:Bool}(h:V.cH w A .bool x v):v=.bool x:=by
 obtain⟨h1,h2⟩:=h;have h1:v.cells.toList=[.bool x]:=h1;have hv:v.cells=#[v]:=by cases v<;>first|rfl|cases h2
 rw[hv]at h1;exact(List.cons.inj h1).1
theorem lW{w w':World}{N:aX}(h:V.cH w fN V.bB (cx N.d) N.v)(hb:Below w.heap.size w w'):V.cH w' fN V.bB (cx N.d) N.v:=h.aH (pw (.gj (D:=fN) hb) (fun _ h=>h) fun _ h=>.inl h)
section
variable{w:World}{N:aX}
theorem SC(h:V.cH w fN V.bB (cx N.d) N.v)(ft:Fit N.d)(h0:iA N.d=0):Calls Try.prog 19 #[N.v] w fun e w'=>e=.returned (.int .i64 0)/\Below w.heap.size w w':=by refine(V.N0.ok.2 (cx N.d,()) _ (V.Zq6 ft) w fN [N.v] (fun b h=>h.elim) ⟨N.v,_,rfl,h,rfl⟩).mono ?_;rintro e w' ⟨vs,rfl,hb,v1,r,rfl,h1,hr⟩;have hr:r=[]:=hr;subst hr;rw[Jt h1,h0];exact⟨rfl,hb⟩
theorem SD{Vn:Nat}(h:V.cH w fN V.bB (cx N.d) N.v)(ft:Fit N.d)(hs:cZ N.d Vn)(h0:iA N.d=0)(L:List i5)(hL:L=(V.im N.d Vn).map fun y=>V.jQ y.1) :
  Calls Try.prog 20 #[N.v] w fun e w'=>∃Ao co,e=.returned (.tuple #[.slice Ao L.length co,.bool true])/\Below w.heap.size w w'/\V.cH w' fN (.sl V.af) L (.slice Ao L.length co):=by
 have hs0:eh N.d=0:=by
  unfold iA at h0;split at h0
  .rename_i hx;exact absurd h0 hx
  .rename_i hx;exact aca fun hy=>hx hy
 have ha:fF (aZ N.d) Vn=true:=by
  unfold iA at h0;rw[qr (fun hx=>hx hs0),hs.vars,Fr]at h0;split at h0
  .assumption
  .cases h0
 have e:=V.Z5 hs ft hs0;rw[ut ha]at e;refine(V.OR.ok.2 (cx N.d,()) _ e w fN [N.v] (fun b h=>h.elim) ⟨N.v,_,rfl,h,rfl⟩).mono ?_;rintro e w' ⟨vs,rfl,hb,v1,r,rfl,h1,v2,r2,rfl,h2,hr⟩;have hr:r2=[]:=hr;subst hr;have h2:V.cH w' fN .bool true v2:=h2;rw[AF h2];have h1:V.cH w' fN (.sl V.af) L v1:=by rw[hL];exact h1
 obtain⟨⟨a,len,cap,e1,e2,e3,e4⟩,hag⟩:=h1;have hv1:v1=.slice a len cap:=by cases v1<;>first|(cases hag;done)|(simp[Value.cells]at e1;done)|(simp[Value.cells]at e1 |-;exact e1)
 have e2:len=List.length (α:=i5) L:=e2;subst hv1;rw[e2];exact⟨a,cap,rfl,hb,⟨a,_,cap,rfl,rfl,by rw[<-e2];exact e3,e4⟩,rfl⟩
theorem Tg(hA:∀b,A b->b<w.heap.size)(h:V.cH w A V.bB (cx N.d) N.v)(ft:Fit N.d) :
  Calls Try.prog 22 #[N.v] w fun e w'=>∃M:aX,M.d=N.d/\e=.returned M.v/\Below w.heap.size w w'/\V.cH w' A V.bB (cx M.d) M.v:=by
 refine(V.O2.ok.2 (cx N.d,()) _ (V.SJ ft) w A [N.v] hA ⟨N.v,_,rfl,h,rfl⟩).mono ?_;rintro e w' ⟨vs,rfl,hb,v1,r,rfl,h1,hr⟩;have hr:r=[]:=hr;subst hr;obtain⟨M,rfl,hM,_⟩:=V.qW h1;have hM:M.d=N.d:=by rw[hM];exact nX N.d
 exact⟨M,hM,rfl,hb,by rw[hM];exact h1⟩
end
variable{Vn:Nat}
theorem Tx(w:World)(Vn:Nat)(h:Vn<=2000):Calls Try.prog 21 #[.int .i64 (Vn:Int)] w fun e w'=>∃t D,e=.returned (.pointer (some ⟨t,0,none⟩))/\TW w' Vn t 0 D/\(∀b,D b->w.heap.size<=b)/\Below w.heap.size w w':=by refine(Sb Vn w h).mono ?_;rintro e w' ⟨t,rfl,h1,h2⟩;exact⟨t,_,rfl,⟨[],(AX.td h1).bound,rfl,fun b hb=>hb.2⟩,fun b hb=>hb.1,h2⟩
variable{g:Nat}{Ao:lc}{L:List i5}{M:aX}{co:Nat}{t:Nat}
theorem VW{w2 w3 w4 w5:World}{Dt Dg:Nat->Prop}(free:Bool)(ho:V.cH w2 fN (.sl V.af) L (.slice Ao L.length co))(hb3:Below w2.heap.size w2 w3)(ht:TW w3 Vn t 0 Dt)(hDt:∀b,Dt b->w2.heap.size<=b)
  (hb4:Below w3.heap.size w3 w4) (hd:V.cH w4 Dt V.bB (cx M.d) M.v) (hg:GD w5 g 1 1 Dg) (hDg:∀b,Dg b->w4.heap.size<=b) (hb5:Below w4.heap.size w4 w5) :
  US (w5.alloc (.cells (UP.cells ⟨w5.heap.size,t,g,Vn,M,Ao,co,L,free⟩) 54)) ⟨w5.heap.size,t,g,Vn,M,Ao,co,L,free⟩ 0 1 1 (fun b=>Dt b\/Dg b):=by
 have hal:Below w5.heap.size w5 (w5.alloc (.cells (UP.cells ⟨w5.heap.size,t,g,Vn,M,Ao,co,L,free⟩) 54)):=(Below.refl _ w5).alloc (ol _) _;have hDtl:∀b,Dt b->b<w3.heap.size:=by obtain⟨_,_,_,h⟩:=ht;exact h
 have hDgl:∀b,Dg b->b<w5.heap.size:=by obtain⟨_,_,_,_,_,_,_,h,_⟩:=hg;exact h.lt
 have s3:=hb3.size;have s4:=hb4.size;have s5:=hb5.size;have b35:Below w3.heap.size w3 w5:=hb4.trans (hb5.mono s4);have b36:=b35.trans (hal.mono b35.size);have b46:=hb5.trans (hal.mono hb5.size);have b26:=hb3.trans (b36.mono s3);refine⟨Dt,Dg,av.new w5 _ _,ht.ax (D':=fN) (.gj b36) (fun _ _ h=>h),hg.below hal,fun b h1 h2=>by have:=hDtl b h1;have:=hDg b h2;omega,fun b h=>.inl h,fun b h=>.inr h,fun h=>h.elim (fun h=>by have h:=hDtl _ h;have h:w5.heap.size<w3.heap.size:=h;omega) fun h=>abi _ (hDgl _ h),fun b h=>by
  have hs:(w5.alloc (.cells (UP.cells ⟨w5.heap.size,t,g,Vn,M,Ao,co,L,free⟩) 54)).heap.size=w5.heap.size+1:=acv
  rw[hs];rcases h with h|h
  .have:=hDtl b h;omega
  .have:=hDgl b h;omega,?_⟩
 exact⟨hd.aH (pw (D:=fN) (.gj b46) (fun _ h=>h.elim) fun b h=>h.elim .inl fun h=>.inr (hDg b h)),ho.aH (pw (D:=fN) (.gj b26) (fun _ h=>h) fun b h=>.inr (h.elim (hDt b) fun h=>by have:=hDg b h;omega))⟩
theorem Vh{N:aX}{u:Nat}{free:Bool}(hM:M.d=N.d)(ft:Fit N.d)(hs:cZ N.d Vn)(h0:iA N.d=0)(hL:L=(V.im N.d Vn).map fun y=>V.jQ y.1) :
  Fg ⟨u,t,g,Vn,M,Ao,co,L,free⟩ (V.jB N.d):=by
 have hs0:eh N.d=0:=by
  unfold iA at h0;split at h0
  .rename_i hx;exact absurd h0 hx
  .rename_i hx;exact aca fun hy=>hx hy
 have ha:fF (aZ N.d) Vn=true:=by
  unfold iA at h0;rw[qr (fun hx=>hx hs0),hs.vars,Fr]at h0;split at h0
  .assumption
  .cases h0
 have e1:M.az=N.az:=by simp[aX.d]at hM;grind
 have e2:M.bk=N.bk:=by simp[aX.d]at hM;grind
 have e3:M.ai=N.ai:=by simp[aX.d]at hM;grind
 obtain⟨s1,s2⟩:=V.Tl hs ha;have hl:=V.Uo hs ha;have f1:=ft.aw.2;have f2:=ft.ai.2;have f3:=ft.aw.1;subst hL;refine⟨fun x hx=>?_,?_,?_,hs.v2,fun l hl=>?_,fun a ha=>?_,?_,?_⟩
 .show vf M.d x _ _;rw[hM];exact V.Tj hs ft hx
 .show M.az.length+M.bk.length+_<=Vn;rw[e1,e2];exact s1
 .show _<=3*M.ai.length;rw[e3];exact s2
 .have hl:l∈M.az:=hl;rw[e1]at hl;exact(f1 l hl).2.1.2
 .have ha:a∈M.ai:=ha;rw[e3]at ha;exact⟨(f2 a ha).2.1.2,(f2 a ha).2.2.2⟩
 .show(List.map _ _).length<=_;rw[aT];omega
 .show M.az.length<=_;rw[e1];have f3:N.az.length<=4000:=f3;omega
set_option maxHeartbeats 2000000
set_option maxRecDepth 20000
theorem aaL{w:World}{N:aX}(free:Bool)(h:V.cH w fN V.bB (cx N.d) N.v)(ft:Fit N.d)(hs:cZ N.d Vn)(h0:iA N.d=0) :
  Calls Try.prog 7 #[N.v,.bool free] w fun e w'=>∃p D,e=.returned (.tuple #[.pointer (some ⟨p.u,0,none⟩),.int .i64 0])/\US w' p 0 1 1 D/\Fg p (V.jB N.d)/\p.Vn=Vn/\p.N.ai.length=N.ai.length/\(∀b,D b->w.heap.size<=b)/\Below w.heap.size w w':=by
 have hvs:N.vars=(Vn:Int):=hs.vars;have hNv:N.v=.agg #[.int .i64 (Vn:Int),.slice N.Ai N.bk.length N.ci,.slice N.Al N.az.length N.cl,.slice N.Ao N.bL.length N.co,.slice N.Ab N.bP.length N.cb,.slice N.Ac N.constraints.length N.cc,.slice N.Am N.aa.length N.cm,.slice N.An N.ai.length N.cn]:=by unfold aX.v aX.fs;rw[hvs]
 obtain⟨W,hW⟩:∃W,W=w.alloc (.cells #[.int .i64 (Vn:Int),.slice N.Ai N.bk.length N.ci,.slice N.Al N.az.length N.cl,.slice N.Ao N.bL.length N.co,.slice N.Ab N.bP.length N.cb,.slice N.Ac N.constraints.length N.cc,.slice N.Am N.aa.length N.cm,.slice N.An N.ai.length N.cn] 27):=⟨_,rfl⟩;have hbW:Below w.heap.size w W:=by rw[hW];exact(Below.refl _ w).alloc (ol _) _
 have hx:av W w.heap.size 27 #[.int .i64 (Vn:Int),.slice N.Ai N.bk.length N.ci,.slice N.Al N.az.length N.cl,.slice N.Ao N.bL.length N.co,.slice N.Ab N.bP.length N.cb,.slice N.Ac N.constraints.length N.cc,.slice N.Am N.aa.length N.cm,.slice N.An N.ai.length N.cn]:=by rw[hW];exact av.new w _ _
 have hd:=lW h hbW;have hck:=SC hd ft h0;obtain⟨L,hL⟩:∃L:List i5,L=(V.im N.d Vn).map fun y=>V.jQ y.1:=⟨_,rfl⟩;have HW:=Lib.hid hW;have HBW:=Lib.hid hbW;have HX:=Lib.hid hx;have HD:=Lib.hid hd;have HFT:=Lib.hid ft;have HS:=Lib.hid hs;have H0:=Lib.hid h0;have HL:=Lib.hid hL;have HNV:=Lib.hid hNv;rw[hNv]at hck |-;clear hW hbW hx hd hL hNv h ft hs h0 hvs
 go_enter Try.func7,Try.ntmps7
 go_wp2_with fail
 rw[<-HW.out];clear HW;refine hck.mono ?_;rintro e w1 ⟨rfl,hb1⟩;have hx1:=HX.out.below hb1 HX.out.lt;have k0:=(hx1).cell 0;have k1:=(hx1).cell 1;have k2:=(hx1).cell 2;have k3:=(hx1).cell 3;have k4:=(hx1).cell 4;have k5:=(hx1).cell 5;have k6:=(hx1).cell 6;have k7:=(hx1).cell 7;have hd1:=lW HD.out hb1;have hor:=SD hd1 HFT.out HS.out H0.out L HL.out;rw[HNV.out]at hor;have HB1:=Lib.hid hb1;have HX1:=Lib.hid hx1;have HD1:=Lib.hid hd1;clear hck hb1 hx1 hd1
 go_wp2_with fail
 refine hor.mono ?_;rintro e w2 ⟨Ao,co,rfl,hb2,hdo⟩;have hx2:=HX1.out.below hb2 HX1.out.lt;clear k0 k1 k2 k3 k4 k5 k6 k7;have m0:=(hx2.drew).cell 0;have m1:=(hx2.drew).cell 1;have m2:=(hx2.drew).cell 2;have m3:=(hx2.drew).cell 3;have m4:=(hx2.drew).cell 4;have m5:=(hx2.drew).cell 5;have m6:=(hx2.drew).cell 6;have m7:=(hx2.drew).cell 7;have hd2:=lW HD1.out hb2;have hv2:=HS.out.v2;have HB2:=Lib.hid hb2;have HX2:=Lib.hid hx2;have HD2:=Lib.hid hd2;have HDO:=Lib.hid hdo;clear hor hb2 hx2 hd2 hdo
 go_wp2_with fail
 have hcl:∀t D w3,TW w3 Vn t 0 D->(∀b,D b->w2.heap.size<=b)->Below w2.drew.heap.size w2.drew w3->Hid (Calls Try.prog 22 #[N.v] w3 fun e w'=>∃M:aX,M.d=N.d/\e=.returned (.agg #[.int .i64 M.vars,.slice M.Ai M.bk.length M.ci,.slice M.Al M.az.length M.cl,.slice M.Ao M.bL.length M.co,.slice M.Ab M.bP.length M.cb,.slice M.Ac M.constraints.length M.cc,.slice M.Am M.aa.length M.cm,.slice M.An M.ai.length M.cn])/\Below w3.heap.size w3 w'/\V.cH w' D V.bB (cx M.d) M.v):=fun t D w3 ht hD hb3=>by
  have mV:V.cH w3 D V.bB (cx N.d) N.v:=(lW HD2.out (Below.refl _ w2).drew).aH (pw (D:=fN) (.gj hb3) (fun _ h=>h) fun b hb=>.inr (hD b hb));have hlt:∀b,D b->b<w3.heap.size:=by obtain⟨_,_,_,h⟩:=ht;exact h
  exact Lib.hid (Tg hlt mV HFT.out)
 rw[HNV.out]at hcl;have HCL:=Lib.hid hcl;clear hcl
 go_region_law (first
  |(go_simp;go_at_call 21;refine(Tx _ Vn hv2).mono ?_;rintro e w3 ⟨t,Dt,rfl,ht,hDt,hb3⟩;have hcl3:=HCL.out t Dt w3 ht hDt hb3;have hx3:=HX2.out.drew.below hb3 HX2.out.drew.lt;have n0:=hx3.cell 0;have n1:=hx3.cell 1;have n2:=hx3.cell 2;have n3:=hx3.cell 3;have n4:=hx3.cell 4;have n5:=hx3.cell 5;have n6:=hx3.cell 6;have n7:=hx3.cell 7;have HCL3:=Lib.hid hcl3;have HT:=Lib.hid ht;have HDT:=Lib.hid hDt;have HB3:=Lib.hid hb3;clear hcl3 hx3 ht hDt hb3)
  |(go_simp;go_at_call 22;refine HCL3.out.out.mono ?_;rintro e w4 ⟨M,hMd,rfl,hb4,hd4⟩;have HM:=Lib.hid hMd;have HB4:=Lib.hid hb4;have HD4:=Lib.hid hd4;clear hMd hb4 hd4)
  |(go_simp;go_at_call 23;refine(VM _).mono ?_;rintro e w5 ⟨g,Dg,rfl,hg,hDg,hb5⟩;have HG:=Lib.hid hg;have HDG:=Lib.hid hDg;have HB5:=Lib.hid hb5;clear hg hDg hb5))
 all_goals (
  go_wp2_with fail
  go_ret2
  have s2:=HB2.out.size;have b3:Below w2.heap.size w2 w3:=(Below.refl _ w2).drew.trans HB3.out;have hu:=VW free HDO.out b3 HT.out HDT.out HB4.out HD4.out HG.out HDG.out HB5.out;have e3:M.ai=N.ai:=by have:=HM.out;simp[aX.d]at this;grind
  refine⟨⟨w5.heap.size,t,g,Vn,M,Ao,co,L,free⟩,_,rfl,hu,Vh HM.out HFT.out HS.out H0.out HL.out,rfl,by rw[e3],fun b hb=>pp (pp (pp HBW.out.size HB1.out.size) s2) (hb.elim (HDT.out b) fun h=>pp (pp b3.size HB4.out.size) (HDG.out b h)),?_⟩;exact(HBW.out.trans ((HB1.out.mono HBW.out.size).trans ((HB2.out.mono (pp HBW.out.size HB1.out.size)).trans ((b3.mono (pp (pp HBW.out.size HB1.out.size) s2)).trans ((HB4.out.mono (pp (pp (pp HBW.out.size HB1.out.size) s2) b3.size)).trans (HB5.out.mono (pp (pp (pp (pp HBW.out.size HB1.out.size) s2) b3.size) HB4.out.size))))))).alloc (pp (pp (pp (pp (pp HBW.out.size HB1.out.size) s2) b3.size) HB4.out.size) HB5.out.size) _)
open V (cx kC nX Qj)
section
variable{w:World}{N:aX}
theorem Vc(h:V.cH w fN V.bB (cx N.d) N.v):∃b:Bool,(b=true->V.qD (cx N.d))/\Calls Try.prog 4 #[N.v] w fun e w'=>e=.returned (.bool b)/\Below w.heap.size w w':=by obtain⟨b,e,hb⟩:=V.Xj (cx N.d);refine⟨b,hb,(V.MT.ok.2 (cx N.d,()) _ e w fN [N.v] (fun b h=>h.elim) ⟨N.v,_,rfl,h,rfl⟩).mono ?_⟩;rintro e w' ⟨vs,rfl,hb,v1,r,rfl,h1,hr⟩;have hr:r=[]:=hr;subst hr;rw[AF h1];exact⟨rfl,hb⟩
theorem JE(h:V.cH w fN V.bB (cx N.d) N.v)(ft:Fit N.d):Calls Try.prog 5 #[N.v] w fun e w'=>e=.returned (.int .i64 (iA N.d))/\Below w.heap.size w w':=by refine(V.MH.ok.2 (cx N.d,()) _ (V.Zxe ft) w fN [N.v] (fun b h=>h.elim) ⟨N.v,_,rfl,h,rfl⟩).mono ?_;rintro e w' ⟨vs,rfl,hb,v1,r,rfl,h1,hr⟩;have hr:r=[]:=hr;subst hr;rw[Jt h1];exact⟨rfl,hb⟩
end
variable{C:Nat}{k:Nat}{D:Nat->Prop}{p:UP}
theorem AU{w:World}{v:Nat}(h:US w p k v C D):Calls Try.prog 8 #[.pointer (some ⟨p.u,0,none⟩)] w fun e w'=>e=.returned (.pointer (some ⟨p.g,0,none⟩))/\w=w':=by
 have c:=h.mS;clear h
 go_enter Try.func8,Try.ntmps8
 go_wp2_with fail
 go_ret
 exact⟨rfl,rfl⟩
theorem AJ{w:World}{v:Nat}(h:US w p k v C D)(hC:C<999990):Calls Try.prog 9 #[.pointer (some ⟨p.g,0,none⟩)] w fun e w'=>∃f cs D' rv,e=.returned (.pointer (some ⟨f,0,none⟩))/\FD w' f v cs D' rv/\cs.length=C/\Below w.heap.size w w':=by obtain⟨Dg,hg⟩:=h.gd;exact SA hg hC
set_option maxHeartbeats 4000000
theorem Sy{w:World}{N:aX}(free:Bool)(h:V.cH w fN V.bB (cx N.d) N.v)(ok:V.jR V.bB (cx N.d)) :
  Calls Try.prog 3 #[N.v,.bool free] w fun e w'=>e=.returned (.bool true)/\Below w.heap.size w w':=by
 have hNv:N.v=.agg #[.int .i64 N.vars,.slice N.Ai N.bk.length N.ci,.slice N.Al N.az.length N.cl,.slice N.Ao N.bL.length N.co,.slice N.Ab N.bP.length N.cb,.slice N.Ac N.constraints.length N.cc,.slice N.Am N.aa.length N.cm,.slice N.An N.ai.length N.cn]:=rfl;obtain⟨W,hW⟩:∃W,W=w.alloc (.cells #[.int .i64 N.vars,.slice N.Ai N.bk.length N.ci,.slice N.Al N.az.length N.cl,.slice N.Ao N.bL.length N.co,.slice N.Ab N.bP.length N.cb,.slice N.Ac N.constraints.length N.cc,.slice N.Am N.aa.length N.cm,.slice N.An N.ai.length N.cn] 27):=⟨_,rfl⟩;have hbW:Below w.heap.size w W:=by rw[hW];exact(Below.refl _ w).alloc (ol _) _
 have hx:av W w.heap.size 27 #[.int .i64 N.vars,.slice N.Ai N.bk.length N.ci,.slice N.Al N.az.length N.cl,.slice N.Ao N.bL.length N.co,.slice N.Ab N.bP.length N.cb,.slice N.Ac N.constraints.length N.cc,.slice N.Am N.aa.length N.cm,.slice N.An N.ai.length N.cn]:=by rw[hW];exact av.new w _ _
 have hd:=lW h hbW;obtain⟨b,hbl,hli⟩:=Vc hd;have HW:=Lib.hid hW;have HBW:=Lib.hid hbW;have HX:=Lib.hid hx;have HD:=Lib.hid hd;have HNV:=Lib.hid hNv;have HOK:=Lib.hid ok;rw[hNv]at hli |-;clear hW hbW hx hd hNv h ok;rcases b with _|_
 .clear hbl
  go_enter Try.func3,Try.ntmps3
  go_wp2_with fail
  rw[<-HW.out];clear HW;refine hli.mono ?_;rintro e w1 ⟨rfl,hb1⟩;have HB1:=Lib.hid hb1;clear hli hb1
  go_wp2_with fail
  refine(vc _).mono ?_;rintro e w2 ⟨rfl,hb2⟩;have HB2:=Lib.hid hb2;clear hb2
  go_wp2_with fail
  go_ret
  exact⟨rfl,HBW.out.trans ((HB1.out.mono HBW.out.size).trans (HB2.out.mono (pp HBW.out.size HB1.out.size)))⟩
 have ft:Fit N.d:=by
  have:=V.UT HOK.out (hbl rfl)
  rwa [nX]at this
 have HFT:=Lib.hid ft;clear hbl ft;by_cases h100:100<N.vars
 .have hgt:decide (100<N.vars)=true:=by simpa using h100
  go_enter Try.func3,Try.ntmps3
  go_wp2_with fail
  rw[<-HW.out];clear HW;refine hli.mono ?_;rintro e w1 ⟨rfl,hb1⟩;have k0:=(HX.out.below hb1 HX.out.lt).cell 0;simp only[pu,pm]at k0;have HB1:=Lib.hid hb1;clear hli hb1
  go_wp2_with fail
  refine(vc _).mono ?_;rintro e w2 ⟨rfl,hb2⟩;have HB2:=Lib.hid hb2;clear hb2
  go_wp2_with fail
  go_ret
  exact⟨rfl,HBW.out.trans ((HB1.out.mono HBW.out.size).trans (HB2.out.mono (pp HBW.out.size HB1.out.size)))⟩
 have hgt:decide (100<N.vars)=false:=by simpa using h100
 obtain⟨c,hc⟩:∃c,c=iA N.d:=⟨_,rfl⟩;by_cases hc0:c=0
 .subst hc0;have hs0:eh N.d=0:=by
   have h0:=hc.symm;unfold iA at h0;split at h0
   .rename_i hx;exact absurd h0 hx
   .rename_i hx;exact aca fun hy=>hx hy
  obtain⟨Vn,hs⟩:=Cd hs0;have hvs:N.vars=(Vn:Int):=hs.vars;have hV100:Vn<=100:=acs
  have HS:=Lib.hid hs;have HC:=Lib.hid hc.symm;have hnab:N.ai.length<=4000:=HFT.out.ai.1;have HVS:=Lib.hid hvs;clear hs0 hs hc h100 hvs
  go_enter Try.func3,Try.ntmps3
  go_wp2_with fail
  rw[<-HW.out];clear HW;refine hli.mono ?_;rintro e w1 ⟨rfl,hb1⟩;have hx1:=HX.out.below hb1 HX.out.lt;have k0:=(hx1).cell 0;have k1:=(hx1).cell 1;have k2:=(hx1).cell 2;have k3:=(hx1).cell 3;have k4:=(hx1).cell 4;have k5:=(hx1).cell 5;have k6:=(hx1).cell 6;have k7:=(hx1).cell 7;have hck:=JE (lW HD.out hb1) HFT.out;rw[HC.out,HNV.out]at hck;have hd1:=lW HD.out hb1;have HB1:=Lib.hid hb1;have HX1:=Lib.hid hx1;have HD1:=Lib.hid hd1;clear hli hb1 hx1 hd1 HX HD
  go_wp2_with fail
  refine hck.mono ?_;rintro e w2 ⟨rfl,hb2⟩;have hx2:=HX1.out.below hb2 HX1.out.lt;clear k0 k1 k2 k3 k4 k5 k6 k7;have k0:=(hx2).cell 0;have k1:=(hx2).cell 1;have k2:=(hx2).cell 2;have k3:=(hx2).cell 3;have k4:=(hx2).cell 4;have k5:=(hx2).cell 5;have k6:=(hx2).cell 6;have k7:=(hx2).cell 7;have hne:=aaL free (lW HD1.out hb2) HFT.out HS.out HC.out;rw[HNV.out]at hne;have HB2:=Lib.hid hb2;have HX2:=Lib.hid hx2;clear hck hb2 hx2 HX1 HD1
  go_wp2_with fail
  refine hne.mono ?_;rintro e w3 ⟨p,D3,rfl,hu3,bM,hpv,hpa,mV,hb3⟩;have hx3:=HX2.out.below hb3 HX2.out.lt;have hxD:∀b,D3 b->w.heap.size<b:=fun b hb=>by have:=mV b hb;have:=HX2.out.lt;omega
  have hg3:=AU hu3;have hf3:=AJ hu3 acs;have HU3:=Lib.hid hu3;have OK:=Lib.hid bM;have HPV:=Lib.hid hpv;have HPA:=Lib.hid hpa;have HB3:=Lib.hid hb3;have HX3:=Lib.hid hx3;have HXD:=Lib.hid hxD;clear hne hu3 bM hpv hpa hb3 hx3 hxD mV k0 k1 k2 k3 k4 k5 k6 k7 HX2
  go_wp2_with fail
  refine hg3.mono ?_;rintro e w' ⟨rfl,rfl⟩
  go_wp2_with fail
  refine hf3.mono ?_;rintro e w4 ⟨f,cs,D',rv,rfl,hfd,hcl,hb4⟩;have hv4:=qV hfd;have hu4:=HU3.out.below hb4;have hg4:=AU hu4;have hf4:=AJ hu4 acs;have HU4:=Lib.hid hu4;have HB4:=Lib.hid hb4;clear hg3 hf3 hfd hu4 hb4
  go_wp2_with fail
  refine hv4.mono ?_;rintro e w' ⟨rfl,rfl⟩
  go_wp2_with fail
  refine hg4.mono ?_;rintro e w' ⟨rfl,rfl⟩
  go_wp2_with fail
  refine hf4.mono ?_;rintro e w5 ⟨f5,cs5,D5',rv5,rfl,hfd5,hcl5,hb5⟩;have hl5:=JG hfd5;rw[hcl5]at hl5;have hu5:=HU4.out.below hb5;have hb35:=HB4.out.trans (hb5.mono HB4.out.size);have hx5:=HX3.out.below hb35 HX3.out.lt;have hb05:Below w.heap.size w w5:=HBW.out.trans ((HB1.out.mono HBW.out.size).trans ((HB2.out.mono (pp HBW.out.size HB1.out.size)).trans ((HB3.out.mono (pp (pp HBW.out.size HB1.out.size) HB2.out.size)).trans (hb35.mono (pp (pp (pp HBW.out.size HB1.out.size) HB2.out.size) HB3.out.size)))));have HU5:=Lib.hid hu5;have HX5:=Lib.hid hx5;have HB05:=Lib.hid hb05;clear hv4 hg4 hf4 hfd5 hcl hcl5 hu5 hx5 hb05 hb5 hb35
  go_wp2_with fail
  refine hl5.mono ?_;rintro e w' ⟨rfl,rfl⟩;clear hl5
  go_wp2_with fail
  obtain⟨na,hna⟩:∃na,na=N.ai.length:=⟨_,rfl⟩;rw[<-hna]at hnab;have HNA:=Lib.hid hna;clear hna
  go_loopw [7,8,9] (fun vv cc i wr=>∃(k V C:Nat) (D:Nat->Prop),k<=42/\i=.int .i64 k/\vv=.int .i64 (V:Int)/\cc=.int .i64 (C:Int)/\V<=1+k*Vn/\C<=1+k*(3*na)/\Hid (US wr p k V C D/\(∀b,D b->w.heap.size<b)/\av wr w.heap.size 27 #[.int .i64 N.vars,.slice N.Ai N.bk.length N.ci,.slice N.Al N.az.length N.cl,.slice N.Ao N.bL.length N.co,.slice N.Ab N.bP.length N.cb,.slice N.Ac N.constraints.length N.cc,.slice N.Am N.aa.length N.cm,.slice N.An N.ai.length N.cn]/\Below w.heap.size w wr)) (fun _ _ i _=>42-(intOf i).toNat)
  case atStart=>exact⟨0,1,1,D3,acs,rfl,rfl,rfl,acs,acs,Lib.hid ⟨HU5.out,HXD.out,HX5.out,HB05.out⟩⟩
  case round=>
   obtain⟨k,V,C,D,hk,rfl,rfl,rfl,hVb,hCb,hI⟩:=hrel;by_cases hlt:k<42
   .obtain⟨hu,hD,hx,hb⟩:=hI.out;have hkV:k*Vn<=42*100:=abZ acs hV100;have hkC:k*(3*na)<=42*12000:=abZ acs acs;have hpu:=We hu OK.out hlt (by rw[HPV.out];omega) (by rw[HPA.out,<-HNA.out];omega);rw[HPV.out,HPA.out,<-HNA.out]at hpu;have HDD:=Lib.hid hD;have HXX:=Lib.hid hx;have HBB:=Lib.hid hb;clear hI hu hD hx hb
    go_wp2_with fail
    refine hpu.mono ?_;rintro e w6 ⟨rfl,V1,C1,D1,hu6,v1,v2,c1,c2,hd6,f6⟩;have hx6:=f6.fD HXX.out fun h=>abi _ (HDD.out _ h);have hD6:∀b,D1 b->w.heap.size<b:=fun b hb=>(hd6 b hb).elim (HDD.out b) fun h=>by have:=HXX.out.lt;omega
    have hb6:Below w.heap.size w w6:=HBB.out.trans (f6.below HBB.out.size fun b hb=>Nat.le_of_lt (HDD.out b hb));have hg6:=AU hu6;have hf6:=AJ hu6 acs;have HU6:=Lib.hid hu6;have HX6:=Lib.hid hx6;have HD6:=Lib.hid hD6;have HB6:=Lib.hid hb6;clear hpu hu6 hx6 hD6 hb6 hd6 f6
    go_wp2_with fail
    refine hg6.mono ?_;rintro e w' ⟨rfl,rfl⟩
    go_wp2_with fail
    refine hf6.mono ?_;rintro e w7 ⟨f7,cs7,D7',rv7,rfl,hfd7,hcl7,hb7⟩;have hx7:=HX6.out.below hb7 HX6.out.lt;have hu7:=HU6.out.below hb7;have hb07:=HB6.out.trans (hb7.mono HB6.out.size);have hv7:Hid (∀q,Calls Try.prog 10 #[.pointer (some ⟨f7,0,none⟩)] (w7.drewN q) fun e w'=>e=.returned (.int .i64 (V1:Int))/\w7.drewN q=w'):=Lib.hid fun q=>qV (hfd7.drewN q);have hl7:Hid (∀q,Calls Try.prog 11 #[.pointer (some ⟨f7,0,none⟩)] (w7.drewN q) fun e w'=>e=.returned (.int .i64 (C1:Int))/\w7.drewN q=w'):=Lib.hid fun q=>by have:=JG (hfd7.drewN q);rwa [hcl7]at this
    have x0:=hx7.cell 0;have x7:=hx7.cell 7;simp only[pu,rx,pm]at x0 x7;rw[HVS.out]at x0;rw[<-HNA.out]at x7;have n1:=IntWalk.i64_in ((V1:Int)-(V:Int)) ⟨acs,acs⟩;have n2:=IntWalk.i64_in (3*(na:Int)) ⟨acs,acs⟩;have n3:=IntWalk.i64_in ((C1:Int)-(C:Int)) ⟨acs,acs⟩;have g1:decide ((Vn:Int)<(V1:Int)-(V:Int))=false:=by simp;omega
    have g2:decide (3*(na:Int)<(C1:Int)-(C:Int))=false:=by simp;omega
    have HU7:=Lib.hid hu7;have HX7:=Lib.hid hx7;have HB7:=Lib.hid hb07;clear hg6 hf6 hfd7 hcl7 hb7 hx7 hu7 hb07
    go_wp2_with fail
    go_quiet ((first|(go_at_call 10;exact mW (hv7.out _))|(go_at_call 11;exact mW (hl7.out _))))
    go_wp2_with fail
    refine(hv7.out _).mono ?_;rintro e w' ⟨rfl,rfl⟩
    go_wp2_with fail
    refine(hl7.out _).mono ?_;rintro e w' ⟨rfl,rfl⟩
    go_wp2_with fail
    go_roundw
    case rel=>have e1:(k+1)*Vn=k*Vn+Vn:=Nat.succ_mul k Vn;have e2:(k+1)*(3*na)=k*(3*na)+3*na:=Nat.succ_mul k (3*na);exact⟨k+1,V1,C1,D1,acs,by go_num,rfl,rfl,acs,acs,Lib.hid ⟨HU7.out.below (below_drewN (Below.refl _ _) nq),HD6.out,HX7.out.drewN nq,below_drewN HB7.out nq⟩⟩
    case measure=>simp[intOf];omega
   .obtain rfl:k=42:=acs
    obtain⟨hu,hD,hx,hb⟩:=hI.out;have hl:=Vr hu;have hfr:=AN hu;have HBB:=Lib.hid hb;clear hI hu hD hx hb
    go_wp2_with fail
    refine hl.mono ?_;rintro e w' ⟨rfl,rfl⟩
    go_wp2_with fail
    refine hfr.mono ?_;rintro e w' ⟨rfl,rfl⟩
    go_wp2_with fail
    refine(vc _).mono ?_;rintro e w9 ⟨rfl,hb9⟩;have HB9:=Lib.hid hb9;clear hb9
    go_wp2_with fail
    go_ret
    exact⟨rfl,HBB.out.trans (HB9.out.mono HBB.out.size)⟩
 .have hc0':(c == 0)=false:=rc.2 hc0;have HC:=Lib.hid hc;clear hc0 hc
  go_enter Try.func3,Try.ntmps3
  go_wp2_with fail
  rw[<-HW.out];clear HW;refine hli.mono ?_;rintro e w1 ⟨rfl,hb1⟩;have hx1:=HX.out.below hb1 HX.out.lt;have k0:=(hx1).cell 0;have k1:=(hx1).cell 1;have k2:=(hx1).cell 2;have k3:=(hx1).cell 3;have k4:=(hx1).cell 4;have k5:=(hx1).cell 5;have k6:=(hx1).cell 6;have k7:=(hx1).cell 7;have hck:=JE (lW HD.out hb1) HFT.out;rw[<-HC.out,HNV.out]at hck;have HB1:=Lib.hid hb1;clear hli hb1 hx1
  go_wp2_with fail
  refine hck.mono ?_;rintro e w2 ⟨rfl,hb2⟩;have HB2:=Lib.hid hb2;clear hck hb2
  go_wp2_with fail
  refine(vc _).mono ?_;rintro e w3 ⟨rfl,hb3⟩;have HB3:=Lib.hid hb3;clear hb3
  go_wp2_with fail
  go_ret
  have s1:=HBW.out.size;have s2:=pp s1 HB1.out.size;have s3:=pp s2 HB2.out.size;exact⟨rfl,HBW.out.trans ((HB1.out.mono s1).trans ((HB2.out.mono s2).trans (HB3.out.mono s3)))⟩
end Go.Proofs.Ytbbhihkocghhaaa
end
section
namespace Go.Proofs.Ytbbhihkocghhaaa.V
open Go Go.RowKit Go.Proofs.Ytbbhihkocghhaaa.Pl Classical in
noncomputable def zN:TL [bB,.bool]->Option (TL [.bool]):=fun d=>if jR bB d.1 then some (true,())else none
theorem Se:Comes Try.prog 3 [bB,.bool] [.bool] zN:=by
 refine⟨⟨Try.f3,bC Try.f3,Try.func3,acu,acu⟩,?_⟩;rintro⟨d,fr,u⟩ x hx w A args hA ha;unfold zN at hx;split at hx<;>cases hx;rename_i bM;obtain⟨v,r,rfl,h1,v2,r2,rfl,h2,hr⟩:=ha;have hr:r2=[]:=hr;subst hr;obtain⟨N,rfl,hN,_⟩:=qW h1;have h2:cH w A .bool fr v2:=h2;rw[AF h2];have hd:cx N.d=d:=by rw[hN];exact Qj d
 have h1:cH w fN bB (cx N.d) N.v:=by rw[hd];exact h1.aH fun b o h q=>⟨q,fun h=>h⟩
 refine(Sy fr h1 (by rw[hd];exact bM)).mono ?_;rintro e w' ⟨rfl,hb⟩;exact⟨[.bool true],rfl,hb,.bool true,[],rfl,⟨rfl,rfl⟩,rfl⟩
noncomputable def Ia:Kd 3 [bB,.bool] [.bool]:=⟨zN,Se⟩
theorem SL(d:bB.T)(b:Bool)(h:jR bB d)(_:jR .bool b):Ia.F (d,b,())=some (true,()):=ut h
