import Derived.Test.YtjflbmpepamfjaaGreatKGh
import Derived.Test.YtjflbmpepamfjaaGreatKGe
set_option linter.all false
section
namespace Go.Proofs.YtjflbmpepamfjaaGreat
open Go Go.RowKit Pl
structure zG(d:cS):Prop where
 a1:1<=d.addr/\d.addr<=62
 w1:1<=d.word/\d.word<=64
 rn:d.reads.length<=4
 wn:d.writes.length<=4
 rd:∀r∈d.reads,(r.addr.length:Int)=d.addr/\(-1099511627776<=r.var/\r.var<=1099511627776)/\∀x∈r.addr,x<=9223372036854775807
abbrev iH(m:bk)(base:Nat)(rd:Value):Array Value:=#[.int .i64 m.addr,.int .i64 m.word,.bool m.any,.slice m.A m.reads.length m.c,.slice m.A2 m.writes.length m.c2,.int .i64 base,rd]
theorem mem_of{w:World}{A:Nat->Prop}{m:bk}(h:V.bR w A V.aj (V.aF m.d) m.v):∃M:bk,M.v=m.v/\M.d=m.d/\M.bU w w.heap.size:=by
 obtain⟨Ms,h1,h2,h3⟩:=V.AB (L:=[V.aF m.d]) (X:=m.v.cells.toList) ⟨m.v.cells.toList,[],aGn,h.1,rfl⟩;rw[IS,aFi,V.Hx]at h1;rcases Ms with _|⟨M,_|⟨M2,Ms⟩⟩
 .exact absurd (IT List.length h1) aGn
 rotate_left
 .exact absurd (IT List.length h1) aGn
 .rw[IS,aFi]at h1;injection h1 with h1 _;refine⟨M,?_,h1,h3 M aGn⟩;simp only[Fn,aER,dJ]at h2;have e:m.v.cells.toList=m.cells:=rfl;rw[e]at h2;have e2:∀M:bk,M.v=.agg M.cells.toArray:=fun M=>rfl
  rw[e2,e2,h2]
variable{i:Nat}
theorem afg{w:World}{A:Nat->Prop}{m:bk}(h:V.bR w A V.aj (V.aF m.d) m.v)(hi:i<m.reads.length) :
  ∃b off r,m.A=some ⟨b,off,none⟩/\m.d.reads[i]?=some (cO.d r)/\b<w.heap.size/\w.cell? ⟨b,off+i*2,none⟩=some (.int .i64 r.var)/\w.cell? ⟨b,off+i*2+1,none⟩=some (.slice r.A r.addr.length r.c)/\cD w (fun _=>False) r.A r.addr:=by
 obtain⟨M,h1,h2,h3⟩:=mem_of h;have e1:M.A=m.A/\M.reads.length=m.reads.length/\M.c=m.c:=by simp[bk.v]at h1;exact⟨h1.2.2.2.1.1,h1.2.2.2.1.2.1,h1.2.2.2.1.2.2⟩
 obtain⟨b,off,r,hA,hb,hr,hm,hc⟩:=Sl.elem h3.rd aGl (fun x=>rfl) (k:=i) aGl;have hk:=h3.gC r hm;obtain⟨c0,c1⟩:=cO.at_ hc;refine⟨b,off,r,by rw[<-e1.1,hA],?_,hb,c0,c1,fun j hj=>?_⟩
 .have:M.d.reads[i]?=some (cO.d r):=by show(M.reads.map cO.d)[i]?=_;rw[dO,hr];rfl
  rw[<-h2];exact this
 .have hk1:Reads w w.heap.size 1 r.A r.addr.length (ints r.addr):=hk.1;obtain⟨b,o,e,hb,hc⟩:=hk1.oU hj;exact⟨b,o,e,fun h=>h,hb,hc⟩
variable{X:World}
theorem rD{W:World}(h:Below X.heap.size X W)(o:Obj):Below X.heap.size X (W.alloc o):=h.alloc h.size o
variable{b:Nat}
theorem tD{W:World}(h:Below X.heap.size X W)(hb:X.heap.size<=b)(a0 a1 a2 a3:Value):Below X.heap.size X ((((W.setCell ⟨b,0,none⟩ a0).setCell ⟨b,1,none⟩ a1).setCell ⟨b,2,none⟩ a2).setCell ⟨b,3,none⟩ a3):=(((h.setCell hb a0).setCell hb a1).setCell hb a2).setCell hb a3
structure S1(X w:World)(na:Nat)(A:lc)(c:Nat)(r:io):Prop where
 b:Below X.heap.size X w
 o:w.ownsRow X.heap.size 3 1 (.slice A na c) na (iv r)
 l:gV r
variable{c:Nat}{r:io}{na:Nat}
theorem S1.qE{w w':World}{A:lc}(h:S1 X w na A c r)(hb:Below w.heap.size w w'):S1 X w' na A c r:=⟨h.b.trans (hb.mono h.b.size),(ak.cR (D:=fun _=>False) hb).own h.o (fun _ _ h=>h),h.l⟩
abbrev yy:Nat->Prop:=fun _=>False
def vR(w:World)(nd:Nat)(A:lc)(l:io):Prop:=cD w yy A l/\l.length=nd/\∀x∈l,x<=9223372036854775807
variable{nd:Nat}
theorem vR.qE{w w':World}{A:lc}{l:io}(h:vR w nd A l)(hb:Below w.heap.size w w'):vR w' nd A l:=⟨h.1.below hb,h.2⟩
variable{c4:Nat}{w4:World}{zs:Array Value}{r4:io}{A4:lc}
theorem zK{A:lc}{D':Nat->Prop}{act:Int}(h1:S1 X w4 na A c r)(h2:S1 X w4 nd A4 c4 r4)(hz:af w4 b 153 zs)(hb:X.heap.size<=b)(hD:∀b,D' b->b<X.heap.size)(ha:-65536<=act/\act<=65536)(hzs:zs.size=4:=by rfl) :
  Below X.heap.size X ((((w4.setCell ⟨b,0,none⟩ (.int .i64 act)).setCell ⟨b,1,none⟩ (.slice A na c)).setCell ⟨b,2,none⟩ (.slice A4 nd c4)).setCell ⟨b,3,none⟩ (.int .i64 0))/\X.heap.size<=b /\
  af ((((w4.setCell ⟨b,0,none⟩ (.int .i64 act)).setCell ⟨b,1,none⟩ (.slice A na c)).setCell ⟨b,2,none⟩ (.slice A4 nd c4)).setCell ⟨b,3,none⟩ (.int .i64 0)) b 153 (dB.cells ⟨act,A,c,r,A4,c4,r4,0⟩ na nd).toArray /\
  dB.Ok ((((w4.setCell ⟨b,0,none⟩ (.int .i64 act)).setCell ⟨b,1,none⟩ (.slice A na c)).setCell ⟨b,2,none⟩ (.slice A4 nd c4)).setCell ⟨b,3,none⟩ (.int .i64 0)) (fun x=>D' x\/x=b) na nd ⟨act,A,c,r,A4,c4,r4,0⟩/\(⟨act,A,c,r,A4,c4,r4,0⟩:dB).mG=0:=by
 have n1:(Value.slice A na c).ownBlock≠some b:=dZ h1.o hz aGo;have n2:(Value.slice A4 nd c4).ownBlock≠some b:=dZ h2.o hz aGo;have dz:∀{B n:Nat}{v:Value}{xs:kw},w4.ownsRow B 3 1 v n xs->v.ownBlock≠some b->((((w4.setCell ⟨b,0,none⟩ (.int .i64 act)).setCell ⟨b,1,none⟩ (.slice A na c)).setCell ⟨b,2,none⟩ (.slice A4 nd c4)).setCell ⟨b,3,none⟩ (.int .i64 0)).ownsRow B 3 1 v n xs:=fun h hn=>jR (jR (jR (jR h hn) hn) hn) hn;have o1:=dz h1.o n1;have o2:=dz h2.o n2;refine⟨tD h1.b hb _ _ _ _,hb,?_,⟨cD.j5 o1 (fun x hx hd=>hd.elim (fun hd=>absurd (hD x hd) (by have:=(o1.lt x hx).1;omega)) fun e=>n1 (e▸hx)),cD.j5 o2 (fun x hx hd=>hd.elim (fun hd=>absurd (hD x hd) (by have:=(o2.lt x hx).1;omega)) fun e=>n2 (e▸hx)),by have:=o1.1;rw[fX]at this;simpa using this,by have:=o2.1;rw[fX]at this;simpa using this,h1.l,h2.l,ha,(by decide:(-65536:Int)<=0),(by decide:(0:Int)<=65536)⟩,rfl⟩;have:=(((hz.dL 0 (.int .i64 act)).dL 1 (.slice A na c)).dL 2 (.slice A4 nd c4)).dL 3 (.int .i64 0);obtain⟨l⟩:=zs;rcases l with _|⟨a,_|⟨b1,_|⟨c1,_|⟨d1,_|⟨e1,l⟩⟩⟩⟩⟩<;>first|(simp at hzs;done)|skip
 simpa[dB.cells]using this
theorem ahc{A:lc}{D':Nat->Prop}{act:Int}(h1:S1 X w4 na A c r)(h2:S1 X w4 nd A4 c4 r4)(hD:∀b,D' b->b<X.heap.size)(ha:-65536<=act/\act<=65536) :
  Below X.heap.size X (w4.alloc (.cells #[.int .i64 act,.slice A na c,.slice A4 nd c4,.int .i64 0] 153))/\X.heap.size<=w4.heap.size /\
  af (w4.alloc (.cells #[.int .i64 act,.slice A na c,.slice A4 nd c4,.int .i64 0] 153)) w4.heap.size 153 (dB.cells ⟨act,A,c,r,A4,c4,r4,0⟩ na nd).toArray /\
  dB.Ok (w4.alloc (.cells #[.int .i64 act,.slice A na c,.slice A4 nd c4,.int .i64 0] 153)) (fun x=>D' x\/x=w4.heap.size) na nd ⟨act,A,c,r,A4,c4,r4,0⟩/\(⟨act,A,c,r,A4,c4,r4,0⟩:dB).mG=0:=by
 have o1:=h1.o.alloc (.cells #[.int .i64 act,.slice A na c,.slice A4 nd c4,.int .i64 0] 153);have o2:=h2.o.alloc (.cells #[.int .i64 act,.slice A na c,.slice A4 nd c4,.int .i64 0] 153);exact⟨rD h1.b _,h1.b.size,af.new _ _ _,⟨cD.j5 o1 (fun x hx hd=>hd.elim (fun hd=>absurd (hD x hd) (by have:=(o1.lt x hx).1;omega)) fun e=>absurd (h1.o.lt x hx).2 aGl),cD.j5 o2 (fun x hx hd=>hd.elim (fun hd=>absurd (hD x hd) (by have:=(o2.lt x hx).1;omega)) fun e=>absurd (h2.o.lt x hx).2 aGl),by have:=o1.1;rw[fX]at this;simpa using this,by have:=o2.1;rw[fX]at this;simpa using this,h1.l,h2.l,ha,(by decide:(-65536:Int)<=0),(by decide:(0:Int)<=65536)⟩,rfl⟩
variable{v:Nat}{E:Nat->Prop}
theorem US.store{w w':World}{p:UP}{k C mb:Nat}{D:Nat->Prop}(h:US w p k v C D)(hf:ak (fun b=>b=mb) w w')(hm:¬D mb)(hu:p.u≠mb)(hN:eX w p.N p.ov p.L (fun b=>D b\/E b))(hE:E mb):US w' p k v C D:=by obtain⟨Dt,Dg,h⟩:=h;have hn:=hN.an (A':=fun b=>D b\/E b) hf (fun b hb=>.inr (by have hb:b=mb:=hb;rw[hb];exact hE)) (fun b h=>.inl h);exact⟨Dt,Dg,hf.cC h.bx hu,h.tb.an hf (fun b hb e=>hm (by have e:b=mb:=e;rw[<-e];exact h.st b hb)),h.gs.an hf (fun b hb e=>hm (by have e:b=mb:=e;rw[<-e];exact h.sg b hb)),h.gZ,h.st,h.sg,h.nu,fun b hb=>ro (h.lt b hb) hf.size,⟨hn.jb.keep fun b o hb hs=>⟨hs,fun hx=>hb (.inl hx)⟩,hn.ord.keep fun b o hb hs=>⟨hs,fun hx=>hb (.inl hx)⟩⟩⟩
theorem aei{P:Program}{e:TypeId}{z:Value}{size bytes:Nat}(h:(P.info? e).map (fun i=>(i.zero,i.size,i.bytes))=some (some z,size,bytes)):∃i,P.info? e=some i/\i.zero=some z/\i.size=size/\i.bytes=bytes:=by
 rcases h2:P.info? e with _|i
 .rw[h2]at h;cases h
 .rw[h2]at h;simp at h;exact⟨i,rfl,h.1,h.2.1,h.2.2⟩
variable{R:Nat->Prop}
theorem dB.Ok.un{w:World}{D:Nat->Prop}{s:dB}(h:s.Ok w (fun x=>D x\/R x) na nd):s.Ok w D na nd:=⟨h.addr.sub (fun b h=>.inl h),h.data.sub (fun b h=>.inl h),h.la,h.ld,h.ba,h.bd,h.bc,h.bn⟩
variable{w7:World}{w6:World}{s:dB}{D6:Nat->Prop}
theorem US.row{w:World}{p:UP}{k v0 c0:Nat}{D:Nat->Prop}(h0:US w p k v0 c0 D)(h6:US w6 p k v c D6)(hd6:∀b,D6 b->D b\/w.heap.size<=b)(hfw:ak D w w7)(hf:ak R w6 w7)(hR:∀b,R b->w.heap.size<=b/\¬D6 b):US w7 p k v c D6:=by have hn:=h0.lN.an (A':=D6) hfw (fun _ h=>h) hd6;have hu:=h0.box.lt;obtain⟨Dt,Dg,h⟩:=h6;exact⟨Dt,Dg,hf.cC h.bx (fun hx=>absurd (hR _ hx).1 aGl),h.tb.an hf (fun b hb hx=>(hR b hx).2 (h.st b hb)),h.gs.an hf (fun b hb hx=>(hR b hx).2 (h.sg b hb)),h.gZ,h.st,h.sg,h.nu,fun b hb=>ro (h.lt b hb) hf.size,hn⟩
variable{B2:Nat}{j:Nat}
theorem kC.more{B:Nat}{hv v7:Value}{xs:List dB}(h:kC w6 D6 na nd B hv xs)(hs:s.Ok w6 (fun x=>D6 x\/hv.ownBlock=some x) na nd)(hD:∀b,D6 b->b<w6.heap.size)(hb:w6.heap.size<B2)
  (h7:w7.ownsRow B 153 4 v7 (j+1) (xs.flatMap (dB.cells · na nd)++s.cells na nd)) (hj:xs.length=j) (hf:ak (fun b=>hv.ownBlock=some b) w6 w7) (ha:v7.ownBlock=hv.ownBlock\/v7.ownBlock=some B2):kC w7 D6 na nd B v7 (xs++[s]):=by
 have key:∀x:dB,x.Ok w6 (fun b=>D6 b\/hv.ownBlock=some b) na nd->x.Ok w7 (fun b=>D6 b\/v7.ownBlock=some b) na nd:=fun x hx=>hx.an (hf.mono fun b h=>.inr h) fun b hb=>hb.elim (fun h=>.inl (.inl h)) fun h=>by
  rcases ha with e|e
  .exact .inl (.inr (e▸h))
  .rw[e]at h;injection h with h;exact .inr aGl
 refine⟨?_,fun b hb hx=>?_,fun x hx=>?_⟩
 .rw[Ne,Fn,aER,dJ,aO,hj];exact h7
 .rcases ha with e|e
  .exact h.out b (e▸hb) hx
  .rw[e]at hb;injection hb with hb;exact absurd (hD b hx) aGl
 .rcases At.1 hx with hx|hx
  .exact key x (h.ok x hx)
  .obtain rfl:=OF.1 hx;exact key _ hs
variable{t:TypeId}{w1:World}
theorem LD{W:World}(hb:Below (W.alloc (.cells zs t)).heap.size (W.alloc (.cells zs t)) w1):af w1 W.heap.size t zs:=(af.new W t zs).below hb aGn
theorem art{W:World}(hb:Below (W.alloc (.cells zs t)).drew.heap.size (W.alloc (.cells zs t)).drew w1):af w1 W.heap.size t zs:=(af.new W t zs).drew.below hb aGn
theorem z8{w:World}{x0 x1 x2 x3:Value}(h:af w b t #[x0,x1,x2,x3]):w.cell? ⟨b,0,none⟩=some x0/\w.cell? ⟨b,1,none⟩=some x1/\w.cell? ⟨b,2,none⟩=some x2/\w.cell? ⟨b,3,none⟩=some x3/\w.frozen? ⟨b,0,none⟩=false/\w.frozen? ⟨b,1,none⟩=false/\w.frozen? ⟨b,2,none⟩=false/\w.frozen? ⟨b,3,none⟩=false:=by obtain⟨a,b1,c,d⟩:=kG h;exact⟨a,b1,c,d,h.frozen 0,h.frozen 1,h.frozen 2,h.frozen 3⟩
theorem aw0{w:World}{mb base:Nat}{m:bk}{rd:Value}(h:af w mb 83 (iH m base rd)):w.cell? ⟨mb,0,none⟩=some (.int .i64 m.addr)/\w.cell? ⟨mb,1,none⟩=some (.int .i64 m.word)/\w.cell? ⟨mb,2,none⟩=some (.bool m.any)/\w.cell? ⟨mb,3,none⟩=some (.slice m.A m.reads.length m.c)/\w.cell? ⟨mb,4,none⟩=some (.slice m.A2 m.writes.length m.c2)/\w.cell? ⟨mb,5,none⟩=some (.int .i64 base):=⟨by have:=h.cell 0;simpa using this,by have:=h.cell 1;simpa using this,by have:=h.cell 2;simpa using this,by have:=h.cell 3;simpa using this,by have:=h.cell 4;simpa using this,by have:=h.cell 5;simpa using this⟩
theorem e2{w:World}{eb:Nat}{p:UP}{mv av:Value}{done:Int}(h:af w eb 65 (jo p mv av done)):w.cell? ⟨eb,0,none⟩=some (.pointer (some ⟨p.u,0,none⟩))/\w.cell? ⟨eb,3,none⟩=some av:=⟨by have:=h.cell 0;simpa using this,by have:=h.cell 3;simpa using this⟩
section
variable{w:World}{p:UP}{Z C eb mb P ca nm base:Nat}{D:Nat->Prop}{mv:Value}{done:Int}{Aa:lc}{m:bk}{acts:io}
theorem aeD:(Tryz.prog.info? 153).map (fun i=>(i.zero,i.size,i.bytes))=some (some (.agg #[.int .i64 0,.slice none 0 0,.slice none 0 0,.int .i64 0]),4,64):=aGm
theorem tE(w:World)(o:Obj):Below w.heap.size w (w.alloc o):=(Below.refl _ w).alloc (pi _) o
set_option maxHeartbeats 8000000
set_option maxRecDepth 20000
theorem af1(h:US w p 1 Z C D)(he:af w eb 65 (jo p mv (.slice Aa P ca) done))(heD:¬D eb)(hm:af w mb 83 (iH m base (.slice none 0 0)))(hmD:¬D mb)
  (hd:V.bR w D V.aj (V.aF m.d) m.v) (ok:zG m.d) (hN:eX w p.N p.ov p.L (fun b=>D b\/E b)) (hEm:E mb) (hac:cD w D Aa acts) (hal:acts.length=P) (hab:gV acts) (hbase:base+m.reads.length<=P) (hP:P<=100) (hV:Z+1100<65536) (hC:C+9000<990000) :
  Calls Tryz.prog 43 #[.pointer (some ⟨eb,0,none⟩),.pointer (some ⟨mb,0,none⟩),.int .i64 0] w fun e w'=>e=.returned (.tuple #[])/\∃Z' C' D',US w' p 1 Z' C' D'/\Z<=Z'/\Z'<=Z+1040/\C<=C'/\C'<=C+8000/\(∀b,D' b->D b\/w.heap.size<=b)/\ak (fun b=>D b\/b=mb) w w':=by
 obtain⟨nr,hnr⟩:∃nr,nr=m.reads.length:=⟨_,rfl⟩;obtain⟨na,hna⟩:∃na,na=m.addr.toNat:=⟨_,rfl⟩;obtain⟨nd,hnd⟩:∃nd,nd=m.word.toNat:=⟨_,rfl⟩;have hnr4:nr<=4:=by rw[hnr];have:=ok.rn;rw[show m.d.reads.length=m.reads.length from aR _]at this;exact this
 have hna62:1<=na/\na<=62:=by have h:1<=m.addr/\m.addr<=62:=ok.a1;omega
 have hnd64:1<=nd/\nd<=64:=by have h:1<=m.word/\m.word<=64:=ok.w1;omega
 have m3:=hm.cell 3;simp only[pp,rg,pm]at m3;rw[<-hnr]at m3 hbase;obtain⟨Am,hAm⟩:∃Am,Am=m.A:=⟨_,rfl⟩;rw[<-hAm]at m3;have HAM:=Lib.hid hAm;clear hAm;have HH:=Lib.hid h;have HE:=Lib.hid he;have HM:=Lib.hid hm;have HD:=Lib.hid hd;have OK:=Lib.hid ok;have HAC:=Lib.hid hac;have HNR:=Lib.hid hnr;have HNA:=Lib.hid hna;have HND:=Lib.hid hnd;have HAL:=Lib.hid hal;have HN:=Lib.hid hN;clear h he hm hd ok hac hnr hna hnd hal hN
 go_enter Tryz.func43,Tryz.ntmps43
 go_wp2_with fail
 clear m3
 go_loopw [6,16] (fun hv i wr=>∃(j Z' C':Nat) (D':Nat->Prop) (xs:List dB),j<=nr/\i=.int .i64 j/\Hid (US wr p 1 Z' C' D'/\Z<=Z'/\Z'<=Z+j*260/\C<=C'/\C'<=C+j*2000/\(∀b,D' b->D b\/w.heap.size<=b)/\ak D w wr/\kC wr D' na nd w.heap.size hv xs/\xs.length=j)) (fun _ i _=>nr-(intOf i).toNat)
 case atStart=>exact⟨0,Z,C,D,[],AI _,rfl,Lib.hid ⟨HH.out,pi _,pi _,pi _,pi _,fun b h=>.inl h,.refl _ _,⟨World.ownsRow_nil _ _ _ _,fun b hb=>(by cases hb),fun x hx=>absurd hx aGn⟩,rfl⟩⟩
 case round=>
  obtain⟨j,Z',C',D',xs,hj,rfl,hI⟩:=hrel;by_cases hlt:j<nr
  .obtain⟨hU,v1,v2,v3,v4,v5,v6,hH,hxl⟩:=hI.out;have hdr:V.bR wr D' V.aj (V.aF m.d) m.v:=HD.out.keep (kA v6 (fun _ h=>h) v5);obtain⟨q,o,r,hA,hrd,hql,c0,c1,hrow⟩:=afg hdr (i:=j) (by rw[<-HNR.out];exact hlt);have hro:=OK.out.rd _ (ep hrd);have hra:r.addr.length=na:=by have h:=hro.1;have h:(r.addr.length:Int)=m.addr:=h;have:=HNA.out;omega
   rw[hra]at c1;obtain⟨rv,rA,rc,raddr⟩:=r
   replace c0:wr.cell? ⟨q,o+j*2,none⟩=some (.int .i64 rv):=c0
   replace c1:wr.cell? ⟨q,o+j*2+1,none⟩=some (.slice rA na rc):=c1
   replace hra:raddr.length=na:=hra
   replace hrow:cD wr (fun _=>False) rA raddr:=hrow
   rw[<-HAM.out]at hA;obtain rfl:=hA;obtain⟨X,hX⟩:∃X,X=wr.alloc (.cells #[.int .i64 rv,.slice rA na rc] 50):=⟨_,rfl⟩;obtain⟨rb,hrb⟩:∃rb,rb=wr.heap.size:=⟨_,rfl⟩;have hbX:Below wr.heap.size wr X:=by rw[hX];exact(Below.refl _ wr).alloc (pi _) _
   have hxX:af X rb 50 #[.int .i64 rv,.slice rA na rc]:=by rw[hX,hrb];exact af.new wr _ _
   have HX:=Lib.hid hX;have HRB:=Lib.hid hrb;have HBX:=Lib.hid hbX;have HXX:=Lib.hid hxX;have HU:=Lib.hid hU;have B1:=Lib.hid v1;have B2:=Lib.hid v2;have B3:=Lib.hid v3;have B4:=Lib.hid v4;have B5:=Lib.hid v5;have B6:=Lib.hid v6;have HHR:=Lib.hid hH;have HXL:=Lib.hid hxl;have HRD:=Lib.hid hrd;have HRO:=Lib.hid hro;have HRA:=Lib.hid hra;have HRW:=Lib.hid hrow;have HDR:=Lib.hid hdr;clear hI hU v1 v2 v3 v4 v5 v6 hH hxl hdr hrd hql hrow hro hra hX hrb hbX hxX
   go_wp2_with fail
   rw[<-HX.out,<-HRB.out];clear HX c0 c1;obtain⟨qa,oa,hAa,hqa,hqal,hca⟩:=(HAC.out.an B6.out B5.out) (base+j) (by rw[HAL.out];omega);obtain rfl:=hAa;have hact:=hab.at (i:=base+j) (by rw[HAL.out];omega);generalize acts.getD (base+j) 0=act at hca hact;obtain⟨bj,hbj⟩:∃bj,bj=base+j:=⟨_,rfl⟩;rw[<-hbj]at hca;have hbjP:bj<P:=aGl
   have hbji:(base:Int)+(j:Int)=(bj:Int):=aGl
   have hbjw:(bj:Int)<(P:Int):=aGl
   have hbj0:(0:Int)<=(bj:Int):=aGl
   have hbw1:IntKind.i64.wrap ((base:Int)+(j:Int))=(bj:Int):=by rw[hbji];exact IntWalk.i64_in _ ⟨aGl,aGl⟩
   have hbw2:IntKind.i64.wrap (bj:Int)=(bj:Int):=IntWalk.i64_in _ ⟨aGl,aGl⟩;have HBJ:=Lib.hid hbj;have hUX:=HU.out.below HBX.out;have heX:=(B6.out.cC HE.out heD).below HBX.out (B6.out.cC HE.out heD).lt;have hmX:=(B6.out.cC HM.out hmD).below HBX.out (B6.out.cC HM.out hmD).lt;have hdX:V.bR X D' V.aj (V.aF m.d) m.v:=HDR.out.keep (kA (.cR (D:=D') HBX.out) (fun _ h=>h) fun b h=>.inl h);have hcaX:=(HBX.out.cell (p:=⟨qa,oa+bj,none⟩) hqal).trans hca;have hqaX:qa<X.heap.size:=ro hqal HBX.out.size;have hmw:0<=m.word/\m.word<=4000:=by have h:1<=m.word/\m.word<=64:=OK.out.w1;omega
   have C1:Hid (∀W,Below X.heap.size X W->Calls Tryz.prog 80 #[.pointer (some ⟨p.u,0,none⟩),.int .i64 0,.slice rA na rc] W fun e w'=>∃A c r,e=.returned (.slice A na c)/\S1 X w' na A c r/\Below W.heap.size W w'):=Lib.hid fun W hb=>by refine(Uy (cap:=rc) (hUX.below hb) (D2:=yy) ((HRW.out.below HBX.out).below hb) (fun x hx=>HRO.out.2.2 x hx) na HRA.out aGl 0).mono ?_;rintro e w' ⟨A,c,r,rfl,h1,h2,h3⟩;exact⟨A,c,r,rfl,⟨hb.trans (h3.mono hb.size),P3 h1 hb.size,h2⟩,h3⟩
   have C2:Hid (∀W A c r,S1 X W na A c r->Calls Tryz.prog 41 #[.agg #[.int .i64 m.addr,.int .i64 m.word,.bool m.any,.slice m.A m.reads.length m.c,.slice m.A2 m.writes.length m.c2],.int .i64 j] W fun e w'=>∃A2 c2 l,e=.returned (.slice A2 nd c2)/\S1 X w' na A c r/\(cD w' yy A2 l/\l.length=nd)/\Below W.heap.size W w'):=Lib.hid fun W A c r h1=>by have hdW:V.bR W D' V.aj (V.aF m.d) m.v:=hdX.keep (kA (.cR (D:=D') h1.b) (fun _ h=>h) fun b h=>.inl h);refine(Ux (fun b hb=>ro (hUX.lt b hb) h1.b.size) hdW HRD.out hmw HRO.out.2.1).mono ?_;rintro e w' ⟨A2,c2,l,rfl,h2,h3,h4⟩;have e1:m.d.word.toNat=nd:=HND.out.symm;exact⟨A2,c2,l,by rw[e1],h1.qE h2,⟨h4.sub (fun _ h=>h.elim),by rw[h3,e1]⟩,h2⟩
   have C3:Hid (∀W A c r A2 c2 l,S1 X W na A c r->(cD W yy A2 l/\l.length=nd)->Calls Tryz.prog 81 #[.slice A2 nd c2] W fun e w'=>∃A3 c3 l3,e=.returned (.slice A3 nd c3)/\S1 X w' na A c r/\vR w' nd A3 l3/\Below W.heap.size W w'):=Lib.hid fun W A c r A2 c2 l h1 h2=>by refine(aiv (cap:=c2) h2.1 h2.2 aGl).mono ?_;rintro e w' ⟨A3,c3,l3,rfl,h3,h4,h5⟩;exact⟨A3,c3,l3,rfl,h1.qE h5,⟨cD.j5 h3 (fun _ _ h=>h),by have:=h3.1;rw[fX]at this;omega,h4⟩,h5⟩
   have C4:Hid (∀W A c r A3 c3 l3,S1 X W na A c r->vR W nd A3 l3->Calls Tryz.prog 80 #[.pointer (some ⟨p.u,0,none⟩),.int .i64 0,.slice A3 nd c3] W fun e w'=>∃A4 c4 r4,e=.returned (.slice A4 nd c4)/\S1 X w' na A c r/\S1 X w' nd A4 c4 r4/\Below W.heap.size W w'):=Lib.hid fun W A c r A3 c3 l3 h1 h2=>by refine(Uy (cap:=c3) (hUX.below h1.b) (D2:=yy) h2.1 h2.2.2 nd h2.2.1 aGl 0).mono ?_;rintro e w' ⟨A4,c4,r4,rfl,h3,h4,h5⟩;exact⟨A4,c4,r4,rfl,h1.qE h5,⟨h1.b.trans (h5.mono h1.b.size),P3 h3 h1.b.size,h4⟩,h5⟩
   have HK:Hid (∀w',Below X.heap.size X w'->(Below X.heap.size X w'/\w'.cell? ⟨eb,0,none⟩=some (.pointer (some ⟨p.u,0,none⟩))/\w'.cell? ⟨eb,3,none⟩=some (.slice (some ⟨qa,oa,none⟩) P ca)/\w'.cell? ⟨qa,oa+bj,none⟩=some (.int .i64 act)/\w'.cell? ⟨mb,0,none⟩=some (.int .i64 m.addr)/\w'.cell? ⟨mb,1,none⟩=some (.int .i64 m.word)/\w'.cell? ⟨mb,2,none⟩=some (.bool m.any)/\w'.cell? ⟨mb,3,none⟩=some (.slice m.A m.reads.length m.c)/\w'.cell? ⟨mb,4,none⟩=some (.slice m.A2 m.writes.length m.c2)/\w'.cell? ⟨mb,5,none⟩=some (.int .i64 base)/\w'.cell? ⟨rb,1,none⟩=some (.slice rA na rc))):=Lib.hid fun w' hb=>by obtain⟨x0,x1,x2,x3,x4,x5⟩:=aw0 (hmX.below hb hmX.lt);obtain⟨y0,y3⟩:=e2 (heX.below hb heX.lt);have r1:=((HXX.out.below hb HXX.out.lt)).cell 1;exact⟨hb,y0,y3,(hb.cell (p:=⟨qa,oa+bj,none⟩) hqaX).trans hcaX,x0,x1,x2,x3,x4,x5,by simpa using r1⟩
   have HUX:=Lib.hid hUX;have HEX:=Lib.hid heX;have HMX:=Lib.hid hmX;clear hca hqa hqal hbj hUX heX hmX hdX hcaX hqaX hmw
   go_cut [9] (fun t wx=>∃sb s,t=.pointer (some ⟨sb,0,none⟩)/\Hid (Below X.heap.size X wx/\X.heap.size<=sb/\af wx sb 153 (dB.cells s na nd).toArray/\s.Ok wx (fun x=>(D' x\/u6.ownBlock=some x)\/x=sb) na nd/\s.mG=0))
   case first=>
    have hDh:∀b,(D' b\/u6.ownBlock=some b)->b<X.heap.size:=fun b hb=>hb.elim (fun hb=>HUX.out.lt b hb) fun hb=>ro (HHR.out.row.lt b hb).2 HBX.out.size;have hS:=HK.out X.drew (Below.refl _ X).drew
    go_region_held3 (fun w'=>Below X.heap.size X w'/\w'.cell? ⟨eb,0,none⟩=some (.pointer (some ⟨p.u,0,none⟩))/\w'.cell? ⟨eb,3,none⟩=some (.slice (some ⟨qa,oa,none⟩) P ca)/\w'.cell? ⟨qa,oa+bj,none⟩=some (.int .i64 act)/\w'.cell? ⟨mb,0,none⟩=some (.int .i64 m.addr)/\w'.cell? ⟨mb,1,none⟩=some (.int .i64 m.word)/\w'.cell? ⟨mb,2,none⟩=some (.bool m.any)/\w'.cell? ⟨mb,3,none⟩=some (.slice m.A m.reads.length m.c)/\w'.cell? ⟨mb,4,none⟩=some (.slice m.A2 m.writes.length m.c2)/\w'.cell? ⟨mb,5,none⟩=some (.int .i64 base)/\w'.cell? ⟨rb,1,none⟩=some (.slice rA na rc)) (first|assumption|exact HK.out _ (rD (Below.refl _ X) _).drew|exact HK.out _ (rD hs4.b _)|exact HK.out _ (rD hs3.b _)|exact HK.out _ (rD hs2.b _)|exact HK.out _ (rD hs1.b _)|exact HK.out _ (tD hs4.b hs3.b.size _ _ _ _)|exact HK.out _ (tD hs4.b hs2.b.size _ _ _ _)|exact HK.out _ (tD hs4.b hs1.b.size _ _ _ _)|exact HK.out _ (tD hs4.b (pi _) _ _ _ _)|exact HK.out _ (tD (rD hs4.b _) hs4.b.size _ _ _ _)) (first
     |(go_at_call 80;(first|refine(C4.out _ _ _ _ _ _ _ hs3 hr3).mono ?_|refine(C4.out _ _ _ _ _ _ _ (hs3.qE (tE _ _)) (hr3.qE (tE _ _))).mono ?_);clear C4;rintro e w4 ⟨A4,c4,r4,rfl,hs4,ho4,hb4⟩;(first|(have hz2:=hz.below hb4 hz.lt;clear hz;have hz:=hz2;clear hz2;have zc:=z8 hz)|(have hz:=LD hb4;have zc:=z8 hz)|skip);have k4:=HK.out w4 hs4.b;have za:=z8 (af.new w4 153 #[Value.int .i64 0,.slice none 0 0,.slice none 0 0,.int .i64 0]))
     |(go_at_call 81;(first|refine(C3.out _ _ _ _ _ _ _ hs2 hr2).mono ?_|refine(C3.out _ _ _ _ _ _ _ (hs2.qE (tE _ _)) (And.intro (hr2.1.below (tE _ _)) hr2.2)).mono ?_);clear C3;rintro e w3 ⟨A3,c3,l3,rfl,hs3,hr3,hb3⟩;(first|(have hz2:=hz.below hb3 hz.lt;clear hz;have hz:=hz2;clear hz2;have zc:=z8 hz)|(have hz:=LD hb3;have zc:=z8 hz)|skip);have k3:=HK.out w3 hs3.b)
     |(go_at_call 41;(first|refine(C2.out _ _ _ _ hs1).mono ?_|refine(C2.out _ _ _ _ (hs1.qE (tE _ _))).mono ?_);clear C2;rintro e w2 ⟨A2,c2,l2,rfl,hs2,hr2,hb2⟩;(first|(have hz2:=hz.below hb2 hz.lt;clear hz;have hz:=hz2;clear hz2;have zc:=z8 hz)|(have hz:=LD hb2;have zc:=z8 hz)|skip);have k2:=HK.out w2 hs2.b)
     |(go_at_call 80;refine Calls.mono (C1.out _ ?_) ?_;(focus (go_split_ands;assumption));clear C1;rintro e w1 ⟨A1,c1,r1,rfl,hs1,hb1⟩;(first|(have hz:=art hb1;have zc:=z8 hz)|skip);have k1:=HK.out w1 hs1.b))
    all_goals (
     go_wp2_with fail
     go_meet
     first
      |exact⟨_,⟨act,A1,c1,r1,A4,c4,r4,0⟩,rfl,Lib.hid (zK hs4 ho4 hz hs3.b.size hDh hact)⟩
      |exact⟨_,⟨act,A1,c1,r1,A4,c4,r4,0⟩,rfl,Lib.hid (zK hs4 ho4 hz hs2.b.size hDh hact)⟩
      |exact⟨_,⟨act,A1,c1,r1,A4,c4,r4,0⟩,rfl,Lib.hid (zK hs4 ho4 hz hs1.b.size hDh hact)⟩
      |exact⟨_,⟨act,A1,c1,r1,A4,c4,r4,0⟩,rfl,Lib.hid (zK hs4 ho4 hz (pi _) hDh hact)⟩
      |exact⟨_,⟨act,A1,c1,r1,A4,c4,r4,0⟩,rfl,Lib.hid (ahc hs4 ho4 hDh hact)⟩)
   case rest=>
   obtain⟨sb,s,hsb,hR⟩:=hcut;subst hsb;obtain⟨h1,h2,h3,h4,h5⟩:=hR.out;obtain⟨sact,sA,sc,saddr,sD,sd,sdata,snon⟩:=s;obtain rfl:snon=0:=h5;have hx3:af wc sb 153 #[.int .i64 sact,.slice sA na sc,.slice sD nd sd,.int .i64 0]:=h3;have hUc:=HUX.out.below h1;have heC:=HEX.out.below h1 HEX.out.lt;have hmC:=HMX.out.below h1 HMX.out.lt;have hfo:=aey (mp:=.pointer (some ⟨mb,0,none⟩)) hUc heC hx3;obtain⟨W5,hW5⟩:∃W5,W5=wc.setCell ⟨sb,3,none⟩ (.int .i64 1):=⟨_,rfl⟩;have hx5:af W5 sb 153 #[.int .i64 sact,.slice sA na sc,.slice sD nd sd,.int .i64 1]:=by rw[hW5];have:=hx3.dL 3 (.int .i64 1);simpa using this
   have hb5:Below X.heap.size X W5:=by rw[hW5];exact h1.setCell h2 _
   have hok5:dB.Ok W5 (fun x=>D' x\/u6.ownBlock=some x) na nd ⟨sact,sA,sc,saddr,sD,sd,sdata,1⟩:=by
    have h4':dB.Ok W5 (fun x=>(D' x\/u6.ownBlock=some x)\/x=sb) na nd ⟨sact,sA,sc,saddr,sD,sd,sdata,0⟩:=by rw[hW5];exact h4.an (D:=fun x=>(D' x\/u6.ownBlock=some x)\/x=sb) ((ak.refl _ wc).setCell (.inr rfl)) fun b h=>.inl h
    exact⟨h4'.addr.sub (fun b h=>.inl h),h4'.data.sub (fun b h=>.inl h),h4'.la,h4'.ld,h4'.ba,h4'.bd,h4'.bc,(by decide:(-65536:Int)<=1),(by decide:(1:Int)<=65536)⟩
   have hbw5:Below wr.heap.size wr W5:=HBX.out.trans (hb5.mono HBX.out.size);have hH5:=HHR.out.below hbw5;have hsbD:¬D' sb:=fun hx=>absurd (HUX.out.lt _ hx) aGl;have hU5:=HUX.out.below hb5;have heD':¬D' eb:=fun hx=>(B5.out _ hx).elim heD fun hy=>absurd HE.out.lt aGl;have hmD':¬D' mb:=fun hx=>(B5.out _ hx).elim hmD fun hy=>absurd HM.out.lt aGl;have s0:=z8 hx5;have HW5:=Lib.hid hW5;have HX5:=Lib.hid hx5;have HB5:=Lib.hid hb5;have HOK5:=Lib.hid hok5;have HBW5:=Lib.hid hbw5;have HH5:=Lib.hid hH5;have HU5:=Lib.hid hU5;have HE5:=Lib.hid (HEX.out.below hb5 HEX.out.lt);have HM5:=Lib.hid (HMX.out.below hb5 HMX.out.lt);clear hR h1 h2 h3 h4 hx3 hUc heC hmC hW5 hx5 hb5 hok5 hbw5 hH5 hU5;have hfi:Hid (Calls Tryz.prog 83 #[.pointer (some ⟨eb,0,none⟩),.pointer (some ⟨mb,0,none⟩),.agg #[.int .i64 sact,.slice sA na sc,.slice sD nd sd,.int .i64 1],u6] W5 fun e w'=>e=.returned (.tuple #[])/\cL W5 p 1 Z' C' 260 2000 D' w'):=by
    have hj3:j<=3:=aGl
    have z2:=B2.out;have z4:=B4.out;have hxj:=HXL.out;rcases ha:m.any with _|_
    .have hm':=HM5.out;unfold iH at hm';rw[ha]at hm';refine Lib.hid ((aeY (hv:=u6) HU5.out HE5.out heD' hm' ⟨sact,sA,sc,saddr,sD,sd,sdata,1⟩ HOK5.out.un rfl aGl aGl).mono ?_);rintro e w' ⟨rfl,hm⟩;exact⟨rfl,hm.wide aGl aGl⟩
    .have hm':=HM5.out;unfold iH at hm';rw[ha]at hm';refine Lib.hid ((aeX (B:=w.heap.size) HU5.out HE5.out heD' hm' ⟨sact,sA,sc,saddr,sD,sd,sdata,1⟩ HOK5.out.un rfl xs HH5.out aGl hna62 aGl aGl aGl).mono ?_);rintro e w' ⟨rfl,hm⟩;exact⟨rfl,hm.wide aGl aGl⟩
   go_wp2_with fail
   refine hfo.mono ?_;rintro e w' ⟨rfl,rfl⟩;rw[<-HW5.out];clear hfo HW5
   go_wp2_with fail
   refine hfi.out.mono ?_;rintro e w6 ⟨rfl,hm6⟩;obtain⟨Z6,C6,D6,g6,a1,a2,a3,a4,a5,a6⟩:=hm6;obtain⟨k2,k2'⟩:=kV a6 a5 HX5.out hsbD;have hH6:=HH5.out.an a6 a5;have hok6:dB.Ok w6 (fun x=>D6 x\/u6.ownBlock=some x) na nd ⟨sact,sA,sc,saddr,sD,sd,sdata,1⟩:=HOK5.out.an (a6.mono fun b h=>.inl h) fun b hb=>hb.elim (fun hb=>(a5 b hb).imp .inl id) fun hb=>.inl (.inr hb);obtain⟨s0,s1,s2,s3,_⟩:=z8 k2;obtain⟨i0,hi0,hz0,hz1,hz2⟩:=aei aeD;have hbw5:=HBW5.out;have hsz:wr.heap.size<=W5.heap.size:=hbw5.size;have hw6:w.heap.size<=w6.heap.size:=rt B6.out.size (rt hsz a6.size);have hR6:Reads (w6.alloc (.cells #[.int .i64 sact,.slice sA na sc,.slice sD nd sd,.int .i64 1] 153)) (w6.heap.size+1) 4 (some ⟨w6.heap.size,0,none⟩) 1 [.int .i64 sact,.slice sA na sc,.slice sD nd sd,.int .i64 1]:=by have h:=(af.new w6 153 #[.int .i64 sact,.slice sA na sc,.slice sD nd sd,.int .i64 1]).reads (xs:=[.int .i64 sact,.slice sA na sc,.slice sD nd sd,.int .i64 1]);refine⟨rfl,fun _=>?_⟩;have:=h.2 aGn;simpa using this
   have hrow6:=hH6.row;rw[HXL.out]at hrow6;obtain⟨hAv,hcv,hveq,_,_,_⟩:=eo hrow6;subst hveq;have HB6:Hid (Z<=Z6/\Z6<=Z+(j+1)*260/\C<=C6/\C6<=C+(j+1)*2000/\(∀b,D6 b->D b\/w.heap.size<=b)/\ak D w w6):=by have b1:=B1.out;have b2:=B2.out;have b3:=B3.out;have b4:=B4.out;exact Lib.hid ⟨aGl,aGl,aGl,aGl,fun b hb=>(a5 b hb).elim (B5.out b) fun hx=>.inr (rt (rt B6.out.size hsz) hx),(B6.out.after (ak.cR (D:=D') hbw5) B5.out).after a6 B5.out⟩
   have G6:=Lib.hid g6;have H6:=Lib.hid hH6;have OK6:=Lib.hid hok6;have I0:=Lib.hid hi0;have I1:=Lib.hid hz0;have I2:=Lib.hid hz1;have I3:=Lib.hid hz2;have R6:=Lib.hid hR6;have ROW6:=Lib.hid hrow6;clear hrow6 hfi g6 a1 a2 a3 a4 a5 a6 k2 k2' hH6 hok6 hi0 hz0 hz1 hz2 hR6 hbw5
   go_wp2_with (at_builtin;refine xN _ rfl _ _ 150 rfl w.heap.size 153 i0 (.agg #[.int .i64 0,.slice none 0 0,.slice none 0 0,.int .i64 0]) 4 64 Tryz.underlying150 I0.out I1.out I2.out I3.out rfl aGo (.slice hAv j hcv) j _ rfl (ROW6.out.alloc _) _ _ 1 1 [.int .i64 sact,.slice sA na sc,.slice sD nd sd,.int .i64 1] rfl R6.out (by intro u hu;simp only[AT,List.not_mem_nil,or_false]at hu;rcases hu with rfl|rfl|rfl|rfl<;>rfl) (by unfold maxLen;omega) aGl (by simp;omega) ?_;intro v7 w7 hown7 hg7 hat7;have HO7:=Lib.hid hown7;have HG7:=Lib.hid hg7;have HA7:=Lib.hid hat7;clear hown7 hg7 hat7)
   refine⟨⟨j+1,Z6,C6,D6,xs++[⟨sact,sA,sc,saddr,sD,sd,sdata,1⟩],aGl,by go_num,Lib.hid ?_⟩,by simp[intOf];omega⟩;obtain⟨q1,q2,q3,q4,q5,q6⟩:=HB6.out;have hf7:ak (fun b=>(Value.slice hAv j hcv).ownBlock=some b) w6 w7:=(ak.cR (tE w6 _)).trans ((ak.refl _ _).grown HG7.out fun b hb=>hb);have hrl:∀b,(Value.slice hAv j hcv).ownBlock=some b->w.heap.size<=b/\¬D6 b:=fun b hb=>⟨(ROW6.out.lt b hb).1,H6.out.out b hb⟩;have hfw:ak D w w7:=q6.after hf7 fun b hb=>.inr (hrl b hb).1;refine⟨US.row HH.out G6.out q5 hfw hf7 hrl,q1,q2,q3,q4,q5,hfw,kC.more (B2:=(w6.alloc (Obj.cells #[Value.int IntKind.i64 sact,Value.slice sA na sc,Value.slice sD nd sd,Value.int IntKind.i64 1] 153)).heap.size) H6.out OK6.out (fun b hb=>G6.out.lt b hb) aGn HO7.out HXL.out hf7 HA7.out,by rw[aO,HXL.out];rfl⟩
  .obtain rfl:j=nr:=aGl
   obtain⟨hU,v1,v2,v3,v4,v5,v6,hH,hxl⟩:=hI.out;have hmr:=v6.cC HM.out hmD;have m6:=hmr.cell 6;simp only[pp,rg,pm]at m6;have hrow:=hH.row;rw[hxl]at hrow;obtain⟨hAv,hcv,hveq,_,_,_⟩:=eo hrow;subst hveq;have HMR:=Lib.hid hmr;have HUr:=Lib.hid hU;have B1:=Lib.hid v1;have B2:=Lib.hid v2;have B3:=Lib.hid v3;have B4:=Lib.hid v4;have B5:=Lib.hid v5;have B6:=Lib.hid v6;clear hI hU v1 v2 v3 v4 v5 v6 hH hxl hmr hrow
   go_wp2_with (at_builtin;refine oM _ rfl _ _ 81 rfl wr.heap.size 150 (.slice none 0 0) 24 Tryz.underlying81 PJ rfl aGl (.slice none 0 0) 0 [] rfl (World.ownsRow_nil _ _ _ _) (.slice hAv j hcv) rfl _ rfl rfl aGl (pi _) ?_;intro v8 w8 hown8 hg8 _;have hm8:=(ak.refl (fun _=>False) wr).grown hg8 (fun b hb=>by cases hb);have hb8:=hm8.cC HMR.out (fun h=>h);have d6:=hb8.cell 6;have f6:=hb8.frozen 6;simp only[pp,rg,pm]at d6;obtain⟨A8,c8,rfl,_,_,_⟩:=eo hown8;have HF8:=Lib.hid hm8;clear hm8 hb8 hown8 hg8)
   have hb8:Below wr.heap.size wr w8:=HF8.out.below (pi _) fun _ h=>h.elim;have hmD':¬D' mb:=fun hx=>(B5.out _ hx).elim hmD fun hy=>absurd HM.out.lt aGl;have hf8:ak D w w8:=B6.out.trans (HF8.out.mono fun _ h=>h.elim);have hN8:eX w8 p.N p.ov p.L (fun b=>D' b\/E b):=HN.out.an hf8 (fun b h=>.inl h) fun b h=>h.elim (fun h=>(B5.out b h).imp .inl id) fun h=>.inl (.inr h);have hu:p.u≠mb:=HUr.out.box.ku HMR.out aGo;have q2:=B2.out;have q4:=B4.out;exact⟨rfl,.tuple #[],results_none rfl _ _ _,rfl,Z',C',D',(HUr.out.below hb8).store ((ak.refl _ w8).setCell rfl) hmD' hu hN8 hEm,B1.out,aGl,B3.out,aGl,B5.out,(hf8.mono fun b h=>.inl h).setCell (.inr rfl)⟩
end
structure qp(w:World)(A:Nat->Prop)(mb base:Nat)(m:bk):Prop where
 bx:af w mb 83 (iH m base (.slice none 0 0))
 dat:V.bR w A V.aj (V.aF m.d) m.v
 ok:zG m.d
theorem qp.an{w w':World}{A A' D:Nat->Prop}{mb base:Nat}{m:bk}(h:qp w A mb base m)(hf:ak D w w')(hd:∀b,D b->A b)(ha:∀b,A' b->A b\/w.heap.size<=b)(hm:¬D mb):qp w' A' mb base m:=⟨hf.cC h.bx hm,h.dat.keep (kA hf hd ha),h.ok⟩
abbrev k9:=Nat×Nat×bk
def fG(ms:List k9)(b:Nat):Prop:=∃x∈ms,x.1=b
structure mu(w:World)(p:UP)(eb:Nat)(D:Nat->Prop)(Am:lc)(cm:Nat)(ms:List k9)(Aa:lc)(ca:Nat)(acts:io)(done:Int):Prop where
 lN:eX w p.N p.ov p.L (fun b=>D b\/(fG ms b\/b=eb))
 bx:af w eb 65 (jo p (.slice Am ms.length cm) (.slice Aa acts.length ca) done)
 de:¬D eb
 row:∀i x,ms[i]?=some x->∃b o,Am=some ⟨b,o,none⟩/\¬D b/\¬fG ms b/\b<w.heap.size/\w.cell? ⟨b,o+i,none⟩=some (.pointer (some ⟨x.1,0,none⟩))
 act:cD w (fun b=>D b\/(fG ms b\/b=eb)) Aa acts
 lim:gV acts
 gZ:∀x∈ms,¬D x.1/\x.1<w.heap.size
variable{cm:Nat}{Am:lc}
theorem mu.ebE{w:World}{p:UP}{eb ca:Nat}{D:Nat->Prop}{Aa:lc}{ms:List k9}{acts:io}{done:Int}(h:mu w p eb D Am cm ms Aa ca acts done)(hm:∀x∈ms,∃cs,af w x.1 83 cs):¬fG ms eb:=fun⟨x,hx,e⟩=>by obtain⟨cs,hb⟩:=hm x hx;exact hb.ku h.bx aGo e
theorem mu.an{w w':World}{p:UP}{eb ca mb:Nat}{D D':Nat->Prop}{Aa:lc}{ms:List k9}{acts:io}{done:Int}(h:mu w p eb D Am cm ms Aa ca acts done)(hf:ak (fun b=>D b\/b=mb) w w')(hd:∀b,D' b->D b\/w.heap.size<=b)(hm:fG ms mb)(hne:eb≠mb):mu w' p eb D' Am cm ms Aa ca acts done:=by
 have hi:∀b,(D b\/b=mb)->D b\/fG ms b:=fun b hb=>hb.imp id fun e=>by rw[e];exact hm
 have ha:∀b,(D' b\/fG ms b)->(D b\/fG ms b)\/w.heap.size<=b:=fun b hb=>hb.elim (fun hb=>(hd b hb).imp .inl id) fun hb=>.inl (.inr hb);have hi2:∀b,(D b\/b=mb)->D b\/(fG ms b\/b=eb):=fun b hb=>hb.imp id fun e=>by rw[e];exact .inl hm
 have ha2:∀b,(D' b\/(fG ms b\/b=eb))->(D b\/(fG ms b\/b=eb))\/w.heap.size<=b:=fun b hb=>hb.elim (fun hb=>(hd b hb).imp .inl id) fun hb=>.inl (.inr hb);refine⟨h.lN.an hf hi2 ha2,hf.cC h.bx (fun hx=>hx.elim h.de hne),fun hx=>(hd _ hx).elim h.de fun hy=>absurd h.bx.lt aGl,fun i x hx=>?_,h.act.an (hf.mono hi2) ha2,h.lim,fun x hx=>⟨fun hd'=>(hd _ hd').elim (h.gZ x hx).1 fun hy=>absurd (h.gZ x hx).2 aGl,ro (h.gZ x hx).2 hf.size⟩⟩;obtain⟨b,o,e1,e2,e3,e4,e5⟩:=h.row i x hx;exact⟨b,o,e1,fun hx=>(hd b hx).elim e2 fun hy=>absurd e4 aGl,e3,ro e4 hf.size,(hf.cell (p:=⟨b,o+i,none⟩) e4 (fun hx=>hx.elim e2 fun e=>e3 (by have e:b=mb:=e;rw[e];exact hm))).trans e5⟩
theorem afm{ms:List k9}(h:(ms.map (·.1)).Nodup){x y:k9}(hx:ms[i]?=some x)(hy:ms[j]?=some y)(hij:i<j):x.1≠y.1:=by
 have hx':(ms.map (·.1))[i]?=some x.1:=by rw[dO,hx];rfl
 have hy':(ms.map (·.1))[j]?=some y.1:=by rw[dO,hy];rfl
 obtain⟨h1,e1⟩:=AC.1 hx';obtain⟨h2,e2⟩:=AC.1 hy';rw[<-e1,<-e2];exact List.pairwise_iff_getElem.1 h i j h1 h2 hij
theorem lK{w:World}{eb:Nat}{p:UP}{mv av:Value}{done:Int}(h:af w eb 65 (jo p mv av done)):w.cell? ⟨eb,0,none⟩=some (.pointer (some ⟨p.u,0,none⟩))/\w.cell? ⟨eb,1,none⟩=some (.pointer (some ⟨p.g,0,none⟩))/\w.cell? ⟨eb,2,none⟩=some mv/\w.cell? ⟨eb,3,none⟩=some av/\w.cell? ⟨eb,5,none⟩=some (.int .i64 done):=⟨by have:=h.cell 0;simpa using this,by have:=h.cell 1;simpa using this,by have:=h.cell 2;simpa using this,by have:=h.cell 3;simpa using this,by have:=h.cell 5;simpa using this⟩
theorem ahf{w:World}{p:UP}{Z C eb ca:Nat}{D:Nat->Prop}{Aa:lc}{ms:List k9}{acts:io}(hu:US w p 1 Z C D)(h:mu w p eb D Am cm ms Aa ca acts 0)
  (hm:∀x∈ms,qp w (fun b=>D b\/fG ms b) x.1 x.2.1 x.2.2/\x.2.1+x.2.2.reads.length<=acts.length) (hdis:(ms.map (·.1)).Nodup) (hlen:ms.length<=4) (hP:acts.length<=100) (hZ:Z+6000<65536) (hC:C+60000<990000) :
  Calls Tryz.prog 18 #[.pointer (some ⟨eb,0,none⟩)] w fun e w'=>e=.returned (.int .i64 0)/\af w' eb 65 (jo p (.slice Am ms.length cm) (.slice Aa acts.length ca) 1)/\cD w' (fun _=>False) Aa acts/\ak (fun b=>D b\/fG ms b\/b=eb) w w':=by
 obtain⟨nm,hnm⟩:∃nm,nm=ms.length:=⟨_,rfl⟩;obtain⟨P,hP'⟩:∃P,P=acts.length:=⟨_,rfl⟩;have hebE:=h.ebE fun x hx=>⟨_,(hm x hx).1.bx⟩;rw[<-hnm,<-hP'];have HNM:=Lib.hid hnm;have HP:=Lib.hid hP';have HU:=Lib.hid hu;have HH:=Lib.hid h;have HM:=Lib.hid hm;have HDI:=Lib.hid hdis;have hnm4:nm<=4:=aGl
 have hP100:P<=100:=aGl
 obtain⟨e0,e1,e2,_,e5⟩:=lK h.bx;rw[<-hnm]at e2;have hfr:Hid (∀q,Calls Tryz.prog 34 #[.pointer (some ⟨p.u,0,none⟩)] (w.drewN q) fun e w'=>e=.returned (.int .i64 1)/\w.drewN q=w'):=Lib.hid fun q=>FA (hu.below (below_drewN (Below.refl _ _) q));clear hu h hm hdis hnm hP'
 go_enter Tryz.func18,Tryz.ntmps18
 go_wp2_with fail
 obtain⟨mEb,hmEb⟩:∃f:World->Nat,f=fun wr=>match wr.cell? ⟨eb,5,none⟩with|some (.int _ d)=>(1-d).toNat|_=>0:=⟨_,rfl⟩
 have HME:=Lib.hid hmEb;clear hmEb
 go_loopw [] (fun wr=>w=wr\/Hid (∃Z' C' D',US wr p 1 Z' C' D'/\af wr eb 65 (jo p (.slice Am nm cm) (.slice Aa P ca) 1)/\cD wr (fun _=>False) Aa acts/\ak (fun b=>D b\/fG ms b\/b=eb) w wr)) (fun wr=>mEb wr)
 case atStart=>exact .inl rfl
 case round=>
  rcases hrel with rfl|hI
  .go_upto_region 3 with fail
   go_quiet ((go_at_call 34;exact kO (hfr.out _)))
   have e2':∀q,(w.drewN q).cell? ⟨eb,2,none⟩=some (.slice Am nm cm):=fun q=>e2
   go_wp2_with fail
   obtain⟨W,hW⟩:∃W,W=w.drewN nq:=⟨_,rfl⟩;rw[<-hW];have hbW:Below w.heap.size w W:=by rw[hW];exact below_drewN (Below.refl _ w) nq
   have HBW:=Lib.hid hbW;clear hW hbW hfr e0 e1 e2 e5 e2'
   go_loopw [29] (fun i wr=>∃(j Z' C':Nat) (D':Nat->Prop),j<=nm/\i=.int .i64 j/\Hid (US wr p 1 Z' C' D'/\Z<=Z'/\Z'<=Z+j*1040/\C<=C'/\C'<=C+j*8000/\(∀b,D' b->D b\/w.heap.size<=b)/\ak (fun b=>D b\/fG ms b) w wr/\mu wr p eb D' Am cm ms Aa ca acts 0/\∀i x,j<=i->ms[i]?=some x->qp wr (fun b=>D' b\/fG ms b) x.1 x.2.1 x.2.2)) (fun i _=>nm-(intOf i).toNat)
   case atStart=>
    refine⟨0,Z,C,D,AI _,rfl,Lib.hid ⟨HU.out.below HBW.out,pi _,pi _,pi _,pi _,fun b h=>.inl h,.cR HBW.out,?_,fun i x _ hx=>?_⟩⟩
    .have h:=HH.out;have f0:ak (fun _=>False) w W:=.cR HBW.out;exact⟨h.lN.an f0 (fun _ h=>h.elim) fun b h=>.inl h,f0.cC h.bx (fun h=>h),h.de,fun i x hx=>by obtain⟨b,o,e1,e2,e3,e4,e5⟩:=h.row i x hx;exact⟨b,o,e1,e2,e3,ro e4 f0.size,(f0.cell (p:=⟨b,o+i,none⟩) e4 (fun h=>h)).trans e5⟩,h.act.below HBW.out,h.lim,fun x hx=>⟨(h.gZ x hx).1,ro (h.gZ x hx).2 f0.size⟩⟩
    .exact((HM.out x (ep hx)).1).an (D:=fun _=>False) (.cR HBW.out) (fun _ h=>h.elim) (fun b h=>.inl h) (fun h=>h)
   case round=>
    obtain⟨j,Z',C',D',hj,rfl,hI⟩:=hrel;obtain⟨hU,v1,v2,v3,v4,v5,v6,hE,hMs⟩:=hI.out;obtain⟨e0,e1,e2,_,e5⟩:=lK hE.bx;rw[<-HNM.out]at e2;by_cases hlt:j<nm
    .obtain⟨x,hx⟩:∃x,ms[j]?=some x:=⟨ms[j]'(by rw[<-HNM.out];exact hlt),bF _⟩;have hxm:=ep hx;obtain⟨b,o,hA,_,_,_,hc⟩:=hE.row j x hx;obtain rfl:=hA;have hMx:=hMs j x (pi _) hx;have hbx:=(HM.out x hxm).2;have hdx:=hE.gZ x hxm;have hme:fG ms x.1:=⟨x,hxm,rfl⟩;have hfu:=hU.full;have he:=hE.bx;rw[<-HP.out]at he;have hF:=af1 (E:=fun b=>fG ms b\/b=eb) hU he hE.de hMx.bx hdx.1 (hMx.dat.keep fun b o hb hs=>⟨hs,fun hx=>hb (.inl hx)⟩) hMx.ok hE.lN (.inl hme) (hE.act.sub fun b h=>.inl h) HP.out.symm hE.lim (by rw[HP.out];exact hbx) hP100 aGl aGl;have NX:Hid (∀w6,(∃Z6 C6 D6,US w6 p 1 Z6 C6 D6/\Z'<=Z6/\Z6<=Z'+1040/\C'<=C6/\C6<=C'+8000/\(∀b,D6 b->D' b\/wr.heap.size<=b)/\ak (fun b=>D' b\/b=x.1) wr w6)->∃Z6 C6 D6,US w6 p 1 Z6 C6 D6/\Z<=Z6/\Z6<=Z+(j+1)*1040/\C<=C6/\C6<=C+(j+1)*8000/\(∀b,D6 b->D b\/w.heap.size<=b)/\ak (fun b=>D b\/fG ms b) w w6/\mu w6 p eb D6 (some ⟨b,o,none⟩) cm ms Aa ca acts 0/\∀i x,j+1<=i->ms[i]?=some x->qp w6 (fun b=>D6 b\/fG ms b) x.1 x.2.1 x.2.2):=by
      refine Lib.hid ?_;rintro w6 ⟨Z6,C6,D6,g6,a1,a2,a3,a4,a5,a6⟩;refine⟨Z6,C6,D6,g6,aGl,aGl,aGl,aGl,fun b hb=>(a5 b hb).elim (v5 b) fun hy=>.inr (rt v6.size hy),v6.after a6 (fun b hb=>?_),hE.an a6 a5 hme (fun e=>hebE (by rw[e];exact hme)),fun i y hi hy=>?_⟩
      .rcases hb with hb|rfl
       .exact(v5 b hb).imp .inl id
       .exact .inl (.inr hme)
      .refine(hMs i y aGl hy).an a6 (fun b hb=>hb.imp id fun e=>by rw[e];exact hme) (fun b hb=>hb.elim (fun hb=>(a5 b hb).imp .inl id) fun hb=>.inl (.inr hb)) fun hb=>?_;rcases hb with hb|hb
       .exact(hE.gZ y (ep hy)).1 hb
       .have:=afm HDI.out hx hy aGl;exact this hb.symm
     have HF:=Lib.hid hF;clear hI hU v1 v2 v3 v4 v5 v6 hE hMs hMx hbx hdx hme he hF hx hxm
     go_wp2_with fail
     refine hfu.mono ?_;rintro e w' ⟨rfl,rfl⟩;clear hfu
     go_wp2_with fail
     refine HF.out.mono ?_;rintro e w6 ⟨rfl,h6⟩;obtain⟨Z6,C6,D6,h7⟩:=NX.out w6 h6;have H7:=Lib.hid h7;clear h6 h7 HF NX
     go_wp2_with fail
     go_roundw
     case rel=>exact⟨j+1,Z6,C6,D6,aGl,by go_num,H7⟩
     case measure=>simp[intOf];omega
    .obtain rfl:j=nm:=aGl
     have f5:=hE.bx.frozen 5;have hbx:af (wr.setCell ⟨eb,5,none⟩ (.int .i64 1)) eb 65 (jo p (.slice Am j cm) (.slice Aa P ca) 1):=by have h5:=hE.bx.dL 5 (.int .i64 1);rw[<-HNM.out,<-HP.out]at h5;simpa using h5
     have hue:p.u≠eb:=hU.box.ku hE.bx aGo;have hf1:ak (fun b=>b=eb) wr (wr.setCell ⟨eb,5,none⟩ (.int .i64 1)):=(ak.refl _ wr).setCell rfl;have hfin:∃Z' C' D',US (wr.setCell ⟨eb,5,none⟩ (.int .i64 1)) p 1 Z' C' D'/\af (wr.setCell ⟨eb,5,none⟩ (.int .i64 1)) eb 65 (jo p (.slice Am j cm) (.slice Aa P ca) 1)/\cD (wr.setCell ⟨eb,5,none⟩ (.int .i64 1)) (fun _=>False) Aa acts/\ak (fun b=>D b\/fG ms b\/b=eb) w (wr.setCell ⟨eb,5,none⟩ (.int .i64 1)):=⟨Z',C',D',hU.store hf1 hE.de hue hE.lN (.inr rfl),hbx,(hE.act.an (D:=fun b=>D' b\/(fG ms b\/b=eb)) (hf1.mono fun b h=>.inr (.inr h)) fun b h=>.inl h).sub fun b h=>h.elim,(v6.mono fun b h=>h.elim .inl fun h=>.inr (.inl h)).setCell (.inr (.inr rfl))⟩;have c5:=hbx.cell 5;simp only[pp,rg,pm]at c5;have HFIN:=Lib.hid hfin;have C5:=Lib.hid c5;clear hI hU v1 v2 v3 v4 v5 v6 hE hMs hbx hf1 hfin c5
     go_wp2_with fail
     go_roundw
     case rel=>exact .inr HFIN
     case measure=>
      have h0:=HH.out.bx.cell 5;simp only[pp,rg,pm]at h0;rw[HME.out]
      try dsimp only
      rw[h0,C5.out];decide
  .obtain⟨Z',C',D',hU,hbx,hro,hf⟩:=hI.out;obtain⟨y0,y1,_,_,y5⟩:=lK hbx;have hfu:=hU.full;have hfr1:Hid (∀q,Calls Tryz.prog 34 #[.pointer (some ⟨p.u,0,none⟩)] (wr.drewN q) fun e w'=>e=.returned (.int .i64 1)/\wr.drewN q=w'):=Lib.hid fun q=>FA (hU.below (below_drewN (Below.refl _ _) q));have hfu1:Hid (∀q,Calls Tryz.prog 35 #[.pointer (some ⟨p.g,0,none⟩)] (wr.drewN q) fun e w'=>e=.returned (.bool false)/\wr.drewN q=w'):=Lib.hid fun q=>(hU.below (below_drewN (Below.refl _ _) q)).full;have y1':∀q,(wr.drewN q).cell? ⟨eb,1,none⟩=some (.pointer (some ⟨p.g,0,none⟩)):=fun q=>y1;have HF:=Lib.hid hf;have HB:=Lib.hid hbx;have HR:=Lib.hid hro;clear hfr hI hU hbx hro hf hfu e0 e1 e2
   go_upto_region 3 with fail
   go_quiet ((go_at_call 34;exact kO (hfr1.out _)))
   go_wp2_with fail
   refine(hfu1.out _).mono ?_;rintro e w' ⟨rfl,rfl⟩
   go_wp2_with fail
   go_ret
   exact⟨rfl,HB.out.drewN nq,HR.out.below (below_drewN (Below.refl _ wr) nq),HF.out.drewN nq⟩
open V (bX kI nD)
section
variable{w w':World}{p:UP}{k Z C:Nat}{D A:Nat->Prop}
theorem agQ(h:US w p k Z C D)(hZ:Z<65536):Calls Tryz.prog 33 #[.pointer (some ⟨p.g,0,none⟩)] w fun e w'=>e=.returned (.int .i64 ((Z+1:Nat):Int))/\∃D',US w' p k (Z+1) C D'/\(∀b,D' b->D b\/w.heap.size<=b)/\ak D w w':=by obtain⟨Dt,Dg,h⟩:=h;obtain⟨cs,f,m,rv,Df,n,M,hg,rfl⟩:=h.gs;have hlt:=hg.lt;refine(Fx hg hZ).mono ?_;rintro e w' ⟨rfl,h1,h2⟩;have h7:ak Dg w w':=h2.mono hg.sub;exact⟨rfl,D,⟨Dt,Dg,h7.cC h.bx (fun hx=>h.nu (h.sg _ hx)),h.tb.an h7 h.gZ,⟨cs,f,m,rv,Df,n,M,h1,rfl⟩,h.gZ,h.st,h.sg,h.nu,fun b hb=>ro (h.lt b hb) h7.size,h.yv.an h7 h.sg fun b hb=>.inl hb⟩,fun b hb=>.inl hb,h7.mono h.sg⟩
theorem aEN(h:US w p k Z C D)(hN:eX w p.N p.ov p.L A)(hA:∀b,A b->b<w.heap.size)(ft:Fit p.N.d) :
  Calls Tryz.prog 32 #[.pointer (some ⟨p.u,0,none⟩)] w fun e w'=>∃M:aV,M.d=p.N.d/\e=.returned M.v/\Below w.heap.size w w'/\V.bR w' A V.bD (bX M.d) M.v:=by
 obtain⟨W,hW⟩:∃W,W=w.alloc (.cells #[.int .i64 0,.slice none 0 0,.slice none 0 0,.slice none 0 0,.slice none 0 0,.slice none 0 0,.slice none 0 0,.slice none 0 0] 27):=⟨_,rfl⟩;have hbW:Below w.heap.size w W:=by rw[hW];exact(Below.refl _ w).alloc (pi _) _
 have hxW:af W w.heap.size 27 #[.int .i64 0,.slice none 0 0,.slice none 0 0,.slice none 0 0,.slice none 0 0,.slice none 0 0,.slice none 0 0,.slice none 0 0]:=by rw[hW];exact af.new w _ _
 have hdW:V.bR W (fun b=>A b\/b=w.heap.size) V.bD (bX p.N.d) p.N.v:=hN.jb.keep (kA (.cR (D:=fun _=>False) hbW) (fun _ h=>h.elim) fun b h=>h.imp id fun e=>aGl);have hcl:=PZ (fun b hb=>by
  have:=hxW.lt;rcases hb with hb|hb
  .have:=hA b hb;omega
  .omega) hdW ft
 have hNv:p.N.v=.agg #[.int .i64 p.N.vars,.slice p.N.Ai p.N.bz.length p.N.ci,.slice p.N.Al p.N.aB.length p.N.cl,.slice p.N.Ao p.N.bN.length p.N.co,.slice p.N.Ab p.N.bO.length p.N.cb,.slice p.N.Ac p.N.constraints.length p.N.cc,.slice p.N.Am p.N.aa.length p.N.cm,.slice p.N.An p.N.al.length p.N.cn]:=rfl;have hbx:=(h.box.below hbW h.box.lt);rw[hW]at hbx;have k1:=hbx.cell 1;have k2:=hbx.cell 2;have k3:=hbx.cell 3;have k4:=hbx.cell 4;have k5:=hbx.cell 5;have k6:=hbx.cell 6;have k7:=hbx.cell 7;have k8:=hbx.cell 8;simp only[UP.cells,pp,rg,pm]at k1 k2 k3 k4 k5 k6 k7 k8;rw[hNv]at hcl;have HW:=Lib.hid hW;have HBW:=Lib.hid hbW;have HX:=Lib.hid hxW;have HCL:=Lib.hid hcl;clear hW hbW hxW hdW hcl hNv hbx h hN hA
 go_enter Tryz.func32,Tryz.ntmps32
 go_wp2_with fail
 rw[<-HW.out];refine HCL.out.mono ?_;rintro e w2 ⟨M,hM,rfl,hb2,hd2⟩;have hx2:=HX.out.below hb2 HX.out.lt;have HM:=Lib.hid hM;have HB2:=Lib.hid hb2;have HD2:=Lib.hid hd2;have HX2:=Lib.hid hx2;have hMv:M.v=.agg #[.int .i64 M.vars,.slice M.Ai M.bz.length M.ci,.slice M.Al M.aB.length M.cl,.slice M.Ao M.bN.length M.co,.slice M.Ab M.bO.length M.cb,.slice M.Ac M.constraints.length M.cc,.slice M.Am M.aa.length M.cm,.slice M.An M.al.length M.cn]:=rfl;rw[hMv];have x0:=hx2.cell 0;have x1:=hx2.cell 1;have x2:=hx2.cell 2;have x3:=hx2.cell 3;have x4:=hx2.cell 4;have x5:=hx2.cell 5;have x6:=hx2.cell 6;have x7:=hx2.cell 7;have f0:=hx2.frozen 0;have f1:=hx2.frozen 1;have f2:=hx2.frozen 2;have f3:=hx2.frozen 3;have f4:=hx2.frozen 4;have f5:=hx2.frozen 5;have f6:=hx2.frozen 6;have f7:=hx2.frozen 7;simp only[pp,rg,pm]at x0 x1 x2 x3 x4 x5 x6 x7;clear HCL HW hM hb2 hd2 hx2 hMv k1 k2 k3 k4 k5 k6 k7 k8
 go_wp2_with fail
 obtain⟨W9,hW9⟩:∃W9,W9=(((((((w2.setCell ⟨w.heap.size,0,none⟩ (.int .i64 M.vars)).setCell ⟨w.heap.size,1,none⟩ (.slice M.Ai M.bz.length M.ci)).setCell ⟨w.heap.size,2,none⟩ (.slice M.Al M.aB.length M.cl)).setCell ⟨w.heap.size,3,none⟩ (.slice M.Ao M.bN.length M.co)).setCell ⟨w.heap.size,4,none⟩ (.slice M.Ab M.bO.length M.cb)).setCell ⟨w.heap.size,5,none⟩ (.slice M.Ac M.constraints.length M.cc)).setCell ⟨w.heap.size,6,none⟩ (.slice M.Am M.aa.length M.cm)).setCell ⟨w.heap.size,7,none⟩ (.slice M.An M.al.length M.cn):=⟨_,rfl⟩;rw[<-hW9];have hx9:af W9 w.heap.size 27 #[.int .i64 M.vars,.slice M.Ai M.bz.length M.ci,.slice M.Al M.aB.length M.cl,.slice M.Ao M.bN.length M.co,.slice M.Ab M.bO.length M.cb,.slice M.Ac M.constraints.length M.cc,.slice M.Am M.aa.length M.cm,.slice M.An M.al.length M.cn]:=by rw[hW9];have:=(((((((HX2.out.dL 0 (.int .i64 M.vars)).dL 1 (.slice M.Ai M.bz.length M.ci)).dL 2 (.slice M.Al M.aB.length M.cl)).dL 3 (.slice M.Ao M.bN.length M.co)).dL 4 (.slice M.Ab M.bO.length M.cb)).dL 5 (.slice M.Ac M.constraints.length M.cc)).dL 6 (.slice M.Am M.aa.length M.cm)).dL 7 (.slice M.An M.al.length M.cn);simpa using this
 have hf9:ak (fun b=>b=w.heap.size) w2 W9:=by rw[hW9];have e:∀{W:World}{i:Nat}{u:Value},ak (fun b=>b=w.heap.size) w2 W->ak (fun b=>b=w.heap.size) w2 (W.setCell ⟨w.heap.size,i,none⟩ u):=fun h=>h.setCell rfl;exact e (e (e (e (e (e (e (e (ak.refl _ w2))))))))
 have HF9:=Lib.hid hf9;clear hW9 hf9 x0 x1 x2 x3 x4 x5 x6 x7 f0 f1 f2 f3 f4 f5 f6 f7;have hsz:(Tryz.prog.info? 27).map (·.size)=some M.fs.size:=aGm
 refine bodyPost_ret (v:=.agg M.fs) (results_cell_row Tryz.results32 _ _ w.heap.size 27 M.fs (0,0) _ ?_ hx9 Tryz.underlying27 rfl hsz) rfl ?_
 .rfl
 exact⟨M,HM.out,rfl,HBW.out.trans ((HB2.out.mono HBW.out.size).trans (HF9.out.below (rt HBW.out.size HB2.out.size) fun b e=>by have e:b=w.heap.size:=e;omega)),(HD2.out.keep (kA (A':=fun b=>A b\/b=w.heap.size) HF9.out (fun b e=>.inr e) fun b h=>.inl h)).keep fun b o hb hs=>⟨hs,fun hx=>hb (.inl hx)⟩⟩
end
def jS(Z n:Nat):io:=(List.range n).map fun i=>((Z+1+i:Nat):Int)
theorem zA(Z n:Nat):(jS Z n).length=n:=by simp[jS]
theorem aem(Z n:Nat):jS Z (n+1)=jS Z n++[((Z+n+1:Nat):Int)]:=by unfold jS;rw[aFj,dE];simp;omega
def Ca(x:k9):Value:=.pointer (some ⟨x.1,0,none⟩)
theorem US.re{p:UP}{k:Nat}(h6:US w6 p k v c D6)(hf:ak R w6 w7)(hR:∀b,R b->¬D6 b)(hu:¬R p.u)(hn:eX w7 p.N p.ov p.L D6):US w7 p k v c D6:=by obtain⟨Dt,Dg,h⟩:=h6;exact⟨Dt,Dg,hf.cC h.bx hu,h.tb.an hf (fun b hb hx=>hR b hx (h.st b hb)),h.gs.an hf (fun b hb hx=>hR b hx (h.sg b hb)),h.gZ,h.st,h.sg,h.nu,fun b hb=>ro (h.lt b hb) hf.size,hn⟩
structure kF(W:World)(p:UP)(Z C eb:Nat)(D:Nat->Prop)(n:Nat)(ms:List k9)(mv av:Value)(D':Nat->Prop)(wr:World):Prop where
 us:US wr p 0 (Z+n) C D'
 sub:∀b,D' b->D b\/W.heap.size<=b
 fr:ak (fun b=>D b\/b=eb) W wr
 bx:af wr eb 65 (jo p mv av 0)
 om:wr.ownsRow W.heap.size 80 1 mv ms.length (ms.map Ca)
 mU:wr.ownsRow W.heap.size 3 1 av n (iv (jS Z n))
 mo:∀b,mv.ownBlock=some b->¬D' b
 ao:∀b,av.ownBlock=some b->¬D' b
 mem:∀x∈ms,af wr x.1 83 (iH x.2.2 x.2.1 (.slice none 0 0))/\W.heap.size<=x.1/\¬D' x.1
 nd:(ms.map (·.1)).Nodup
section
variable{W wr w2 w3:World}{p:UP}{Z C eb n:Nat}{D D' D2:Nat->Prop}{ms:List k9}{mv av av':Value}
theorem PQ{w:World}{B1 n1 n2:Nat}{e1 e2:TypeId}{v1 v2:Value}{xs1 xs2:kw}(h1:w.ownsRow B1 e1 1 v1 n1 xs1)(h2:w.ownsRow B2 e2 1 v2 n2 xs2)(hne:e1≠e2)(hb:v1.ownBlock=some b):v2.ownBlock≠some b:=Qd h1 h2 hne b hb
theorem kF.act(h:kF W p Z C eb D n ms mv av D' wr)(hN:eX W p.N p.ov p.L (fun b=>D b\/b=eb))(heD:¬D eb)(heW:eb<W.heap.size)(hu:US w2 p 0 (Z+n+1) C D2)(hd:∀b,D2 b->D' b\/wr.heap.size<=b)(hf:ak D' wr w2)
  (ho:w3.ownsRow W.heap.size 3 1 av' (n+1) (iv (jS Z n)++[.int .i64 ((Z+n+1:Nat):Int)])) (hg:w2.grownBy w3 av.ownBlock) (hat:av'.ownBlock=av.ownBlock\/av'.ownBlock=some (w2.heap.size+1)) :
  kF W p Z C eb D (n+1) ms mv av' D2 (w3.setCell ⟨eb,3,none⟩ av'):=by
 have hWs:=h.fr.size;have hs2:=hf.size;have hf3:ak (fun b=>av.ownBlock=some b) w2 w3:=(ak.refl _ w2).grown hg fun b hb=>hb;have he2:¬D' eb:=fun hx=>(h.sub _ hx).elim heD aGl;have hnew:∀b,wr.heap.size<=b->W.heap.size<=b:=fun b hb=>rt hWs hb;have sub2:∀b,D2 b->D b\/W.heap.size<=b:=fun b hb=>(hd b hb).elim (h.sub b) fun hx=>.inr (hnew b hx);have ha2:∀b,av.ownBlock=some b->¬D2 b:=fun b hb hx=>(hd b hx).elim (h.ao b hb) fun hy=>by have:=(h.mU.lt b hb).2;omega
 have hm2:∀b,mv.ownBlock=some b->¬D2 b:=fun b hb hx=>(hd b hx).elim (h.mo b hb) fun hy=>by have:=(h.om.lt b hb).2;omega
 have hR:ak (fun b=>av.ownBlock=some b\/b=eb) w2 (w3.setCell ⟨eb,3,none⟩ av'):=(hf3.mono fun b hb=>.inl hb).setCell (.inr rfl);have h2e:¬D2 eb:=fun hx=>(sub2 _ hx).elim heD aGl;have hfr:ak (fun b=>D b\/b=eb) W (w3.setCell ⟨eb,3,none⟩ av'):=(h.fr.after hf fun b hb=>(h.sub b hb).imp .inl id).after hR fun b hb=>hb.elim (fun hb=>.inr (h.mU.lt b hb).1) fun e=>.inl (.inr e);have hul:=h.us.box.lt;have hav2:=hf.own h.mU h.ao;have hmv2:=hf.own h.om h.mo;have heb2:=hf.cC h.bx he2;have hane:∀{B:Nat},av.ownBlock=some B->B≠eb:=fun hb e=>dZ hav2 heb2 aGo (e▸hb);have hebN:some eb≠av.ownBlock:=fun e=>hane e.symm rfl;refine⟨?_,sub2,hfr,?_,?_,?_,hm2,?_,fun x hx=>?_,h.nd⟩
 .refine hu.re hR (fun b hb=>hb.elim (ha2 b) fun e=>by rw[e];exact h2e) (fun hx=>?_) (hN.an hfr (fun b h=>h) fun b hb=>(sub2 b hb).imp .inl id);rcases hx with hx|hx
  .exact dZ hav2 hu.box aGo hx
  .exact hu.box.ku heb2 aGo hx
 .have hb3:af w3 eb 65 (jo p mv av 0):=heb2.grown hg hebN;have:=hb3.dL 3 av';simpa using this
 .have h3:=hf3.own hmv2 (fun b hb hx=>PQ hmv2 hav2 aGo hb hx);exact jR h3 (fun e=>dZ h3 (heb2.grown hg hebN) aGo e)
 .rw[aem,oO];refine jR ho (fun e=>?_);exact dZ ho (heb2.grown hg hebN) aGo e
 .intro b hb hx;rcases hat with e|e
  .exact ha2 b (e▸hb) hx
  .rw[e]at hb;injection hb with hb;have:=hu.lt b hx;omega
 .obtain⟨b1,b2,b3⟩:=h.mem x hx;have b4:=hf.cC b1 b3;have hne:some x.1≠av.ownBlock:=fun e=>dZ hav2 b4 aGo e.symm;have b5:=b4.grown hg hne;exact⟨b5.dz (p:=⟨eb,3,none⟩) (b5.ku (heb2.grown hg hebN) aGo) av',b2,fun hx=>(hd _ hx).elim b3 fun hy=>by have:=b1.lt;omega⟩
theorem kF.aw1{m:bk}(h:kF W p Z C eb D n ms mv av D' wr)(hN:eX W p.N p.ov p.L (fun b=>D b\/b=eb))(heD:¬D eb)(heW:eb<W.heap.size)(hb:Below wr.heap.size wr w1){mv':Value}
  (ho:w3.ownsRow W.heap.size 80 1 mv' (ms.length+1) (ms.map Ca++[.pointer (some ⟨w1.heap.size,0,none⟩)])) (hg:(w1.alloc (.cells (iH m n (.slice none 0 0)) 83)).grownBy w3 mv.ownBlock) (hat:mv'.ownBlock=mv.ownBlock\/mv'.ownBlock=some ((w1.alloc (.cells (iH m n (.slice none 0 0)) 83)).heap.size+1)) :
  kF W p Z C eb D n (ms++[(w1.heap.size,n,m)]) mv' av D' (w3.setCell ⟨eb,2,none⟩ mv'):=by
 obtain⟨w2,hw2⟩:∃w2,w2=w1.alloc (.cells (iH m n (.slice none 0 0)) 83):=⟨_,rfl⟩;rw[<-hw2]at hg hat;have hbm:af w2 w1.heap.size 83 (iH m n (.slice none 0 0)):=by rw[hw2];exact af.new w1 _ _
 have hs12:w2.heap.size=w1.heap.size+1:=by rw[hw2];simp
 have hb2:Below wr.heap.size wr w2:=by rw[hw2];exact hb.alloc hb.size _
 have hWs:=h.fr.size;have hs1:=hb.size;have hf:ak D' wr w2:=.cR hb2;have hf3:ak (fun b=>mv.ownBlock=some b) w2 w3:=(ak.refl _ w2).grown hg fun b hb=>hb;have he2:¬D' eb:=fun hx=>(h.sub _ hx).elim heD aGl;have hR:ak (fun b=>mv.ownBlock=some b\/b=eb) w2 (w3.setCell ⟨eb,2,none⟩ mv'):=(hf3.mono fun b hb=>.inl hb).setCell (.inr rfl);have hfr:ak (fun b=>D b\/b=eb) W (w3.setCell ⟨eb,2,none⟩ mv'):=(h.fr.after hf fun b hb=>(h.sub b hb).imp .inl id).after hR fun b hb=>hb.elim (fun hb=>.inr (h.om.lt b hb).1) fun e=>.inl (.inr e);have hav2:=hf.own h.mU h.ao;have hmv2:=hf.own h.om h.mo;have heb2:=hf.cC h.bx he2;have hu:=h.us.below hb2;have hebN:some eb≠mv.ownBlock:=fun e=>dZ hmv2 heb2 aGo e.symm;have hD1:¬D' w1.heap.size:=fun hx=>by have:=h.us.lt _ hx;omega
 refine⟨?_,h.sub,hfr,?_,?_,?_,?_,h.ao,fun x hx=>?_,?_⟩
 .refine hu.re hR (fun b hb=>hb.elim (h.mo b) fun e=>by rw[e];exact he2) (fun hx=>?_) (hN.an hfr (fun b h=>h) fun b hb=>(h.sub b hb).imp .inl id);rcases hx with hx|hx
  .exact dZ hmv2 hu.box aGo hx
  .exact hu.box.ku heb2 aGo hx
 .have hb3:af w3 eb 65 (jo p mv av 0):=heb2.grown hg hebN;have:=hb3.dL 2 mv';simpa using this
 .rw[dE,aO];exact jR ho (fun e=>dZ ho (heb2.grown hg hebN) aGo e)
 .have h3:=hf3.own hav2 (fun b hb hx=>PQ hav2 hmv2 aGo hb hx);exact jR h3 (fun e=>dZ h3 (heb2.grown hg hebN) aGo e)
 .intro b hb hx;rcases hat with e|e
  .exact h.mo b (e▸hb) hx
  .rw[e]at hb;injection hb with hb;have:=h.us.lt b hx;omega
 .rcases At.1 hx with hx|hx
  .obtain⟨b1,b2,b3⟩:=h.mem x hx;have b4:=hf.cC b1 b3;have hne:some x.1≠mv.ownBlock:=fun e=>dZ hmv2 b4 aGo e.symm;have b5:=b4.grown hg hne;exact⟨b5.dz (p:=⟨eb,2,none⟩) (b5.ku (heb2.grown hg hebN) aGo) mv',b2,b3⟩
  .obtain rfl:=OF.1 hx;have hne:some w1.heap.size≠mv.ownBlock:=fun e=>dZ hmv2 hbm aGo e.symm;have b5:=hbm.grown hg hne;exact⟨b5.dz (p:=⟨eb,2,none⟩) (b5.ku (heb2.grown hg hebN) aGo) mv',by show W.heap.size<=w1.heap.size;omega,hD1⟩
 .rw[dE];refine aFo.2 ⟨h.nd,aGn,fun a ha b hb=>?_⟩;obtain⟨x,hx,rfl⟩:=IN.1 ha;obtain rfl:=OF.1 hb;have:=(h.mem x hx).1.lt;show x.1≠w1.heap.size;omega
end
theorem Qb{w:World}{A:Nat->Prop}{d:cS}{v:Value}(h:V.bR w A V.aj (V.aF d) v):∃M:bk,M.v=v/\M.d=d/\M.bU w w.heap.size:=by
 obtain⟨Ms,h1,h2,h3⟩:=V.AB (L:=[V.aF d]) (X:=v.cells.toList) ⟨v.cells.toList,[],aGn,h.1,rfl⟩;rw[IS,aFi,V.Hx]at h1;rcases Ms with _|⟨M,_|⟨M2,Ms⟩⟩
 .exact absurd (IT List.length h1) aGn
 rotate_left
 .exact absurd (IT List.length h1) aGn
 .rw[IS,aFi]at h1;injection h1 with h1 _;refine⟨M,?_,h1,h3 M aGn⟩;simp only[Fn,aER,dJ]at h2;obtain⟨_,hag⟩:=h;have e2:M.v=.agg M.cells.toArray:=rfl;rw[e2,<-h2];rcases v with _|_|_|_|_|_|c|_|_|_|_|_<;>first|(cases hag;done)|simp[Value.cells]
theorem Qc{w:World}{A:Nat->Prop}{M:aV}(h:V.bR w A V.bD (bX M.d) M.v):eX w M (.slice none 0 0) [] A:=⟨h,⟨none,0,0,rfl,rfl,pi _,fun h=>absurd rfl h⟩,rfl⟩
theorem af2{w:World}{p:UP}{k C:Nat}{D:Nat->Prop}(h:US w p k v C D):Calls Tryz.prog 31 #[.pointer (some ⟨p.u,0,none⟩)] w fun e w'=>e=.returned (.pointer (some ⟨p.g,0,none⟩))/\w=w':=by
 have c:=h.qd;clear h
 go_enter Tryz.func31,Tryz.ntmps31
 go_wp2_with fail
 go_ret
 exact⟨rfl,rfl⟩
def jc(m:cS):Nat:=m.reads.length+m.writes.length
def oQ(d:aZ):Nat:=(d.aa.map jc).sum
theorem aeC:(Tryz.prog.info? 80).map (fun i=>(i.zero,i.size,i.bytes))=some (some (.pointer none),1,8):=aGm
set_option maxHeartbeats 8000000
theorem aiu{w:World}{p:UP}{Z C:Nat}{D:Nat->Prop}(h:US w p 0 Z C D)(ft:Fit p.N.d)(hs:∀m∈p.N.d.aa,jc m<=8)(hl:p.N.d.aa.length<=4)(hZ:Z+100<65536) :
  Calls Tryz.prog 16 #[.pointer (some ⟨p.u,0,none⟩),.bool false] w fun e w'=>∃eb W n ms mv av D',e=.returned (.pointer (some ⟨eb,0,none⟩))/\kF W p Z C eb D n ms mv av D' w'/\n=oQ p.N.d/\ms.length=p.N.d.aa.length/\(∀x∈ms,(x.2.1+jc x.2.2.d<=n/\x.2.2.d∈p.N.d.aa)/\V.bR W (fun b=>D b\/b=eb) V.aj (V.aF x.2.2.d) x.2.2.v) /\
   eX W p.N p.ov p.L (fun b=>D b\/b=eb)/\Below w.heap.size w W/\w.heap.size<=eb/\eb<W.heap.size:=by
 obtain⟨eb,heb⟩:∃eb,eb=w.heap.size:=⟨_,rfl⟩;obtain⟨w1,hw1⟩:∃w1,w1=w.alloc (.cells (jo p (.slice none 0 0) (.slice none 0 0) 0) 65):=⟨_,rfl⟩;have hb1:Below w.heap.size w w1:=by rw[hw1];exact(Below.refl _ w).alloc (pi _) _
 have hx1:af w1 eb 65 (jo p (.slice none 0 0) (.slice none 0 0) 0):=by rw[hw1,heb];exact af.new w _ _
 have hN1:eX w1 p.N p.ov p.L (fun b=>D b\/b=eb):=h.lN.an (D:=fun _=>False) (.cR hb1) (fun _ h=>h.elim) fun b hb=>hb.imp id fun e=>aGl
 have hnet:=aEN (h.below hb1) hN1 (fun b hb=>hb.elim (fun hb=>ro (h.lt b hb) hb1.size) fun e=>by rw[e];exact hx1.lt) ft;have hga:=af2 h;have HEB:=Lib.hid heb;have HW1:=Lib.hid hw1;have HB1:=Lib.hid hb1;have HX1:=Lib.hid hx1;have HN1:=Lib.hid hN1;have HH:=Lib.hid h;clear heb hw1 hb1 hx1 hN1 h
 go_enter Tryz.func16,Tryz.ntmps16
 go_wp2_with fail
 refine hga.mono ?_;rintro e w' ⟨rfl,rfl⟩;clear hga
 go_wp2_with fail
 rw[<-HW1.out,<-HEB.out];refine hnet.mono ?_;rintro e w2 ⟨M,hMd,rfl,hb2,hd2⟩;rw[show M.v=.agg #[.int .i64 M.vars,.slice M.Ai M.bz.length M.ci,.slice M.Al M.aB.length M.cl,.slice M.Ao M.bN.length M.co,.slice M.Ab M.bO.length M.cb,.slice M.Ac M.constraints.length M.cc,.slice M.Am M.aa.length M.cm,.slice M.An M.al.length M.cn]from rfl];obtain⟨nb,hnb⟩:∃nb,nb=w2.heap.size:=⟨_,rfl⟩;obtain⟨W,hW⟩:∃W,W=w2.alloc (.cells #[.int .i64 M.vars,.slice M.Ai M.bz.length M.ci,.slice M.Al M.aB.length M.cl,.slice M.Ao M.bN.length M.co,.slice M.Ab M.bO.length M.cb,.slice M.Ac M.constraints.length M.cc,.slice M.Am M.aa.length M.cm,.slice M.An M.al.length M.cn] 27):=⟨_,rfl⟩;have hbW:Below w2.heap.size w2 W:=by rw[hW];exact(Below.refl _ w2).alloc (pi _) _
 have hxW:af W nb 27 #[.int .i64 M.vars,.slice M.Ai M.bz.length M.ci,.slice M.Al M.aB.length M.cl,.slice M.Ao M.bN.length M.co,.slice M.Ab M.bO.length M.cb,.slice M.Ac M.constraints.length M.cc,.slice M.Am M.aa.length M.cm,.slice M.An M.al.length M.cn]:=by rw[hW,hnb];exact af.new w2 _ _
 have hb1W:Below w1.heap.size w1 W:=hb2.trans (hbW.mono hb2.size);have hdW:V.bR W (fun b=>D b\/b=eb) V.bD (bX M.d) M.v:=hd2.keep (kA (.cR (D:=fun _=>False) hbW) (fun _ h=>h.elim) fun b h=>.inl h);have hNW:eX W p.N p.ov p.L (fun b=>D b\/b=eb):=HN1.out.an (D:=fun _=>False) (.cR hb1W) (fun _ h=>h.elim) fun b h=>.inl h;have hUW:=(HH.out.below HB1.out).below hb1W;have hxe:=HX1.out.below hb1W HX1.out.lt;have n6:=hxW.cell 6;simp only[pp,rg,pm]at n6;obtain⟨Am,hAm⟩:∃Am,Am=M.Am:=⟨_,rfl⟩;obtain⟨nm,hnm⟩:∃nm,nm=M.aa.length:=⟨_,rfl⟩;rw[<-hAm,<-hnm]at n6;have hlm:M.aa.length=p.N.d.aa.length:=by rw[<-hMd];exact(aR _).symm
 have hnm4:nm<=4:=aGl
 have HEW:Hid (eb<W.heap.size):=Lib.hid (ro HX1.out.lt hb1W.size);have heD:¬D eb:=fun hx=>absurd (HH.out.lt _ hx) (by have:=HEB.out;omega);have HNB:=Lib.hid hnb;have HW:=Lib.hid hW;have HXW:=Lib.hid hxW;have HDW:=Lib.hid hdW;have HNW:=Lib.hid hNW;have HUW:=Lib.hid hUW;have HXE:=Lib.hid hxe;have HAM:=Lib.hid hAm;have HNM:=Lib.hid hnm;have HMD:=Lib.hid hMd;have HLM:=Lib.hid hlm;have HBW:=Lib.hid (HB1.out.trans (hb1W.mono HB1.out.size));clear hnet hb2 hd2 hnb hW hbW hxW hb1W hdW hNW hUW hxe hAm hnm hMd hlm
 go_wp2_with fail
 rw[<-HW.out,<-HNB.out,<-HAM.out,<-HNM.out];clear HW n6
 go_loopw [22] (fun i wr=>∃(j n:Nat) (ms:List k9) (mv av:Value) (D':Nat->Prop),j<=nm/\i=.int .i64 j/\Hid (kF W p Z C eb D n ms mv av D' wr/\n=((p.N.d.aa.take j).map jc).sum/\ms.length=j/\n<=8*j/\(∀x∈ms,(x.2.1+jc x.2.2.d<=n/\x.2.2.d∈p.N.d.aa)/\V.bR W (fun b=>D b\/b=eb) V.aj (V.aF x.2.2.d) x.2.2.v))) (fun i _=>nm-(intOf i).toNat)
 case atStart=>exact⟨0,0,[],.slice none 0 0,.slice none 0 0,D,AI _,rfl,Lib.hid ⟨⟨HUW.out,fun b h=>.inl h,.refl _ _,HXE.out,World.ownsRow_nil _ _ _ _,World.ownsRow_nil _ _ _ _,fun b hb=>(by cases hb),fun b hb=>(by cases hb),fun x hx=>absurd hx aGn,List.nodup_nil⟩,aGn,rfl,pi _,fun x hx=>absurd hx aGn⟩⟩
 case round=>
  obtain⟨j,n,ms,mv,av,D',hj,rfl,hI⟩:=hrel;by_cases hlt:j<nm
  .obtain⟨hNI,hn,hml,hn8,hms⟩:=hI.out;have hlj:j<p.N.d.aa.length:=by rw[<-HLM.out,<-HNM.out];exact hlt
   obtain⟨d,hd⟩:∃d,p.N.d.aa[j]?=some d:=⟨_,bF hlj⟩;have hdm:=ep hd;obtain⟨b,o,v0,v1,v2,v3,v4,hA,_,hbn,hbl,hdat,hcs⟩:=(Qc HDW.out).mem (k:=j) (by rw[HMD.out];exact hd);obtain⟨m,hv,hmd,_⟩:=Qb hdat;have hvv:v0=.int .i64 m.addr/\v1=.int .i64 m.word/\v2=.bool m.any/\v3=.slice m.A m.reads.length m.c/\v4=.slice m.A2 m.writes.length m.c2:=by have:m.v=.agg #[.int .i64 m.addr,.int .i64 m.word,.bool m.any,.slice m.A m.reads.length m.c,.slice m.A2 m.writes.length m.c2]:=rfl;rw[this]at hv;injection hv with hv;simp at hv;exact⟨hv.1.symm,hv.2.1.symm,hv.2.2.1.symm,hv.2.2.2.1.symm,hv.2.2.2.2.symm⟩
   obtain⟨rfl,rfl,rfl,rfl,rfl⟩:=hvv;rw[<-hmd]at hdat hdm hd;have hc:=fun i u hu=>(hNI.fr.cell (p:=⟨b,o+(j*5+i),none⟩) hbl hbn).trans (hcs i u hu);have y0:=hc 0 _ rfl;have y1:=hc 1 _ rfl;have y2:=hc 2 _ rfl;have y3:=hc 3 _ rfl;have y4:=hc 4 _ rfl;simp only[aux,<-adc]at y0 y1 y2 y3 y4;rw[<-HAM.out]at hA;obtain rfl:=hA;obtain⟨Amv,cmv,hmv,_,_,_⟩:=eo hNI.om;obtain⟨Aav,cav,hav,_,_,_⟩:=eo hNI.mU;rw[hml]at hmv;subst hmv hav;obtain⟨X,hX⟩:∃X,X=wr.alloc (.cells #[.int .i64 m.addr,.int .i64 m.word,.bool m.any,.slice m.A m.reads.length m.c,.slice m.A2 m.writes.length m.c2] 54):=⟨_,rfl⟩;obtain⟨tb,htb⟩:∃tb,tb=wr.heap.size:=⟨_,rfl⟩;have hbX:Below wr.heap.size wr X:=by rw[hX];exact(Below.refl _ wr).alloc (pi _) _
   have hxX:af X tb 54 #[.int .i64 m.addr,.int .i64 m.word,.bool m.any,.slice m.A m.reads.length m.c,.slice m.A2 m.writes.length m.c2]:=by rw[hX,htb];exact af.new wr _ _
   have hXs:X.heap.size=wr.heap.size+1:=by rw[hX];simp
   have heX:=hNI.bx.below hbX hNI.bx.lt;have hmrX:=(ak.cR (D:=fun _=>False) hbX).own hNI.om (fun _ _ h=>h);have hpc:=hs _ hdm;have HX:=Lib.hid hX;have HTB:=Lib.hid htb;have HBX:=Lib.hid hbX;have HXX:=Lib.hid hxX;have HEX:=Lib.hid heX;have HMR:=Lib.hid hmrX;have HNI:=Lib.hid hNI;have HN:=Lib.hid hn;have HML:=Lib.hid hml;have HMS:=Lib.hid hms;have HDA:=Lib.hid hdat;have HDM:=Lib.hid hdm;have HD:=Lib.hid hd;have HXS:=Lib.hid hXs;clear hI hNI hn hml hms hdat hdm hd hcs hc hv hmd hX htb hbX hxX heX hmrX hlj hXs
   go_wp2_with fail
   rw[<-HX.out,<-HTB.out];clear HX y0 y1 y2 y3 y4
   go_cut [] (fun wx=>Hid (∃mv',kF W p Z C eb D n (ms++[(X.heap.size,n,m)]) mv' (.slice Aav n cav) D' wx/\af wx tb 54 #[.int .i64 m.addr,.int .i64 m.word,.bool m.any,.slice m.A m.reads.length m.c,.slice m.A2 m.writes.length m.c2]))
   case first=>
    obtain⟨mbc,hmbc⟩:∃mbc:Array Value,mbc=iH m n (.slice none 0 0):=⟨_,rfl⟩;have x0:=HXX.out.drew.cell 0;have x1:=HXX.out.drew.cell 1;have x2:=HXX.out.drew.cell 2;have x3:=HXX.out.drew.cell 3;have x4:=HXX.out.drew.cell 4;obtain⟨_,_,q2,q3,_⟩:=lK HEX.out.drew;obtain⟨_,_,r2,_,_⟩:=lK ((HEX.out.alloc (.cells (iH m n (.slice none 0 0)) 83)).drew);obtain⟨_,_,s2,_,_⟩:=lK (((HEX.out.alloc (.cells (iH m n (.slice none 0 0)) 83)).alloc (.cells #[.pointer (some ⟨X.heap.size,0,none⟩)] 80)).drew);simp only[pp,rg,pm]at x0 x1 x2 x3 x4;have hq1:X.heap.size+1=(X.alloc (.cells (iH m n (.slice none 0 0)) 83)).drew.heap.size:=aGn
    have hro:(X.alloc (.cells (iH m n (.slice none 0 0)) 83)).drew.ownsRow W.heap.size 80 1 (.slice Amv j cmv) j (ms.map Ca):=by have:=HMR.out.alloc (.cells (iH m n (.slice none 0 0)) 83);rw[HML.out]at this;exact this
    have hbs:W.heap.size<=(X.alloc (.cells (iH m n (.slice none 0 0)) 83)).drew.heap.size:=by have h1:=HNI.out.fr.size;have h2:=HBX.out.size;rw[<-hq1];omega
    have hem:=(HEX.out.alloc (.cells (iH m n (.slice none 0 0)) 83)).drew;have HNE:Hid (some eb≠(Value.slice Amv j cmv).ownBlock):=Lib.hid fun e=>dZ hro hem aGo e.symm;have HEM:=Lib.hid hem;clear hem;have HQ1:=Lib.hid hq1;have HRO:=Lib.hid hro;have HBS:=Lib.hid hbs;clear hmbc hq1 hro hbs
    go_region_law (first
     |(refine zw (X.alloc (.cells (iH m n (.slice none 0 0)) 83)).drew rfl _ _ 63 rfl W.heap.size 80 (.pointer none) 8 Tryz.underlying63 aeC rfl aGl (.slice Amv j cmv) j (ms.map Ca) rfl HRO.out (.pointer (some ⟨X.heap.size,0,none⟩)) rfl _ rfl HQ1.out aGl HBS.out ?_;intro mv3 w3 hown3 hg3 hat3;have he3:=HEM.out.grown hg3 HNE.out;have d2:=he3.cell 2;have f2:=he3.frozen 2;simp only[pp,rg,pm]at d2;obtain⟨A3,c3,rfl,_,_,_⟩:=eo hown3;have HO3:=Lib.hid hown3;have HG3:=Lib.hid hg3;have HA3:=Lib.hid hat3;clear he3 hown3 hg3 hat3))
    all_goals (
     go_wp2_with fail
     go_meet
     refine Lib.hid ⟨.slice A3 (j+1) c3,kF.aw1 HNI.out HNW.out heD HEW.out HBX.out (by rw[HML.out];exact HO3.out) ⟨HG3.out.os,HG3.out.tape,HG3.out.output,HG3.out.size,HG3.out.block⟩ HA3.out,?_⟩;have hx1:=(HXX.out.alloc (.cells (iH m n (.slice none 0 0)) 83)).drew;have hx2:=hx1.grown HG3.out (fun e=>dZ HRO.out hx1 aGo e.symm);exact hx2.dz (p:=⟨eb,2,none⟩) (hx2.ku (HEM.out.grown HG3.out HNE.out) aGo) _)
   case rest=>
   obtain⟨mv',hNI2,hxt⟩:=hcut.out;obtain⟨pc,hpc2⟩:∃pc,pc=m.reads.length+m.writes.length:=⟨_,rfl⟩;have hpcd:pc=jc m.d:=by rw[hpc2];show _=(m.reads.map cO.d).length+(m.writes.map dM.d).length;rw[aR,aR]
   have hpi:(m.reads.length:Int)+(m.writes.length:Int)=(pc:Int):=aGl
   have hpw:IntKind.i64.wrap (pc:Int)=(pc:Int):=IntWalk.i64_in _ ⟨aGl,aGl⟩;have hpw2:IntKind.i64.wrap ((m.reads.length:Int)+(m.writes.length:Int))=(pc:Int):=by rw[hpi];exact hpw
   have t3:=hxt.cell 3;have t4:=hxt.cell 4;simp only[pp,rg,pm]at t3 t4;have hpc8:pc<=8:=aGl
   have HPD:=Lib.hid hpcd;have HNI2:=Lib.hid hNI2;clear hcut hNI2 hxt hpcd hpc2 hpc HNI HMR HEX HXX
   go_wp2_with fail
   go_loopw [50] (fun i wr=>∃(q:Nat) (av:Value) (D':Nat->Prop),q<=pc/\i=.int .i64 q/\Hid (kF W p Z C eb D (n+q) (ms++[(X.heap.size,n,m)]) mv' av D' wr)) (fun i _=>pc-(intOf i).toNat)
   case atStart=>exact⟨0,_,D',AI _,rfl,HNI2⟩
   case round=>
    obtain⟨q,av,D',hq,rfl,hI⟩:=hrel;by_cases hlq:q<pc
    .have hNI:=hI.out;obtain⟨Aav,cav,hav,_,_,_⟩:=eo hNI.mU;subst hav;have heD':¬D' eb:=fun hx=>(hNI.sub _ hx).elim heD fun hy=>absurd HEW.out aGl;obtain⟨_,q1,_,q3,_⟩:=lK hNI.bx.drew;have hfx:=agQ (w:=wr.drew) hNI.us.drew aGl;obtain⟨vf,hvf⟩:∃vf:Int,vf=((Z+(n+q)+1:Nat):Int):=⟨_,rfl⟩;rw[<-hvf]at hfx;have HVF:=Lib.hid hvf;clear hvf;have HFX:=Lib.hid hfx;have HNI:=Lib.hid hNI;clear hI hNI hfx
     go_wp2_with fail
     go_region_law (first
      |(go_simp;go_at_call 33;refine HFX.out.mono ?_;rintro e w4 ⟨rfl,D2,hu2,hd2,f2⟩;have he4:=f2.cC HNI.out.bx.drew heD';obtain⟨_,_,_,p3,_⟩:=lK he4;obtain⟨_,_,_,r3,_⟩:=lK (he4.alloc (.cells #[.int .i64 vf] 3));have how:=f2.own HNI.out.mU.drew HNI.out.ao;have HOW:=Lib.hid how;have HU2:=Lib.hid hu2;have HD2:=Lib.hid hd2;have HF2:=Lib.hid f2;have HE4:=Lib.hid he4;clear how hu2 hd2 f2 he4)
      |(refine zw w4 rfl _ _ 22 rfl W.heap.size 3 (.int .i64 0) 8 Tryz.underlying22 ka rfl aGl (.slice Aav (n+q) cav) (n+q) (iv (jS Z (n+q))) rfl HOW.out (.int .i64 vf) rfl _ rfl rfl aGl (rt HNI.out.fr.size HF2.out.size) ?_;intro av5 w5 hown5 hg5 hat5;have he5:=HE4.out.grown hg5 (fun e=>dZ HOW.out HE4.out aGo e.symm);have d3:=he5.cell 3;have f3:=he5.frozen 3;simp only[pp,rg,pm]at d3;obtain⟨A5,c5,rfl,_,_,_⟩:=eo hown5;have HO5:=Lib.hid hown5;have HG5:=Lib.hid hg5;have HA5:=Lib.hid hat5;clear he5 hown5 hg5 hat5))
     all_goals (
      go_wp2_with fail
      go_roundw
      case rel=>have hpu:=HO5.out;rw[HVF.out]at hpu;refine⟨q+1,.slice A5 (n+q+1) c5,D2,aGl,by go_num,Lib.hid ?_⟩;exact kF.act HNI.out HNW.out heD HEW.out HU2.out (fun b hb=>HD2.out b hb) ((ak.refl D' wr).drew.trans HF2.out) hpu HG5.out HA5.out
      case measure=>simp[intOf];omega)
    .obtain rfl:q=pc:=aGl
     go_wp2_with fail
     refine⟨⟨j+1,n+q,ms++[(X.heap.size,n,m)],mv',av,D',aGl,by go_num,Lib.hid ⟨hI.out,?_,?_,aGl,fun x hx=>?_⟩⟩,by simp[intOf];omega⟩
     .rw[aGf,HD.out,dE,aEW,<-HN.out,HPD.out];simp
     .rw[aO,HML.out];rfl
     .rcases At.1 hx with hx|hx
      .obtain⟨⟨a1,a2⟩,a3⟩:=HMS.out x hx;exact⟨⟨aGl,a2⟩,a3⟩
      .obtain rfl:=OF.1 hx;exact⟨⟨by rw[HPD.out];exact pi _,HDM.out⟩,HDA.out⟩
  .obtain rfl:j=nm:=aGl
   obtain⟨hNI,hn,hml,hn8,hms⟩:=hI.out;have hfull:p.N.d.aa.take j=p.N.d.aa:=By (by rw[<-HLM.out,<-HNM.out];exact pi _);rw[hfull]at hn;have HNI:=Lib.hid hNI;have HN:=Lib.hid hn;have HML:=Lib.hid hml;have HMS:=Lib.hid hms;clear hI hNI hn hml hms hfull
   go_wp2_with fail
   go_ret
   exact⟨eb,W,n,ms,mv,av,D',rfl,HNI.out,HN.out,by rw[HML.out,HNM.out,HLM.out],HMS.out,HNW.out,HBW.out,by rw[HEB.out];exact pi _,HEW.out⟩
