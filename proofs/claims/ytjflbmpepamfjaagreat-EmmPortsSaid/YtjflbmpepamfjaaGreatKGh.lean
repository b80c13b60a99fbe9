import Derived.Test.YtjflbmpepamfjaaGreatKGg
import Derived.Deep.RegionLawGrows
import Derived.Laws.MakeOwn
import Derived.Deep.DeepCutAuto
set_option linter.all false
section
namespace Go.Proofs.YtjflbmpepamfjaaGreat
open Go Go.RowKit Pl
theorem wpList_make_own{P:Program}(w:World){ops:Array Oper}{rest:List Oper}{o:Oper}{a:Act}{Q:Exit->Act->World->Prop}
  (hg:o.guard=none) (l c:Operand) (t:TypeId) (hop:o.op=Op.makeSlice t l c) (e:TypeId) (z:Value) (bytes:Nat) (ht:P.underlying t=some (.slice e))
  (hi:(P.info? e).map (fun i=>(i.zero,i.size,i.bytes))=some (some z,1,bytes))
  (kl kc:IntKind) (C:Int) (n:Nat) (hl:a.eval l=.int kl 0) (hc:a.eval c=.int kc C) (hC:C=(n:Int)) (b2:bytes*n<=281474976710656) (b3:n<=maxLen)
  (hK:∀v w1,v=.slice (some ⟨w.heap.size,0,none⟩) 0 n->w1.ownsRow w.heap.size e 1 v 0 []->Below w.heap.size w w1->wpList P ops Q rest (a.put o.dst v) w1) :
  wpList P ops Q (o::rest) a w:=by
 obtain⟨i0,hi0,hz0,hz1,hz2⟩:=info_parts hi;refine wpList_plain hg fun K hK'=>?_;obtain⟨w1,hr,ho,hgr⟩:=run_make_own (P:=P) w w.heap.size t e i0 z 1 ht hi0 hz0 hz1 kl kc n (by rw[hz2];exact b2) b3 (pi _);subst hC;unfold Oper.wp;simp[execOp,hop,hl,hc,hr,Result.andThen];exact hK' _ _ (hK _ _ rfl ho ((Below.refl _ w).grown hgr (pi _) fun k h=>by cases h))
variable{c:Nat}{A:lc}{n:Nat}
theorem Qn(hnc:n<=c)(w:World):Calls Tryz.prog 146 #[.slice A n c] w fun e w'=>e=.returned (.slice A n n)/\w=w':=by
 rcases A with _|ad
 .go_enter Tryz.func146,Tryz.ntmps146
  go_wp2_with fail
  go_ret
  exact⟨rfl,rfl⟩
 .go_enter Tryz.func146,Tryz.ntmps146
  go_wp2_with fail
  go_ret
  exact⟨rfl,rfl⟩
variable{w:World}{p:UP}{D:Nat->Prop}{L:io}{cap:Nat}{V:Nat}{k:Nat}{C:Nat}{B:Nat}
theorem aiw{v:Value}(h:US w p k V C D)(hC:C<999990)(ho:w.ownsRow B 3 1 v n (iv L))(hl:gV L)(hn:n<=900)(hv:v=.slice A n cap) :
  Calls Tryz.prog 111 #[.pointer (some ⟨p.g,0,none⟩),v] w fun e w'=>e=.returned (.tuple #[])/\cL w p k V C 0 1 D w':=by
 subst hv;have hln:L.length=n:=by have:=ho.1;rw[fX]at this;omega
 exact Uz h hC (Reads.j5 ho) (pi _) aGl fun i hi=>hl.at aGl
theorem PY(W:World)(l:io):∀j u,(iv l)[j]?=some u->(W.alloc (.cells (iv l).toArray 3)).cell? ((⟨W.heap.size,0,none⟩:Addr).add j)=some u:=fun j u hu=>by
 have hr:=(af.new W 3 (iv l).toArray).reads (xs:=iv l);have hl:0<(iv l).length:=by
  rcases If (iv l).length with h|h
  .rw[ut h]at hu;cases hu
  .exact h
 obtain⟨ad,e,_,hc⟩:=hr.2 hl;injection e with e;subst e;exact hc j u hu
def rK(w:World)(p:UP)(k V C m gh ch:Nat)(D:Nat->Prop)(L:io)(wr:World):Prop:=∃C' D',US wr p k V C' D'/\C<=C'/\C'<=C+m/\(∀b,D' b->D b\/w.heap.size<=b)/\ak D w wr/\wr.ownsRow w.heap.size 3 1 (.slice (some ⟨gh,0,none⟩) 3 ch) 3 (iv L)/\¬D' gh
variable{wr:World}{ch:Nat}{gh:Nat}{w5:World}{D':Nat->Prop}
theorem rK.next{C' m:Nat}(h2:C<=C')(h3:C'<=C+m)(h4:∀b,D' b->D b\/w.heap.size<=b)(h5:ak D w wr)(h6:wr.ownsRow w.heap.size 3 1 (.slice (some ⟨gh,0,none⟩) 3 ch) 3 (iv L))(h7:¬D' gh)(hm:cL wr.drew p k V C' 0 1 D' w5):rK w p k V C (m+1) gh ch D L w5:=by
 obtain⟨V1,C1,D1,a1,a2,a3,a4,a5,a6,a7⟩:=hm;obtain rfl:V1=V:=aGl
 have hg:=(h6.lt gh rfl).2;have hs:w.heap.size<=wr.drew.heap.size:=h5.size;exact⟨C1,D1,a1,aGl,aGl,fun b hb=>(a6 b hb).elim (h4 b) fun hx=>.inr (rt hs hx),h5.drew.after a7 h4,a7.own h6.drew (fun b hb=>by have hb:some gh=some b:=hb;injection hb with hb;rw[<-hb];exact h7),fun hx=>(a6 gh hx).elim h7 fun hy=>by have hy:wr.heap.size<=gh:=hy;omega⟩
theorem QQ(hU:US wr p k V C D)(hC:C<999990)(ho:wr.ownsRow B 3 1 (.slice (some ⟨gh,0,none⟩) 3 ch) 3 (iv L))(hL:gV L){x y:Int}(hx:-65536<=x/\x<=65536)(hy:-65536<=y/\y<=65536) :
  ∀v4 w4,w4.ownsRow (wr.alloc (.cells (iv [x,y]).toArray 3)).heap.size 3 1 v4 (3+2) (iv L++iv [x,y])->(wr.alloc (.cells (iv [x,y]).toArray 3)).grownBy w4 none->Calls Tryz.prog 111 #[.pointer (some ⟨p.g,0,none⟩),v4] w4 fun e w5=>e=.returned (.tuple #[])/\cL wr p k V C 0 1 D w5:=by
 intro v4 w4 h4 hg;have hb:Below wr.heap.size wr w4:=((Below.refl _ wr).alloc (pi _) _).grown hg aGn fun k h=>by cases h
 obtain⟨A4,c4,hv,_,_,_⟩:=eo h4;rw[<-oO]at h4;refine(aiw (hU.below hb) hC h4 (fun z hz=>?_) aGl hv).mono ?_
 .rcases At.1 hz with hz|hz
  .exact hL z hz
  .rcases AT.1 hz with rfl|hz
   .exact hx
   .obtain rfl:=OF.1 hz;exact hy
 .rintro e w5 ⟨rfl,h5⟩;exact⟨rfl,.pre hb h5⟩
set_option maxHeartbeats 4000000
set_option maxRecDepth 20000
variable{eb:Nat}
theorem ahg{c0 c1 c2:Nat}{A0 A1 A2:lc}{cl a b:io}(h:US w p k V C D)(n:Nat)(he:w.cell? ⟨eb,1,none⟩=some (.pointer (some ⟨p.g,0,none⟩)))(hn:n<=100)(hC:C+2*n<999000)
  (h0:cD w D A0 cl) (h1:cD w D A1 a) (h2:cD w D A2 b) (l0:cl.length=3) (l1:a.length=n) (l2:b.length=n) (b0:gV cl) (b1:gV a) (b2:gV b) :
  Calls Tryz.prog 110 #[.pointer (some ⟨eb,0,none⟩),.slice A0 3 c0,.slice A1 n c1,.slice A2 n c2] w fun e w'=>e=.returned (.tuple #[])/\cL w p k V C 0 (2*n) D w':=by
 have HH:=Lib.hid h;have H0:=Lib.hid h0;have H1:=Lib.hid h1;have H2:=Lib.hid h2;clear h h0 h1 h2
 go_enter Tryz.func110,Tryz.ntmps110
 go_wp2_with (at_make;refine wpList_make_own _ rfl _ _ 22 rfl 3 (.int .i64 0) 8 Tryz.underlying22 ka _ _ _ 5 rfl rfl rfl aGl aGo ?_;intro v w1 hv ho1 hb1;subst hv;have HO1:=Lib.hid ho1;have HB1:=Lib.hid hb1;clear ho1 hb1)
 go_loopw [9,24] (fun v i wr=>∃(j:Nat) (L:io),j<=3/\i=.int .i64 j/\Hid (Below w.heap.size w wr/\wr.ownsRow w.heap.size 3 1 v j (iv L)/\gV L)) (fun _ i _=>3-(intOf i).toNat)
 case atStart=>exact⟨0,[],AI _,rfl,Lib.hid ⟨HB1.out,HO1.out,fun x hx=>absurd hx aGn⟩⟩
 case round=>
  obtain⟨j,L,hj,rfl,hI⟩:=hrel;obtain⟨A3,c3,hv3,hc3,_,_⟩:=eo hI.out.2.1;subst hv3;by_cases hlt:j<3
  .obtain⟨b,off,rfl,_,_,hc⟩:=(H0.out.below hI.out.1) j aGl;have hx:=b0.at (i:=j) aGl;generalize cl.getD j 0=x at hc hx;have n1:=IntWalk.i64_in (-x) ⟨aGl,aGl⟩
   go_wp2_with (at_builtin;refine oM _ rfl _ _ 22 rfl w.heap.size 3 (.int .i64 0) 8 Tryz.underlying22 ka rfl aGl _ _ _ rfl hI.out.2.1 (.int .i64 (-x)) rfl _ rfl rfl aGl hI.out.1.size ?_;intro v3 w3 hown3 hg3 _;have HG3:=Lib.hid hg3;have HO3:=Lib.hid hown3;clear hg3 hown3)
   go_roundw
   case rel=>
    refine⟨j+1,L++[-x],aGl,by go_num,Lib.hid ⟨hI.out.1.grown HG3.out hI.out.1.size fun b hb=>(hI.out.2.1.lt b hb).1,by rw[oO];exact HO3.out,fun z hz=>?_⟩⟩;rcases At.1 hz with hz|hz
    .exact hI.out.2.2 z hz
    .obtain rfl:=OF.1 hz;omega
   case measure=>simp[intOf];omega
  .obtain rfl:j=3:=aGl
   obtain⟨gh,ch,hv4,hgh,_⟩:=hI.out.2.1.form aGl;injection hv4 with e1 _ e2;subst e1 e2;have hL3:L.length=3:=by have:=hI.out.2.1.1;rw[fX]at this;omega
   obtain⟨i0,hi0,hz0,hz1,hz2⟩:=info_parts ka;have HI0:=Lib.hid hi0;have HI1:=Lib.hid hz0;have HI2:=Lib.hid hz1;have HI3:=Lib.hid hz2;clear hi0 hz0 hz1 hz2;have hst:rK w p k V C 0 gh c3 D L wr:=⟨C,D,HH.out.below hI.out.1,pi _,pi _,fun b hb=>.inl hb,.cR hI.out.1,hI.out.2.1,fun hx=>by have:=HH.out.lt _ hx;omega⟩;have HST:=Lib.hid hst;have HL:=Lib.hid hI.out.2.2;clear hI hst
   go_wp2_with fail
   go_loopw [36] (fun i wr=>∃j:Nat,j<=n/\i=.int .i64 j/\Hid (rK w p k V C (2*j) gh c3 D L wr)) (fun i _=>n-(intOf i).toNat)
   case atStart=>exact⟨0,AI _,rfl,HST⟩
   case round=>
    obtain⟨j,hj,rfl,hI⟩:=hrel;by_cases hlt:j<n
    .obtain⟨C',D',i1,i2,i3,i4,i5,i6,i7⟩:=hI.out;obtain⟨q1,o1,rfl,hq1,hq1l,hc1⟩:=(H1.out.an i5 i4) j aGl;obtain⟨q2,o2,rfl,hq2,hq2l,hc2⟩:=(H2.out.an i5 i4) j aGl;have t1:=b1.at (i:=j) aGl;have t2:=b2.at (i:=j) aGl;obtain⟨x,hx⟩:∃x,a.getD j 0=x:=⟨_,rfl⟩;obtain⟨y,hy⟩:∃y,b.getD j 0=y:=⟨_,rfl⟩;rw[hx]at hc1 t1;rw[hy]at hc2 t2;have HXX:=Lib.hid hx;have HYY:=Lib.hid hy;have hc1':wr.drew.cell? ⟨q1,o1+j,none⟩=some (.int .i64 x):=hc1;have hc2':wr.drew.cell? ⟨q2,o2+j,none⟩=some (.int .i64 y):=hc2;have n1:=IntWalk.i64_in (-x) ⟨aGl,aGl⟩;have n2:=IntWalk.i64_in (-y) ⟨aGl,aGl⟩;have hpu:=QQ (x:=-x) (y:=y) i1.drew aGl (i6.drew) HL.out ⟨aGl,aGl⟩ t2;have hnx:=PY wr.drew [-x,y];have hol:∀b,some (⟨gh,0,none⟩:Addr)=some b->∀jj u,(iv L)[jj]?=some u->(wr.drew.alloc (.cells (iv [-x,y]).toArray 3)).cell? (b.add jj)=some u:=by intro b hb jj u hu;injection hb with hb;rw[<-hb];exact(i6.drew.alloc _).cells rfl jj u hu
     have HPU:=Lib.hid hpu;have HNX:=Lib.hid hnx;have HOL:=Lib.hid hol;have I2:=Lib.hid i2;have I3:=Lib.hid i3;have I4:=Lib.hid i4;have I5:=Lib.hid i5;have I6:=Lib.hid i6;have I7:=Lib.hid i7;clear hI i1 i2 i3 i4 i5 i6 i7 hpu hnx hol hc1 hc2 hx hy
     go_upto_region 10 with fail
     go_cut [] (fun wx=>Hid (rK w p k V C (2*j+1) gh c3 D L wx))
     case first=>
      go_region_law (first
       |(go_simp;go_at_call 146;refine(Qn aGl _).mono ?_;rintro e wC ⟨rfl,rfl⟩)
       |(refine step_append_grows rfl _ _ 22 rfl 3 i0 (.int .i64 0) 1 8 Tryz.underlying22 HI0.out HI1.out HI2.out HI3.out rfl aGo (some ⟨gh,0,none⟩) 3 3 (iv L) rfl (fun h=>by cases h) (by rw[fX];omega) HOL.out ⟨wr.drew.heap.size,0,none⟩ 2 2 (iv [-x,y]) rfl rfl HNX.out (FH _) aGl aGo aGo ?_;intro v4 w4 hown4 hg4;have hmu:=HPU.out v4 w4 hown4 hg4;have HMU:=Lib.hid hmu;clear hown4 hg4 hmu)
       |(go_simp;go_at_call 111;refine HMU.out.mono ?_;rintro e w5 ⟨rfl,hm5⟩;have HM5:=Lib.hid hm5;clear hm5))
      all_goals (go_wp2_with fail;go_meet;exact Lib.hid (rK.next I2.out I3.out I4.out I5.out I6.out I7.out HM5.out))
     case rest=>
     clear HPU HNX HOL I2 I3 I4 I5 I6 I7 hc1' hc2' hq1 hq2 hq1l hq2l;obtain⟨C',D',i1,i2,i3,i4,i5,i6,i7⟩:=hcut.out;obtain⟨q1',o1',he1,_,_,hc1⟩:=(H1.out.an i5 i4) j aGl;obtain⟨q2',o2',he2,_,_,hc2⟩:=(H2.out.an i5 i4) j aGl;injection he1 with he1;injection he1 with he1 he1';injection he2 with he2;injection he2 with he2 he2';subst he1 he1' he2 he2';have hc1':wc.drew.cell? ⟨q1,o1+j,none⟩=some (.int .i64 x):=hc1.trans (by rw[HXX.out]);have hc2':wc.drew.cell? ⟨q2,o2+j,none⟩=some (.int .i64 y):=hc2.trans (by rw[HYY.out]);have hpu:=QQ (x:=x) (y:=-y) i1.drew aGl (i6.drew) HL.out t1 ⟨aGl,aGl⟩;have hnx:=PY wc.drew [x,-y];have hol:∀b,some (⟨gh,0,none⟩:Addr)=some b->∀jj u,(iv L)[jj]?=some u->(wc.drew.alloc (.cells (iv [x,-y]).toArray 3)).cell? (b.add jj)=some u:=by intro b hb jj u hu;injection hb with hb;rw[<-hb];exact(i6.drew.alloc _).cells rfl jj u hu
     have HPU:=Lib.hid hpu;have HNX:=Lib.hid hnx;have HOL:=Lib.hid hol;have I2:=Lib.hid i2;have I3:=Lib.hid i3;have I4:=Lib.hid i4;have I5:=Lib.hid i5;have I6:=Lib.hid i6;have I7:=Lib.hid i7;clear hcut i1 i2 i3 i4 i5 i6 i7 hpu hnx hol hc1 hc2
     go_wp2_with fail
     go_region_law (first
      |(go_simp;go_at_call 146;refine(Qn aGl _).mono ?_;rintro e wC ⟨rfl,rfl⟩)
      |(refine step_append_grows rfl _ _ 22 rfl 3 i0 (.int .i64 0) 1 8 Tryz.underlying22 HI0.out HI1.out HI2.out HI3.out rfl aGo (some ⟨gh,0,none⟩) 3 3 (iv L) rfl (fun h=>by cases h) (by rw[fX];omega) HOL.out ⟨wc.drew.heap.size,0,none⟩ 2 2 (iv [x,-y]) rfl rfl HNX.out (FH _) aGl aGo aGo ?_;intro v4 w4 hown4 hg4;have hmu:=HPU.out v4 w4 hown4 hg4;have HMU:=Lib.hid hmu;clear hown4 hg4 hmu)
      |(go_simp;go_at_call 111;refine HMU.out.mono ?_;rintro e w5 ⟨rfl,hm5⟩;have HM5:=Lib.hid hm5;clear hm5))
     all_goals (
      go_wp2_with fail
      go_roundw
      case rel=>exact⟨j+1,aGl,by go_num,Lib.hid (rK.next I2.out I3.out I4.out I5.out I6.out I7.out HM5.out)⟩
      case measure=>simp[intOf];omega)
    .obtain rfl:j=n:=aGl
     go_wp2_with fail
     obtain⟨C',D',i1,i2,i3,i4,i5,i6,i7⟩:=hI.out;exact⟨rfl,.tuple #[],results_none rfl _ _ _,rfl,V,C',D',i1,pi _,pi _,i2,i3,i4,i5⟩
structure dB where
 act:Int
 Aa:lc
 ca:Nat
 addr:io
 Ad:lc
 cd:Nat
 data:io
 mG:Int
def dB.cells(s:dB)(na nd:Nat):kw:=[.int .i64 s.act,.slice s.Aa na s.ca,.slice s.Ad nd s.cd,.int .i64 s.mG]
structure dB.Ok(w:World)(D:Nat->Prop)(na nd:Nat)(s:dB):Prop where
 addr:cD w D s.Aa s.addr
 data:cD w D s.Ad s.data
 la:s.addr.length=na
 ld:s.data.length=nd
 ba:gV s.addr
 bd:gV s.data
 bc:-65536<=s.act/\s.act<=65536
 bn:-65536<=s.mG/\s.mG<=65536
variable{nd:Nat}{na:Nat}{w':World}{s:dB}
theorem dB.Ok.an(h:s.Ok w D na nd)(hf:ak D w w')(hd:∀b,D' b->D b\/w.heap.size<=b):s.Ok w' D' na nd:=⟨h.addr.an hf hd,h.data.an hf hd,h.la,h.ld,h.ba,h.bd,h.bc,h.bn⟩
theorem dB.Ok.below(h:s.Ok w D na nd)(hb:Below w.heap.size w w'):s.Ok w' D na nd:=h.an (.cR hb) fun b h=>.inl h
abbrev jo(p:UP)(mv av:Value)(done:Int):Array Value:=#[.pointer (some ⟨p.u,0,none⟩),.pointer (some ⟨p.g,0,none⟩),mv,av,.bool false,.int .i64 done]
theorem aia(l:io)(h:US w p k V C D)(hC:C<999990)(hl:gV l)(hn:l.length<=900) :
  Calls Tryz.prog 111 #[.pointer (some ⟨p.g,0,none⟩),.slice (some ⟨w.heap.size,0,none⟩) l.length l.length] (w.alloc (.cells (iv l).toArray 3)) fun e w'=>e=.returned (.tuple #[])/\cL w p k V C 0 1 D w':=by
 have hb:Below w.heap.size w (w.alloc (.cells (iv l).toArray 3)):=(Below.refl _ w).alloc (pi _) _;have hR:Reads (w.alloc (.cells (iv l).toArray 3)) (w.heap.size+1) 1 (some ⟨w.heap.size,0,none⟩) l.length (iv l):=by have:=(af.new w 3 (iv l).toArray).reads (xs:=iv l);simpa[fX]using this
 refine(Uz (cap:=l.length) (h.below hb) hC hR aGn aGl fun i hi=>hl.at hi).mono ?_;rintro e w' ⟨rfl,h1⟩;exact⟨rfl,.pre hb h1⟩
variable{a5:Value}{done:Int}{a3:Value}{hv:Value}{mv:Value}{a1:Value}{av:Value}{a4:Value}{mb:Nat}{a0:Value}
theorem aeY{a6:Value}(h:US w p k V C D)(he:af w eb 65 (jo p mv av done))(heD:¬D eb)(hm:af w mb 83 #[a0,a1,.bool false,a3,a4,a5,a6])(s:dB)(hs:s.Ok w D na nd)(hs1:s.mG=1)(hnd:nd<=100)(hC:C+nd<999000) :
  Calls Tryz.prog 83 #[.pointer (some ⟨eb,0,none⟩),.pointer (some ⟨mb,0,none⟩),.agg (s.cells na nd).toArray,hv] w fun e w'=>e=.returned (.tuple #[])/\cL w p k V C 0 nd D w':=by
 obtain⟨act,Aa,ca,addr,Ad,cd,data,mG⟩:=s;obtain rfl:mG=1:=hs1;simp only[dB.cells];obtain⟨W,hW⟩:∃W,W=w.alloc (.cells #[.int .i64 act,.slice Aa na ca,.slice Ad nd cd,.int .i64 1] 153):=⟨_,rfl⟩;have hbW:Below w.heap.size w W:=by rw[hW];exact(Below.refl _ w).alloc (pi _) _
 obtain⟨sb,hsb⟩:∃sb,sb=w.heap.size:=⟨_,rfl⟩;have hx:af W sb 153 #[.int .i64 act,.slice Aa na ca,.slice Ad nd cd,.int .i64 1]:=by rw[hW,hsb];exact af.new w _ _
 have hU:=h.below hbW;have heW:=he.below hbW he.lt;have hmW:=hm.below hbW hm.lt;have hsW:=hs.below hbW;have hsD:¬D sb:=fun hx=>absurd (h.lt _ hx) aGl;have x0:=hx.cell 0;have x2:=hx.cell 2;have x3:=hx.cell 3;have e1:=heW.cell 1;have e4:=heW.cell 4;have m2:=hmW.cell 2;simp only[pp,rg,pm]at x0 x2 x3 e1 e4 m2;have ht:Hid (∀q,Calls Tryz.prog 76 #[.pointer (some ⟨p.g,0,none⟩)] (W.drewN q) fun e w'=>e=.returned (.int .i64 1)/\W.drewN q=w'):=Lib.hid fun q=>vQ (hU.below (below_drewN (Below.refl _ _) q));have HW:=Lib.hid hW;have HSB:=Lib.hid hsb;have HBW:=Lib.hid hbW;have HX:=Lib.hid hx;have HU:=Lib.hid hU;have HE:=Lib.hid heW;have HM:=Lib.hid hmW;have HS:=Lib.hid hsW;clear hW hbW hx hU heW hmW hsW h he hm hs hsb
 go_enter Tryz.func83,Tryz.ntmps83
 go_wp2_with fail
 rw[<-HW.out,<-HSB.out];clear HW
 go_quiet ((go_at_call 76;exact kO (ht.out _)))
 go_wp2_with (at_make;refine Zw0 _ rfl _ _ 22 rfl 3 (.int .i64 0) 8 Tryz.underlying22 ka rfl _ _ _ _ nd rfl rfl rfl rfl aGl aGl ?_;intro w1 hbk hbl hz;have HBK:=Lib.hid hbk;have HBL:=Lib.hid hbl;have HZ:=Lib.hid hz;clear hbk hbl hz)
 obtain⟨zb,hzb⟩:∃zb,zb=W.heap.size:=⟨_,rfl⟩;rw[show(W.drewN nq).heap.size=W.heap.size from rfl,<-hzb]at HBK;rw[<-hzb];have hzW:zb=W.heap.size:=hzb;have hbz:Below W.heap.size W w1:=(below_drewN (Below.refl _ W) nq).trans HBL.out;have HZW:=Lib.hid hzW;have HBZ:=Lib.hid hbz;clear hzb hzW hbz ht x0 x2 x3 e1 e4 m2
 go_loopw [45] (fun i wr=>∃(j:Nat),j<=nd/\i=.int .i64 j/\Hid (Below W.heap.size W wr/\∃Z:io,Z.length=nd/\af wr zb 3 (iv Z).toArray)) (fun i _=>nd-(intOf i).toNat)
 case atStart=>exact⟨0,AI _,rfl,Lib.hid ⟨HBZ.out,List.replicate nd 0,aGn,by rw[iv,List.map_replicate];exact HBK.out⟩⟩
 case round=>
  obtain⟨j,hj,rfl,hI⟩:=hrel;by_cases hlt:j<nd
  .obtain⟨hb,Z,hZl,hZ⟩:=hI.out;have e1:=(HE.out.below hb HE.out.lt).cell 1;have zc:=hZ.cell j;have zf:=hZ.frozen j;rw[pp,rF Z j aGl]at zc;simp only[pp,rg,pm]at e1;have ht:=vQ (HU.out.below hb);have HB:=Lib.hid hb;have HZZ:=Lib.hid hZ;have HZL:=Lib.hid hZl;clear hI hb hZ hZl
   go_wp2_with fail
   refine ht.mono ?_;rintro e w' ⟨rfl,rfl⟩
   go_wp2_with fail
   go_roundw
   case rel=>refine⟨j+1,aGl,by go_num,Lib.hid ⟨HB.out.setCell (by rw[HZW.out];exact pi _) _,Z.set j (-1),by rw[aFB];exact HZL.out,?_⟩⟩;have:=HZZ.out.dL j (.int .i64 (-1));rw[ahu];simpa using this
   case measure=>simp[intOf];omega
  .obtain rfl:j=nd:=aGl
   obtain⟨hb,Z,hZl,hZ⟩:=hI.out;have hxr:=HX.out.below hb HX.out.lt;have x2:=hxr.cell 2;simp only[pp,rg,pm]at x2;have HUR:=Lib.hid (HU.out.below hb);have HXR:=Lib.hid hxr;have HER:=Lib.hid (HE.out.below hb HE.out.lt);have HSR:=Lib.hid (HS.out.below hb);have HB:=Lib.hid hb;have HZZ:=Lib.hid hZ;have HZL:=Lib.hid hZl;have hzD:¬D zb:=fun hx=>absurd (HU.out.lt _ hx) (by have:=HZW.out;omega);clear hI hb hZ hZl hxr HBK HBL HZ HBZ
   go_wp2_with fail
   obtain⟨j0,hj0⟩:∃j0,j0=j:=⟨_,rfl⟩;subst hj0;obtain⟨w2,hw2⟩:∃w2,w2=wr:=⟨_,rfl⟩;rw[<-hw2]at HUR HXR HER HSR HB HZZ |-;clear hw2
   go_loopw [61] (fun i wr=>∃(j:Nat),j<=j0/\i=.int .i64 j/\Hid (cL w2 p k V C 0 j D wr)) (fun i _=>j0-(intOf i).toNat)
   case atStart=>exact⟨0,AI _,rfl,Lib.hid (.same HUR.out (Below.refl _ _))⟩
   case round=>
    obtain⟨j,hj,rfl,hI⟩:=hrel;by_cases hlt:j<j0
    .obtain⟨V',C',D',hU,v1,v2,v3,v4,v5,v6⟩:=hI.out;have hS:=HSR.out.an v6 v5;have hld:=hS.ld
     replace hld:data.length=j0:=hld
     obtain⟨q1,o1,hA,_,_,hc1⟩:=hS.data j (by show j<data.length;omega);obtain rfl:Ad=_:=hA;have t1:=hS.bd.at (i:=j) (by show j<data.length;omega);have t2:=hS.bc
     replace hc1:wr.cell? ⟨q1,o1+j,none⟩=some (.int .i64 (data.getD j 0)):=hc1
     replace t1:-65536<=data.getD j 0/\data.getD j 0<=65536:=t1
     replace t2:-65536<=act/\act<=65536:=t2
     generalize data.getD j 0=x at hc1 t1;have zc:=(v6.cC HZZ.out hzD).cell j;rw[pp,rF Z j (by have:=HZL.out;omega)]at zc;generalize Z.getD j 0=z at zc;have hx6:=v6.cC HXR.out hsD;have he6:=v6.cC HER.out heD;have x0:=hx6.drew.cell 0;have x3:=hx6.drew.cell 3;have e1:=he6.drew.cell 1;simp only[pp,rg,pm]at x0 x3 e1;have n1:=IntWalk.i64_in (-act) ⟨aGl,aGl⟩;have n2:=IntWalk.i64_in (-x) ⟨aGl,aGl⟩;have n3:IntKind.i64.wrap (-1) = -1:=aGo
     have e2:=(he6.alloc (.cells #[.int .i64 (-1),.int .i64 (-act),.int .i64 (-x)] 3)).drew.cell 1;simp only[pp,rg,pm]at e2;have hmu:=aia [-1,-act,-x] hU.drew aGl (by intro y hy;simp only[AT,List.not_mem_nil,or_false]at hy;rcases hy with rfl|rfl|rfl<;>omega) aGn;have B1:=Lib.hid v1;have B2:=Lib.hid v2;have B3:=Lib.hid v3;have B4:=Lib.hid v4;have B5:=Lib.hid v5;have B6:=Lib.hid v6;have HMU:=Lib.hid hmu;have HU6:=Lib.hid hU;clear hI hU v1 v2 v3 v4 v5 v6 hmu hS hx6 he6;by_cases hne:x=z
     .have hne':(x != z)=false:=by simp[hne]
      clear hne HMU x0 x3 e1 e2
      go_wp2_with fail
      go_roundw
      case rel=>exact⟨j+1,aGl,by go_num,Lib.hid (.comp B1.out B2.out B3.out B4.out B5.out B6.out (.same (dV:=0) (dC:=1) HU6.out (Below.refl _ _)))⟩
      case measure=>simp[intOf];omega
     .have hne':(x != z)=true:=by simp[hne]
      clear hne
      go_wp2_with fail
      go_region_law (first
       |(go_simp;go_at_call 111;refine HMU.out.mono ?_;rintro e w5 ⟨rfl,hm5⟩;have HM5:=Lib.hid hm5;clear hm5))
      all_goals (
       go_wp2_with fail
       go_roundw
       case rel=>exact⟨j+1,aGl,by go_num,Lib.hid (.comp B1.out B2.out B3.out B4.out B5.out B6.out (.pre (Below.refl _ wr).drew HM5.out))⟩
       case measure=>simp[intOf];omega)
    .obtain rfl:j=j0:=aGl
     go_wp2_with fail
     exact⟨rfl,.tuple #[],results_none rfl _ _ _,rfl,.pre HBW.out (.pre HB.out hI.out)⟩
theorem PI{α:Type}{f:α->kw}{z:Nat}(hz:∀x,(f x).length=z):∀(xs:List α) (i k:Nat) (x:α) (u:Value),xs[i]?=some x->(f x)[k]?=some u->(xs.flatMap f)[i*z+k]?=some u
 |[],i,k,x,u,h,_=>by simp at h|y::ys,0,k,x,u,h,hk=>by
  simp at h;subst h;rw[Fn,Nat.zero_mul,aFm,Fr]
  .exact hk
  .rcases ww k (f y).length with h|h
   .exact h
   .rw[BT h]at hk;cases hk
 |y::ys,i+1,k,x,u,h,hk=>by rw[Fn,IO (by rw[hz,Nat.succ_mul];omega),hz];have:=PI hz ys i k x u (by simpa using h) hk;rw[<-this];congr 1;rw[Nat.succ_mul];omega
theorem ag4(w:World):Calls Tryz.prog 112 #[.slice none 0 0] w fun e w'=>e=.returned (.slice none 0 0)/\w=w':=by
 go_enter Tryz.func112,Tryz.ntmps112
 go_wp2_with fail
 go_ret
 exact⟨rfl,rfl⟩
theorem PJ:(Tryz.prog.info? 150).map (fun i=>(i.zero,i.size,i.bytes))=some (some (.slice none 0 0),1,24):=aGm
structure kC(w:World)(D:Nat->Prop)(na nd:Nat)(B:Nat)(hv:Value)(xs:List dB):Prop where
 row:w.ownsRow B 153 4 hv xs.length (xs.flatMap (dB.cells · na nd))
 out:∀b,hv.ownBlock=some b->¬D b
 ok:∀x∈xs,x.Ok w (fun b=>D b\/hv.ownBlock=some b) na nd
variable{xs:List dB}
theorem kC.an(h:kC w D na nd B hv xs)(hf:ak D w w')(hd:∀b,D' b->D b\/w.heap.size<=b):kC w' D' na nd B hv xs:=⟨hf.own h.row h.out,fun b hb hx=>(hd b hx).elim (h.out b hb) fun hy=>by have:=(h.row.lt b hb).2;omega,fun x hx=>(h.ok x hx).an (hf.mono fun b h=>.inl h) fun b hb=>hb.elim (fun hb=>(hd b hb).imp .inl id) fun hb=>.inl (.inr hb)⟩
theorem kC.below(h:kC w D na nd B hv xs)(hb:Below w.heap.size w w'):kC w' D na nd B hv xs:=h.an (.cR hb) fun b h=>.inl h
theorem kC.at{w:World}{D:Nat->Prop}{na nd B n c:Nat}{A:lc}{xs:List dB}(h:kC w D na nd B (.slice A n c) xs){j:Nat}(hj:j<xs.length):∃b x,A=some ⟨b,0,none⟩/\n=xs.length/\xs[j]?=some x/\x.Ok w D na nd/\∀k u,(x.cells na nd)[k]?=some u->w.cell? ⟨b,j*4+k,none⟩=some u:=by
 obtain⟨b,c',hv,_,hl⟩:=h.row.form aGl;injection hv with hv1 hv2 hv3;subst hv1 hv2 hv3;have bw:=h.ok _ (EQ hj);refine⟨b,xs[j],rfl,rfl,bF hj,⟨bw.addr.sub (fun b h=>.inl h),bw.data.sub (fun b h=>.inl h),bw.la,bw.ld,bw.ba,bw.bd,bw.bc,bw.bn⟩,fun k u hu=>?_⟩;have hk:k<4:=by
  rcases ww k 4 with h|h
  .exact h
  .rw[BT (by simpa[dB.cells]using h)]at hu;cases hu
 rw[h.row.cellAt (j*4+k) aGl];exact PI (f:=(dB.cells · na nd)) (z:=4) (fun x=>rfl) xs j k _ u (bF hj) hu
variable{t:TypeId}
theorem kV{g:Nat}{cs:Array Value}(hf:ak D w w')(hd:∀b,D' b->D b\/w.heap.size<=b)(hb:af w g t cs)(hn:¬D g):af w' g t cs/\¬D' g:=⟨hf.cC hb hn,fun hx=>(hd g hx).elim hn fun hy=>absurd hb.lt aGl⟩
variable{b:Nat}
theorem ahd{w4:World}{V4 C4 V5 C5 a d:Nat}{D4 D5:Nat->Prop}(a1:V<=V4)(a2:V4<=V+a)(a3:C<=C4)(a4:C4<=C+b)(a5:∀b,D4 b->D b\/w.heap.size<=b)(a6:ak D w w4)(b1:V4<=V5)(b2:V5<=V4+c)(b3:C4<=C5)(b4:C5<=C4+d)(b5:∀b,D5 b->D4 b\/w4.heap.size<=b)(b6:ak D4 w4 w5) :
  V<=V5/\V5<=V+(a+c)/\C<=C5/\C5<=C+(b+d)/\(∀b,D5 b->D b\/w.heap.size<=b)/\ak D w w5:=
 ⟨aGl,aGl,aGl,aGl,fun x hx=>(b5 x hx).elim (a5 x) fun hy=>.inr (rt a6.size hy),a6.after b6 a5⟩
theorem rM(h:af w eb 65 (jo p mv av done)):w.cell? ⟨eb,1,none⟩=some (.pointer (some ⟨p.g,0,none⟩)):=by have:=h.cell 1;simpa using this
variable{x1:Value}{x0:Value}{x2:Value}{x3:Value}
theorem kG(h:af w b t #[x0,x1,x2,x3]):w.cell? ⟨b,0,none⟩=some x0/\w.cell? ⟨b,1,none⟩=some x1/\w.cell? ⟨b,2,none⟩=some x2/\w.cell? ⟨b,3,none⟩=some x3:=⟨by have:=h.cell 0;simpa using this,by have:=h.cell 1;simpa using this,by have:=h.cell 2;simpa using this,by have:=h.cell 3;simpa using this⟩
set_option maxHeartbeats 8000000
theorem aeX(h:US w p k V C D)(he:af w eb 65 (jo p mv av done))(heD:¬D eb)(hm:af w mb 83 #[a0,a1,.bool true,a3,a4,a5,.slice none 0 0])(s:dB)(hs:s.Ok w D na nd)(hs1:s.mG=1)
  (xs:List dB) (hh:kC w D na nd B hv xs) (hxs:xs.length<=4) (hna:1<=na/\na<=62) (hnd:nd<=64) (hV:V+300<65536) (hC:C+2000<998000) :
  Calls Tryz.prog 83 #[.pointer (some ⟨eb,0,none⟩),.pointer (some ⟨mb,0,none⟩),.agg (s.cells na nd).toArray,hv] w fun e w'=>e=.returned (.tuple #[])/\cL w p k V C (xs.length*65) (xs.length*450) D w':=by
 obtain⟨act,Aa,ca,addr,Ad,cd,data,mG⟩:=s;obtain rfl:mG=1:=hs1;simp only[dB.cells];obtain⟨Ah,ch,rfl,_,_,_⟩:=eo hh.row;obtain⟨nh,hnh⟩:∃nh,nh=xs.length:=⟨_,rfl⟩;obtain⟨W,hW⟩:∃W,W=w.alloc (.cells #[.int .i64 act,.slice Aa na ca,.slice Ad nd cd,.int .i64 1] 153):=⟨_,rfl⟩;have hbW:Below w.heap.size w W:=by rw[hW];exact(Below.refl _ w).alloc (pi _) _
 obtain⟨sb,hsb⟩:∃sb,sb=w.heap.size:=⟨_,rfl⟩;have hx:af W sb 153 #[.int .i64 act,.slice Aa na ca,.slice Ad nd cd,.int .i64 1]:=by rw[hW,hsb];exact af.new w _ _
 have hU:=h.below hbW;have heW:=he.below hbW he.lt;have hmW:=hm.below hbW hm.lt;have hsW:=hs.below hbW;have hhW:=hh.below hbW;have hsD:¬D sb:=fun hx=>absurd (h.lt _ hx) aGl;have x3:=hx.cell 3;have e1:=heW.cell 1;have m2:=hmW.cell 2;have m6:=hmW.cell 6;have m6':∀q,(W.drewN q).cell? ⟨mb,6,none⟩=some (.slice none 0 0):=fun q=>by have:=(hmW.drewN q).cell 6;simpa using this
 simp only[pp,rg,pm]at x3 e1 m2 m6;have ht:Hid (∀q,Calls Tryz.prog 76 #[.pointer (some ⟨p.g,0,none⟩)] (W.drewN q) fun e w'=>e=.returned (.int .i64 1)/\W.drewN q=w'):=Lib.hid fun q=>vQ (hU.below (below_drewN (Below.refl _ _) q));have HW:=Lib.hid hW;have HSB:=Lib.hid hsb;have HBW:=Lib.hid hbW;have HX:=Lib.hid hx;have HU:=Lib.hid hU;have HE:=Lib.hid heW;have HM:=Lib.hid hmW;have HS:=Lib.hid hsW;have HH:=Lib.hid hhW;have HNH:=Lib.hid hnh;rw[<-hnh];have hnh4:nh<=4:=aGl
 clear hW hbW hx hU heW hmW hsW hhW h he hm hs hsb hh hnh hxs
 go_enter Tryz.func83,Tryz.ntmps83
 go_wp2_with fail
 rw[<-HW.out,<-HSB.out];clear HW
 go_quiet ((go_at_call 76;exact kO (ht.out _)))
 go_wp2_with fail
 obtain⟨W1,hW1⟩:∃W1,W1=W.drewN nq:=⟨_,rfl⟩;rw[<-hW1];have hb1:Below W.heap.size W W1:=by rw[hW1];exact below_drewN (Below.refl _ W) nq
 have HB1:=Lib.hid hb1;clear hW1 hb1 ht m6' x3 e1 m2 m6;refine(ag4 W1).mono ?_;rintro e w' ⟨rfl,rfl⟩;have hs1:W.heap.size<=W1.heap.size:=HB1.out.size
 go_wp2_with (at_builtin;refine oM _ rfl _ _ 81 rfl W1.heap.size 150 (.slice none 0 0) 24 Tryz.underlying81 PJ rfl aGl (.slice none 0 0) 0 [] rfl (World.ownsRow_nil _ _ _ _) (.slice Ah nh ch) rfl _ rfl rfl aGl (pi _) ?_;intro v3 w3 hown3 hg3 _;obtain⟨rb,rc,hv3,hrb,hrl⟩:=hown3.form aGl;subst hv3;have HG3:=Lib.hid hg3;have HO3:=Lib.hid hown3;clear hg3 hown3)
 have hb3:Below W.heap.size W w3:=HB1.out.grown HG3.out hs1 fun k h=>by cases h
 have hr0:=HO3.out.cellAt 0 aGl;rw[Nm,pm]at hr0;have hrD:¬D rb:=fun hx=>absurd (HU.out.lt _ hx) aGl;have hsl:=HX.out.lt;have HUR:=Lib.hid (HU.out.below hb3);have HXR:=Lib.hid (HX.out.below hb3 hsl);have HER:=Lib.hid (HE.out.below hb3 HE.out.lt);have HSR:=Lib.hid (HS.out.below hb3);have HHR:=Lib.hid (HH.out.below hb3);have HB3:=Lib.hid hb3;have HR0:=Lib.hid hr0;clear hb3 hr0 HG3 HO3
 go_loopw [96] (fun i wr=>∃(j:Nat),j<=1/\i=.int .i64 j/\Hid (cL w3 p k V C (j*(nh*65)) (j*(nh*450)) D wr)) (fun i _=>1-(intOf i).toNat)
 case atStart=>exact⟨0,AI _,rfl,Lib.hid (.same HUR.out (Below.refl _ _))⟩
 case round=>
  obtain⟨j,hj,rfl,hI⟩:=hrel;by_cases hlt:j<1
  .obtain rfl:j=0:=aGl
   obtain⟨V',C',D',hU,v1,v2,v3,v4,v5,v6⟩:=hI.out;have hc0:=(v6.cell (p:=⟨rb,0,none⟩) hrl hrD).trans HR0.out;have hI0:cL w3 p k V C (0*65) (0*450) D wr:=hI.out.wide aGl aGl;have HI0:=Lib.hid hI0;clear hI hI0 hU v1 v2 v3 v4 v5 v6
   go_wp2_with fail
   go_loopw [102] (fun i wr=>∃(q:Nat),q<=nh/\i=.int .i64 q/\Hid (cL w3 p k V C (q*65) (q*450) D wr)) (fun i _=>nh-(intOf i).toNat)
   case atStart=>exact⟨0,AI _,rfl,HI0⟩
   case round=>
    obtain⟨q,hq,rfl,hI⟩:=hrel;by_cases hlq:q<nh
    .obtain⟨V',C',D',hU,v1,v2,v3,v4,v5,v6⟩:=hI.out;have hHr:=HHR.out.an v6 v5;obtain⟨hb',x,hA,hn',hxq,hxo,hcx⟩:=hHr.at (j:=q) (by rw[<-HNH.out];exact hlq);obtain rfl:=hA;obtain⟨xact,xAa,xca,xaddr,xAd,xcd,xdata,xnon⟩:=x;have y0:wr.cell? ⟨hb',q*4,none⟩=some (.int .i64 xact):=hcx 0 _ rfl;have y1:wr.cell? ⟨hb',q*4+1,none⟩=some (.slice xAa na xca):=hcx 1 _ rfl;have y2:wr.cell? ⟨hb',q*4+2,none⟩=some (.slice xAd nd xcd):=hcx 2 _ rfl;have y3:wr.cell? ⟨hb',q*4+3,none⟩=some (.int .i64 xnon):=hcx 3 _ rfl;obtain⟨X,hX⟩:∃X,X=wr.alloc (.cells #[.int .i64 xact,.slice xAa na xca,.slice xAd nd xcd,.int .i64 xnon] 153):=⟨_,rfl⟩;obtain⟨xb,hxb⟩:∃xb,xb=wr.heap.size:=⟨_,rfl⟩;have hbX:Below wr.heap.size wr X:=by rw[hX];exact(Below.refl _ wr).alloc (pi _) _
     have hxX:af X xb 153 #[.int .i64 xact,.slice xAa na xca,.slice xAd nd xcd,.int .i64 xnon]:=by rw[hX,hxb];exact af.new wr _ _
     have hUX:=hU.below hbX;have heD':¬D' eb:=fun hx=>(v5 _ hx).elim heD fun hy=>absurd HER.out.lt aGl;have hsD':¬D' sb:=fun hx=>(v5 _ hx).elim hsD fun hy=>absurd HXR.out.lt aGl;have hxD':¬D' xb:=fun hx=>absurd (hU.lt _ hx) aGl;have he6:=v6.cC HER.out heD;have hs6:=v6.cC HXR.out hsD;have heX:=he6.below hbX he6.lt;have hsX:=hs6.below hbX hs6.lt;have hSo:=(HSR.out.an v6 v5).below hbX;have hxo':=hxo.below hbX;have HX2:=Lib.hid hX;have HXB:=Lib.hid hxb;have HBX:=Lib.hid hbX;have HXX:=Lib.hid hxX;have HUX:=Lib.hid hUX;have HEX:=Lib.hid heX;have HSX:=Lib.hid hsX;have HSO:=Lib.hid hSo;have HXO:=Lib.hid hxo';have B1:=Lib.hid v1;have B2:=Lib.hid v2;have B3:=Lib.hid v3;have B4:=Lib.hid v4;have B5:=Lib.hid v5;have B6:=Lib.hid v6;clear hI hU v1 v2 v3 v4 v5 v6 hHr hxo hcx hX hxb hbX hxX hUX he6 hs6 heX hsX hSo hxo' hxq hn'
     go_wp2_with fail
     rw[<-HX2.out,<-HXB.out];clear HX2 y0 y1 y2 y3
     go_cut [16] (fun t wx=>(∃r:Int,t=.int .i64 r/\-65536<=r/\r<=65536)/\Hid (cL X p k V' C' 65 322 D' wx))
     case first=>
      have hb0:Below X.heap.size X X.drew:=(Below.refl _ X).drew;have s0:=rM HEX.out.drew;obtain⟨_,s1,_,s2⟩:=kG HSX.out.drew;obtain⟨_,s3,_,s4⟩:=kG HXX.out.drew;have hxn:-65536<=xnon/\xnon<=65536:=HXO.out.bn;have hb2':=B2.out;have hb4':=B4.out;have HA1:=Lib.hid (adr (a:=1) (b:=xnon) HUX.out.drew aGl aGl aGl hxn);clear hb0 hxn
      go_region_held3 (fun w'=>w'.cell? ⟨eb,1,none⟩=some (.pointer (some ⟨p.g,0,none⟩))/\w'.cell? ⟨sb,1,none⟩=some (.slice Aa na ca)/\w'.cell? ⟨sb,3,none⟩=some (.int .i64 1)/\w'.cell? ⟨xb,1,none⟩=some (.slice xAa na xca)/\w'.cell? ⟨xb,3,none⟩=some (.int .i64 xnon)) (first|assumption|(refine⟨?_,?_,?_,?_,?_⟩<;>assumption)) (first
       |(go_at_call 109;refine HEQ.out.mono ?_;clear HEQ;rintro e w5 ⟨⟨r2,rfl,hr2⟩,V5,C5,D5,g5,b1,b2,b3,b4,b5,b6⟩;obtain⟨k1,k1'⟩:=kV b6 b5 K1.out.1 K1.out.2;obtain⟨k2,k2'⟩:=kV b6 b5 K2.out.1 K2.out.2;obtain⟨k3,k3'⟩:=kV b6 b5 K3.out.1 K3.out.2;have u0:=rM k1;obtain⟨_,u1,_,u2⟩:=kG k2;obtain⟨_,u3,_,u4⟩:=kG k3;have hm5:=M4.out V5 C5 D5 w5 b1 b2 b3 b4 b5 b6;have HA2:=Lib.hid (adr (a:=r1) (b:=r2) g5 aGl aGl hr1 hr2);have hM5:∀w6,cL w5 p k V5 C5 1 3 D5 w6->cL X.drew p k V' C' (1+(na+1)+1) (3+(5*na+1)+3) D' w6:=fun w6 hh=>.comp hm5.1 hm5.2.1 hm5.2.2.1 hm5.2.2.2.1 hm5.2.2.2.2.1 hm5.2.2.2.2.2 hh;have M5:=Lib.hid hM5;have K4:=Lib.hid (And.intro k1 k1');have K5:=Lib.hid (And.intro k2 k2');have K6:=Lib.hid (And.intro k3 k3');clear hM5 hm5 k1 k2 k3 k1' k2' k3' b5 b6 K1 K2 K3 M4)
       |(go_at_call 42;refine HA2.out.mono ?_;clear HA2;rintro e w6 ⟨⟨r3,rfl,hr3⟩,hm6⟩;have hM6:=M5.out w6 hm6;have M6:=Lib.hid hM6;obtain⟨V6,C6,D6,g6,c1,c2,c3,c4,c5,c6⟩:=hm6;obtain⟨k1,_⟩:=kV c6 c5 K4.out.1 K4.out.2;obtain⟨k2,_⟩:=kV c6 c5 K5.out.1 K5.out.2;obtain⟨k3,_⟩:=kV c6 c5 K6.out.1 K6.out.2;have z0:=rM k1;obtain⟨_,z1,_,z2⟩:=kG k2;obtain⟨_,z3,_,z4⟩:=kG k3;clear hM6 k1 k2 k3 c5 c6 g6 K4 K5 K6 M5)
       |(go_at_call 42;refine HA1.out.mono ?_;clear HA1;rintro e w4 ⟨⟨r1,rfl,hr1⟩,V4,C4,D4,g4,a1,a2,a3,a4,a5,a6⟩;obtain⟨k1,k1'⟩:=kV a6 a5 HEX.out.drew heD';obtain⟨k2,k2'⟩:=kV a6 a5 HSX.out.drew hsD';obtain⟨k3,k3'⟩:=kV a6 a5 HXX.out.drew hxD';have t0:=rM k1;obtain⟨_,t1,_,t2⟩:=kG k2;obtain⟨_,t3,_,t4⟩:=kG k3;have so:=(HSO.out.below (w':=X.drew) (Below.refl _ X).drew).an a6 a5;have xo:=(HXO.out.below (w':=X.drew) (Below.refl _ X).drew).an a6 a5;have HEQ:=Lib.hid (ah8 (ca:=ca) (cb:=xca) g4 na aGl aGl aGl so.addr xo.addr so.la xo.la so.ba xo.ba);have hM4:=fun(V5 C5:Nat) (D5:Nat->Prop) (w5:World)=>fun(b1:V4<=V5) (b2:V5<=V4+(na+1)) (b3:C4<=C5) (b4:C5<=C4+(5*na+1)) (b5:∀b,D5 b->D4 b\/w4.heap.size<=b) (b6:ak D4 w4 w5)=>ahd a1 a2 a3 a4 a5 a6 b1 b2 b3 b4 b5 b6;have M4:=Lib.hid hM4;have K1:=Lib.hid (And.intro k1 k1');have K2:=Lib.hid (And.intro k2 k2');have K3:=Lib.hid (And.intro k3 k3');clear hM4 k1 k2 k3 k1' k2' k3' a5 a6 so xo))
      all_goals (go_wp2_with fail;go_meet;exact⟨⟨r3,rfl,hr3⟩,Lib.hid (.pre (Below.refl _ X).drew (M6.out.wide aGl aGl))⟩)
     case rest=>
     obtain⟨⟨r,hr,hr1⟩,hm⟩:=hcut;subst hr;obtain⟨V6,C6,D6,g6,a1,a2,a3,a4,a5,a6⟩:=hm.out;obtain⟨k1,k1'⟩:=kV a6 a5 HEX.out heD';obtain⟨k2,k2'⟩:=kV a6 a5 HSX.out hsD';obtain⟨k3,k3'⟩:=kV a6 a5 HXX.out hxD';have so:=HSO.out.an a6 a5;have xo:=HXO.out.an a6 a5;have hb2':=B2.out;have hb4':=B4.out;obtain⟨Y,hY⟩:∃Y,Y=wc.alloc (.cells #[.int .i64 r,.int .i64 act,.int .i64 xact] 3):=⟨_,rfl⟩;have hbY:Below wc.heap.size wc Y:=by rw[hY];exact(Below.refl _ wc).alloc (pi _) _
     have hY0:cD Y D6 (some ⟨wc.heap.size,0,none⟩) [r,act,xact]:=by rw[hY];exact cD.j5 (B:=wc.heap.size) (World.ownsRow_lit wc #[.int .i64 r,.int .i64 act,.int .i64 xact] 3 (pi _) aGo rfl) (fun b hb hx=>by have hb:some wc.heap.size=some b:=hb;injection hb with hb;exact absurd (g6.lt b hx) aGl)
     have kY:=k1.below hbY k1.lt;have ha:-65536<=act/\act<=65536:=so.bc;have hxa:-65536<=xact/\xact<=65536:=xo.bc;have hsm:=ahg (c0:=3) (c1:=cd) (c2:=xcd) (g6.below hbY) nd (rM kY) aGl aGl hY0 ((so.below hbY).data) ((xo.below hbY).data) rfl so.ld xo.ld (fun z hz=>by
      simp only[AT,List.not_mem_nil,or_false]at hz;rcases hz with rfl|rfl|rfl
      .exact hr1
      .exact ha
      .exact hxa) so.bd xo.bd
     have e1:=rM k1;obtain⟨s0,_,_,_⟩:=kG k2;obtain⟨x0,_,_,_⟩:=kG k3;obtain⟨_,_,s2,_⟩:=kG (k2.below hbY k2.lt);obtain⟨_,_,x2,_⟩:=kG (k3.below hbY k3.lt);rw[hY]at s2 x2;have ht:=vQ g6;have HFIN:Hid (cL w3 p k V C ((q+1)*65) ((q+1)*450) D wc):=Lib.hid ((cL.comp B1.out B2.out B3.out B4.out B5.out B6.out (.pre HBX.out hm.out)).wide aGl aGl);have HFIN2:Hid (∀w7,cL Y p k V6 C6 0 (2*nd) D6 w7->cL w3 p k V C ((q+1)*65) ((q+1)*450) D w7):=Lib.hid fun w7 hh=>(cL.comp B1.out B2.out B3.out B4.out B5.out B6.out (.pre HBX.out (.comp a1 a2 a3 a4 a5 a6 (.pre hbY hh)))).wide aGl aGl;have HSM:=Lib.hid hsm;have HY:=Lib.hid hY;clear hm a1 a2 a3 a4 a5 a6 k1 k1' k2 k2' k3 k3' so xo hY hbY hY0 kY hsm g6;by_cases hr0:r = -1
     .have hr0':(r != -1)=false:=by simp[hr0]
      clear hr0
      go_wp2_with fail
      refine ht.mono ?_;rintro e w' ⟨rfl,rfl⟩
      go_wp2_with fail
      go_roundw
      case rel=>(repeat apply Exists.intro);exact⟨⟨q+1,aGl,by go_num,HFIN⟩,rfl⟩
      case measure=>simp[intOf];omega
     .have hr0':(r != -1)=true:=by simp[hr0]
      clear hr0
      go_wp2_with fail
      refine ht.mono ?_;rintro e w' ⟨rfl,rfl⟩;clear ht
      go_wp2_with fail
      rw[<-HY.out];refine HSM.out.mono ?_;rintro e w7 ⟨rfl,hm7⟩;have hm8:=HFIN2.out w7 hm7;have HM8:=Lib.hid hm8;clear hm7 hm8
      go_wp2_with fail
      go_roundw
      case rel=>(repeat apply Exists.intro);exact⟨⟨q+1,aGl,by go_num,HM8⟩,rfl⟩
      case measure=>simp[intOf];omega
    .obtain rfl:q=nh:=aGl
     go_wp2_with fail
     go_roundw
     case rel=>exact⟨1,aGl,by go_num,Lib.hid (hI.out.wide aGl aGl)⟩
     case measure=>simp[intOf]
  .obtain rfl:j=1:=aGl
   go_wp2_with fail
   exact⟨rfl,.tuple #[],results_none rfl _ _ _,rfl,.pre HBW.out (.pre HB3.out (hI.out.wide aGl aGl))⟩
theorem aiv{D2:Nat->Prop}{l:io}(hR:cD w D2 A l)(hn:l.length=n)(hn2:n<=900) :
  Calls Tryz.prog 81 #[.slice A n cap] w fun e w'=>∃A' c' r,e=.returned (.slice A' n c')/\w'.ownsRow w.heap.size 3 1 (.slice A' n c') n (iv r)/\(∀x∈r,x<=9223372036854775807)/\Below w.heap.size w w':=by
 have HR:=Lib.hid hR;clear hR
 go_enter Tryz.func81,Tryz.ntmps81
 go_wp2_with fail
 go_loopw [2,7] (fun v i wr=>∃(j:Nat) (L:io),j<=n/\i=.int .i64 j/\Hid (Below w.heap.size w wr/\wr.ownsRow w.heap.size 3 1 v j (iv L)/\(∀x∈L,x<=9223372036854775807))) (fun _ i _=>n-(intOf i).toNat)
 case atStart=>exact⟨0,[],AI _,rfl,Lib.hid ⟨Below.refl _ _,World.ownsRow_nil _ _ _ _,fun x hx=>absurd hx aGn⟩⟩
 case round=>
  obtain⟨j,L,hj,rfl,hI⟩:=hrel;obtain⟨A3,c3,hv,_,_,_⟩:=eo hI.out.2.1;subst hv;by_cases hlt:j<n
  .obtain⟨b,off,rfl,_,_,hc⟩:=(HR.out.below hI.out.1) j aGl;generalize l.getD j 0=x at hc
   go_wp2_with (at_builtin;refine oM _ rfl _ _ 22 rfl w.heap.size 3 (.int .i64 0) 8 Tryz.underlying22 ka rfl aGl _ _ _ rfl hI.out.2.1 (.int .i64 (wrap64 (x*2))) rfl _ rfl rfl aGl hI.out.1.size ?_;intro v3 w3 hown3 hg3 _;have HG3:=Lib.hid hg3;have HO3:=Lib.hid hown3;clear hg3 hown3)
   go_roundw
   case rel=>
    refine⟨j+1,L++[wrap64 (x*2)],aGl,by go_num,Lib.hid ⟨hI.out.1.grown HG3.out hI.out.1.size fun b hb=>(hI.out.2.1.lt b hb).1,by rw[oO];exact HO3.out,fun z hz=>?_⟩⟩;rcases At.1 hz with hz|hz
    .exact hI.out.2.2 z hz
    .obtain rfl:=OF.1 hz;unfold wrap64;omega
   case measure=>simp[intOf];omega
  .obtain rfl:j=n:=aGl
   go_wp2_with fail
   go_ret
   exact⟨A3,c3,L,rfl,hI.out.2.1,hI.out.2.2,hI.out.1⟩
theorem aey{sb:Nat}{mp:Value}(h:US w p k V C D)(he:af w eb 65 (jo p mv av done))(hs:af w sb 153 #[x0,x1,x2,x3]) :
  Calls Tryz.prog 82 #[.pointer (some ⟨eb,0,none⟩),mp,.int .i64 0,.pointer (some ⟨sb,0,none⟩)] w fun e w'=>e=.returned (.tuple #[])/\w'=w.setCell ⟨sb,3,none⟩ (.int .i64 1):=by
 have e1:=rM he;have ht:=vQ h;obtain⟨_,_,_,s3⟩:=kG hs;have f3:=hs.frozen 3;clear h he hs
 go_enter Tryz.func82,Tryz.ntmps82
 go_wp2_with fail
 go_step3
 go_wp2_with fail
 refine ht.mono ?_;rintro e w' ⟨rfl,rfl⟩
 go_wp2_with fail
 go_step3
 go_wp2_with fail
 go_loopw [8,9] (fun x y wr=>x=.int .i64 1/\y=.int .i64 (-1)/\w=wr) (fun _ _ _=>0)
 case atStart=>exact⟨rfl,rfl,rfl⟩
 case round=>
  obtain⟨rfl,rfl,rfl⟩:=hrel
  go_wp2_with fail
  exact⟨rfl,.tuple #[],results_none rfl _ _ _,rfl,rfl⟩
