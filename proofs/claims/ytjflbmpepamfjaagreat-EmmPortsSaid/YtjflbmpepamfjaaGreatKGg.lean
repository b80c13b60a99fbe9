import Derived.Test.YtjflbmpepamfjaaGreatKGy
import Derived.Test.YtjflbmpepamfjaaGreatKGd
import Derived.Shelf.SlicesE.DeleteFunc
set_option linter.all false
section
namespace Go.Proofs.YtjflbmpepamfjaaGreat
open Go Go.RowKit Go.Shelf Go.Sort
def afY:Go.Shelf.Ren:=⟨fun|6=>143|10=>170|n=>n,fun|0=>0|3=>3|4=>4|22=>22|23=>3|25=>143|n=>n,fun|n=>n⟩
theorem afX:Go.Proofs.SlLaysH.n10 Tryz.prog afY:={
 mixed:=aGm
 f6:=⟨Tryz.f143.name,aGo,Tryz.func143.trans (IT some aGm)⟩
 f10:=⟨Tryz.f170.name,aGo,Tryz.func170.trans (IT some aGm)⟩
 t0:=Tryz.underlying0
 a0:=Tryz.isAgg0
 z0:=Tryz.sizeOf0
 v0:=Tryz.zeroValue0
 t3:=Tryz.underlying3
 a3:=Tryz.isAgg3
 z3:=Tryz.sizeOf3
 v3:=Tryz.zeroValue3
 t4:=Tryz.underlying4
 a4:=Tryz.isAgg4
 z4:=Tryz.sizeOf4
 v4:=Tryz.zeroValue4
 t22:=Tryz.underlying22
 a22:=Tryz.isAgg22
 z22:=Tryz.sizeOf22
 v22:=Tryz.zeroValue22
 t25:=Tryz.underlying143
 a25:=Tryz.isAgg143
 z25:=Tryz.sizeOf143
 v25:=Tryz.zeroValue143
 a23:=Tryz.isAgg3
 z23:=Tryz.sizeOf3 }
theorem Qp(x:Int)(w:World):FnGives Tryz.prog 189 #[] #[.int .i64 x] (.bool (x == 1)) w:=by
 unfold FnGives
 go_enter Tryz.func189,Tryz.ntmps189
 go_wp2
 go_ret
 exact⟨rfl,0,rfl⟩
theorem aep:∀args w,(callFunc 189 args).run Tryz.prog w=.ok (.enter 189 args) w:=enters_of Tryz.func189 aGm rfl
variable{b:Nat}{B:Nat}
theorem aiq{w:World}{n c:Nat}(zs:io)(h:w.ownsRow B 3 1 (.slice (some ⟨b,0,none⟩) n c) n (iv zs))(hn:n<=1000) :
  Calls Tryz.prog 170 #[.slice (some ⟨b,0,none⟩) n c,.func (.func 189) #[] #[]] w fun e w'=>∃m d,e=.returned (.slice (some ⟨b,0,none⟩) m c)/\m<=n/\(∀x∈d,x∈zs)/\w'.ownsRow B 3 1 (.slice (some ⟨b,0,none⟩) m c) m (iv d)/\ak (fun x=>x=b) w w':=by
 obtain⟨g,cap,hv,hB,hlt,hnc,hcm,hl,hH⟩:=Lib.holds_of_ownsRow (enc:=Value.int .i64) (zs:=zs) h aGn;injection hv with hv1 hv2 hv3;injection hv1 with hv1;injection hv1 with hv1;subst hv1 hv3;have hs:=AnyE.slices_DeleteFunc afX (Value.int .i64) (fun _=>rfl) (fun x=>x == 1) 189 #[] aep 0 (fun w=>Tryz.zeroValue3 w) b 0 c zs.toArray w (fun W x _=>Qp x W) (fun _ _ _ x _=>Qp x _) hH (by simp;omega) (by simp;omega);rw[aGg,hl]at hs;refine hs.mono ?_;rintro e w' ⟨rfl,q,rfl⟩;have hk:(zs.filter fun x=>!(x == 1)).length<=n:=by rw[<-hl];exact List.length_filter_le _ _
 refine⟨_,zs.filter fun x=>!(x == 1),rfl,hk,fun x hx=>(List.mem_filter.1 hx).1,?_,rfl,rfl,rfl,by simp[putRow,mapBlock,Sort.ahead],fun i hi hn=>by simp[putRow,mapBlock,Sort.ahead,aFM];intro e;exact absurd e.symm hn⟩;have:=Lib.ownsRow_putRow (q:=q) (enc:=Value.int .i64) (k:=(zs.filter fun x=>!(x == 1)).length) (ys:=(zs.filter fun x=>!(x == 1))++List.replicate (n-(zs.filter fun x=>!(x == 1)).length) 0) h (by simp only[aO,List.length_replicate];omega) hk;rw[List.take_left]at this;exact this
theorem agP(x:Int):∃b:UInt8,IntKind.u8.wrap x=(b.toNat:Int):=by
 have h:0<=IntKind.u8.wrap x/\IntKind.u8.wrap x<256:=by have:=IntKind.wrap_u8 x;omega
 refine⟨UInt8.ofNat (IntKind.u8.wrap x).toNat,?_⟩;have e:(UInt8.ofNat (IntKind.u8.wrap x).toNat).toNat=(IntKind.u8.wrap x).toNat % 256:=rfl;rw[e];omega
set_option maxHeartbeats 1000000
variable{A:lc}
theorem ah4{w:World}{n c:Nat}{l:io}(hR:Reads w B 1 A n (iv l))(hB:B<=w.heap.size)(hn:n<=1000) :
  Calls Tryz.prog 191 #[.slice A n c] w fun e w'=>(∃s:ByteArray,e=.returned (.string s)/\s.size<=maxLen)/\Below w.heap.size w w':=by
 have kc:=fun(w:World) (A:lc) (n c B:Nat) (bs:List UInt8) (h:Reads w B 1 A n (rB bs))=>ad8 (P:=Tryz.prog) w 120 9 5 A n c B bs h Tryz.underlying120 Tryz.underlying5 Tryz.underlying9;have HR:=Lib.hid hR;have KC:=Lib.hid kc;clear hR kc
 go_enter Tryz.func191,Tryz.ntmps191
 go_wp2_with fail
 go_loopw [3,8] (fun b i wr=>∃(k:Nat) (L:List UInt8),k<=n/\i=.int .i64 k/\Hid (L.length=4*k/\wr.ownsRow w.heap.size 5 1 b (4*k) (rB L)/\Below w.heap.size w wr)) (fun _ i _=>n-(intOf i).toNat)
 case atStart=>exact⟨0,[],AI _,rfl,Lib.hid ⟨rfl,World.ownsRow_nil _ _ _ _,Below.refl _ _⟩⟩
 case round=>
  obtain⟨k,L,hk,rfl,hI⟩:=hrel;by_cases hlt:k<n
  .obtain⟨b,off,rfl,_,hc⟩:=(HR.out.below (hI.out.2.2.mono hB)).oU hlt;obtain⟨x,hx⟩:∃x,x=l.getD k 0:=⟨_,rfl⟩;rw[<-hx]at hc;clear hx
   go_wp2_with fail
   go_loopw [3,5,12] (fun b y i wr=>∃(j:Nat) (L:List UInt8) (y':Int),j<=4/\i=.int .i64 j/\y=.int .i64 y'/\Hid (L.length=4*k+j/\wr.ownsRow w.heap.size 5 1 b (4*k+j) (rB L)/\Below w.heap.size w wr)) (fun _ _ i _=>4-(intOf i).toNat)
   case atStart=>exact⟨0,L,x,AI _,rfl,rfl,hI⟩
   case round=>
    obtain⟨j,L2,y,hj,rfl,rfl,hJ⟩:=hrel;by_cases hlj:j<4
    .obtain⟨b8,hb8⟩:=agP y;obtain⟨A2,c2,hv,_,_,_⟩:=eo hJ.out.2.1;subst hv
     go_wp2_with (at_builtin;refine oM _ rfl _ _ 120 rfl w.heap.size 5 (.int .u8 0) 1 Tryz.underlying120 agl rfl aGl _ _ _ rfl hJ.out.2.1 (.int .u8 (b8.toNat:Int)) rfl _ rfl rfl aGl hJ.out.2.2.size ?_;intro v3 w3 hown3 hg3 _;have HG3:=Lib.hid hg3;have HO3:=Lib.hid hown3;clear hg3 hown3)
     go_roundw
     case rel=>
      refine⟨j+1,L2++[b8],_,aGl,by go_num,rfl,Lib.hid ⟨by simp[hJ.out.1];omega,?_,?_⟩⟩
      .have:=HO3.out;rw[rB,dE];exact this
      .exact hJ.out.2.2.grown HG3.out hJ.out.2.2.size fun b hb=>(hJ.out.2.1.lt b hb).1
     case measure=>simp[intOf];omega
    .obtain rfl:j=4:=aGl
     go_wp2_with fail
     go_roundw
     case rel=>exact⟨k+1,L2,aGl,by go_num,hJ⟩
     case measure=>simp[intOf];omega
  .obtain⟨A2,c2,hv,_,_,hr⟩:=eo hI.out.2.1;subst hv;have hk2:=KC.out _ _ _ c2 _ _ hr;clear hr
   go_wp2_with fail
   go_ret
   exact⟨⟨_,rfl,by have:=hI.out.1;unfold maxLen;simp[ByteArray.size];omega⟩,hI.out.2.2⟩
open Go.Maps
def afV:Go.Shelf.Ren:=⟨fun|6=>143|8=>105|n=>n,fun|0=>0|3=>3|4=>4|22=>22|23=>3|25=>143|n=>n,fun|n=>n⟩
theorem afU:Go.Proofs.SlLaysH.n8 Tryz.prog afV:={
 mixed:=aGm
 f6:=⟨Tryz.f143.name,aGo,Tryz.func143.trans (IT some aGm)⟩
 f8:=⟨Tryz.f105.name,aGo,Tryz.func105.trans (IT some aGm)⟩
 t0:=Tryz.underlying0
 a0:=Tryz.isAgg0
 z0:=Tryz.sizeOf0
 v0:=Tryz.zeroValue0
 t3:=Tryz.underlying3
 a3:=Tryz.isAgg3
 z3:=Tryz.sizeOf3
 v3:=Tryz.zeroValue3
 t4:=Tryz.underlying4
 a4:=Tryz.isAgg4
 z4:=Tryz.sizeOf4
 v4:=Tryz.zeroValue4
 t22:=Tryz.underlying22
 a22:=Tryz.isAgg22
 z22:=Tryz.sizeOf22
 v22:=Tryz.zeroValue22
 t25:=Tryz.underlying143
 a25:=Tryz.isAgg143
 z25:=Tryz.sizeOf143
 v25:=Tryz.zeroValue143
 a23:=Tryz.isAgg3
 z23:=Tryz.sizeOf3 }
variable{c:io}
theorem Fv.any{n:Nat}{v k:Int}(h:Fv c n v k)(hl:c.length=n):decide (0<=k)=c.any (fun y=>y == v):=by
 rcases h with⟨rfl,h⟩|⟨j,hj,rfl,h,_⟩
 .symm;simp only[show decide ((0:Int)<=-1)=false by rfl,aFn];intro x hx;obtain⟨i,hi,rfl⟩:=aFV hx;have:=h i aGl;rw[fq,bF hi]at this;simpa using this
 .symm;simp only[show decide ((0:Int)<=(j:Int))=true by simp,aEQ];rw[fq,bF aGl]at h;exact⟨c[j],EQ _,by simpa using h⟩
variable{cap:Nat}
theorem ahs{w:World}{n:Nat}(v:Int)(hR:Reads w B 1 A n (iv c))(hn:n<=100000) :
  Calls Tryz.prog 173 #[.slice A n cap,.int .i64 v] w fun e w'=>e=.returned (.bool (c.any fun y=>y == v))/\w=w':=by
 have hl:c.length=n:=by have:=hR.1;rw[fX]at this;omega
 have hf:=Qv (cap:=cap) v hR hn;clear hR
 go_enter Tryz.func173,Tryz.ntmps173
 go_wp2_with fail
 refine hf.mono ?_;rintro e w' ⟨k,rfl,hk,rfl⟩;have HK:=Lib.hid (hk.any hl);clear hk
 go_wp2_with fail
 go_ret
 exact⟨lG HK.out,rfl⟩
def EB(L:io)(x:Int):Bool:=(x == -1)||L.any (fun y=>y == wrap64 (-x))
theorem ag2{w:World}{p n:Nat}(x:Int)(hp:w.cell? ⟨p,0,none⟩=some (.slice A n cap))(hR:Reads w B 1 A n (iv c))(hn:n<=100000) :
  FnGives Tryz.prog 190 #[.pointer (some ⟨p,0,none⟩)] #[.int .i64 x] (.bool (EB c x)) w:=by
 unfold FnGives;have hf:=ahs (cap:=cap) (wrap64 (-x)) hR hn;clear hR;by_cases h1:x = -1
 .subst h1;clear hf
  go_enter Tryz.func190,Tryz.ntmps190
  go_wp2_with fail
  go_ret
  exact⟨rfl,0,rfl⟩
 .have h1':(x == -1)=false:=pu.2 h1;have HO:=Lib.hid (show EB c x=(c.any fun y=>y == wrap64 (-x)) by unfold EB;rw[h1',aGa]);clear h1
  go_enter Tryz.func190,Tryz.ntmps190
  go_wp2_with fail
  refine hf.mono ?_;rintro e w' ⟨rfl,rfl⟩
  go_wp2_with fail
  go_ret
  exact⟨lG HO.out.symm,0,rfl⟩
theorem aef:∀args w,(callFunc 190 args).run Tryz.prog w=.ok (.enter 190 args) w:=enters_of Tryz.func190 aGm rfl
theorem ag6{w:World}{p n:Nat}(hp:w.cell? ⟨p,0,none⟩=some (.slice (some ⟨b,0,none⟩) n cap))(hpl:p<w.heap.size)(h:w.ownsRow B 3 1 (.slice (some ⟨b,0,none⟩) n cap) n (iv c))(hn:n<=1000) :
  Calls Tryz.prog 105 #[.slice (some ⟨b,0,none⟩) n cap,.func (.func 190) #[] #[.pointer (some ⟨p,0,none⟩)]] w fun e w'=>(∃b,e=.returned (.bool b))/\∃q,w'=w.drewN q:=by
 have hl:c.length=n:=by have:=h.1;rw[fX]at this;omega
 have hc:∀j,j<c.length->w.cell? ⟨b,0+j,none⟩=some (.int .i64 c[j]!):=fun j hj=>by rw[aFm,h.cellAt j aGl,rF c j hj,fq,bF hj,getElem!_pos c j hj];rfl
 have hs:=AnyE.slices_ContainsFunc afU (Value.int .i64) (EB c) 190 #[.pointer (some ⟨p,0,none⟩)] aef b 0 n cap c w (fun W x hb=>ag2 x ((hb.cell (p:=⟨p,0,none⟩) hpl).trans hp) ((Reads.j5 h).below hb) aGl) aGl aGl hc;refine hs.mono ?_;rintro e w' ⟨rfl,q,rfl⟩;exact⟨⟨_,rfl⟩,q,rfl⟩
section
variable{w:World}{g V C m:Nat}{D:Nat->Prop}{n:Nat}{M:DataW Unit}
theorem aho{p k:Nat}(h:fp w g V C m D n M)(hp:w.cell? ⟨p,0,none⟩=some (.pointer (some ⟨g,0,none⟩)))(hC:C<1000000)(hR:Reads w B 1 A k (iv c))(hB:B<=w.heap.size)(hk:k<=1000)(hr:eW (V:Int) c=true) :
  Calls Tryz.prog 107 #[.slice A k cap,.pointer (some ⟨p,0,none⟩)] w fun e w'=>e=.returned (.tuple #[])/\(∃D',fp w' g V (C+1) m D' n M/\∀b,D' b->D b\/w.heap.size<=b)/\ak D w w':=by
 obtain⟨cs,f,rv,Df,h,rfl⟩:=h;refine(QV (cap:=cap) h hp hC hR hB hk hr).mono ?_;rintro e w' ⟨rfl,⟨v,D',rv',Df',hg,hd⟩,hf⟩;exact⟨rfl,⟨D',⟨_,f,rv',Df',hg,aGn⟩,hd⟩,hf.mono fun b hb=>h.sub b hb⟩
theorem fp.dlt(h:fp w g V C m D n M):∀b,D b->b<w.heap.size:=by obtain⟨cs,f,rv,Df,h,rfl⟩:=h;exact h.lt
end
set_option maxHeartbeats 4000000
variable{B0:Nat}{pc:Nat}{c0:Nat}{m0:Nat}{b0:Nat}
theorem ahk{w:World}{g V C m p:Nat}{D:Nat->Prop}{n:Nat}{M:DataW Unit}(d:io)(h:fp w g V C m D n M)(hp:w.cell? ⟨p,0,none⟩=some (.pointer (some ⟨g,0,none⟩)))(hc:w.cell? ⟨pc,0,none⟩=some (.slice (some ⟨b0,0,none⟩) m0 c0))(ho:w.ownsRow B0 3 1 (.slice (some ⟨b0,0,none⟩) m0 c0) m0 (iv d))
  (hp1:p<w.heap.size/\¬D p) (hb0:b0<w.heap.size/\¬D b0) (hm0:m0<=900) (hC:C<999000) (hV:1<=V/\V<=65536) (hd:∀x∈d,bK (V:Int) x=false) :
  Calls Tryz.prog 192 #[.int .i64 V,.func (.func 107) #[] #[.pointer (some ⟨p,0,none⟩)],.pointer (some ⟨pc,0,none⟩)] w fun e w'=>e=.returned (.tuple #[])/\(∃D',fp w' g V (C+m0+1) m D' n M/\∀b,D' b->D b\/w.heap.size<=b)/\ak D w w':=by
 have hdl:d.length=m0:=by have:=ho.1;rw[fX]at this;omega
 have hlt:=h.dlt;obtain⟨W,hW⟩:∃W,W=w.alloc (.cells #[.int .i64 V] 3):=⟨_,rfl⟩;have hbW:Below w.heap.size w W:=by rw[hW];exact(Below.refl _ w).alloc (pi _) _
 have hWs:W.heap.size=w.heap.size+1:=by rw[hW];simp
 have hcW:=hbW.cell (p:=⟨pc,0,none⟩) (World.block_lt_of_cell? w ⟨pc,0,none⟩ hc);rw[hc]at hcW;have hcA:(w.alloc (.cells #[.int .i64 V] 3)).cell? ⟨pc,0,none⟩=some (.slice (some ⟨b0,0,none⟩) m0 c0):=by rw[<-hW];exact hcW
 have hI0:W.ownsRow w.heap.size 3 1 (.slice (some ⟨w.heap.size,0,none⟩) 1 1) 1 (iv [(V:Int)]):=by rw[hW];exact World.ownsRow_lit w #[.int .i64 V] 1 (pi _) aGo rfl
 have n1:=IntWalk.i64_in (-(V:Int)) ⟨aGl,aGl⟩;have H0:=Lib.hid (h.below hbW);have HW:=Lib.hid hW;have HBW:=Lib.hid hbW;have HI0:=Lib.hid hI0;have HO:=Lib.hid ho;have HP:=Lib.hid hp;have HLT:=Lib.hid hlt;have HD:=Lib.hid hd;clear h hW hbW hI0 ho hp hc hlt hd
 go_enter Tryz.func192,Tryz.ntmps192
 go_wp2_with fail
 rw[<-HW.out];clear HW
 go_loopw [5,12] (fun v i wr=>∃(j:Nat) (L:io) (D':Nat->Prop),j<=m0/\i=.int .i64 j/\Hid (fp wr g V (C+j) m D' n M/\(∀b,D' b->D b\/w.heap.size<=b)/\ak D w wr/\wr.ownsRow w.heap.size 3 1 v (j+1) (iv L)/\(∀x∈L,bK (V:Int) x=false)/\∀b,v.ownBlock=some b->¬D' b)) (fun _ i _=>m0-(intOf i).toNat)
 case atStart=>
  refine⟨0,[(V:Int)],D,AI _,rfl,Lib.hid ⟨H0.out,fun b hb=>.inl hb,.cR HBW.out,HI0.out,fun x hx=>?_,fun b hb hx=>?_⟩⟩
  .obtain rfl:=OF.1 hx;simp[bK];omega
  .have hb:some w.heap.size=some b:=hb;injection hb with hb;have:=HLT.out b hx;omega
 case round=>
  obtain⟨j,L,D',hj,rfl,hI⟩:=hrel;by_cases hlt:j<m0
  .have hfr:=hI.out.2.2.1;have hor:=hfr.own HO.out (fun b hb=>by have hb:some b0=some b:=hb;injection hb with hb;rw[<-hb];exact hb0.2);have hcj:=hor.cellAt j aGl;rw[rF d j aGl]at hcj;obtain⟨x,hx⟩:∃x,x=d.getD j 0:=⟨_,rfl⟩;have hxd:bK (V:Int) x=false:=HD.out x (by rw[hx,fq,bF aGl];exact EQ _);rw[<-hx]at hcj;have hx2:x≠0/\-(V:Int)<=x/\x<=V:=by simp[bK]at hxd;omega
   have hpr:=(hfr.cell (p:=⟨p,0,none⟩) hp1.1 hp1.2).trans HP.out;have n2:=IntWalk.i64_in (-x) ⟨aGl,aGl⟩;have hps:=ro hp1.1 hfr.size;have hput:=qi [-(V:Int),x] hI.out.1 hpr hps aGl aGn (by simp[eW,hxd];simp[bK];omega);have hxo:bK (V:Int) (-x)=false:=by simp[bK];omega
   obtain⟨A2,c2,hv,_,_,_⟩:=eo hI.out.2.2.2.1;subst hv;have HXO:=Lib.hid hxo;clear hfr hor hx hxd hx2 hpr
   go_wp2_with fail
   refine hput.mono ?_;rintro e w2 ⟨rfl,⟨D2,g2,d2⟩,f2⟩;have how:=f2.own hI.out.2.2.2.1 hI.out.2.2.2.2.2;have hs0:=hI.out.2.2.1.size;have hs2:=f2.size;have G2:=Lib.hid g2;have D2':=Lib.hid d2;have F2:=Lib.hid f2;have HOW:=Lib.hid how;clear hput g2 d2 f2 how
   go_wp2_with (at_builtin;refine oM _ rfl _ _ 22 rfl w.heap.size 3 (.int .i64 0) 8 Tryz.underlying22 ka rfl aGl _ _ _ rfl HOW.out (.int .i64 (-x)) rfl _ rfl rfl aGl aGl ?_;intro v3 w3 hown3 hg3 hat3;have HG3:=Lib.hid hg3;have HO3:=Lib.hid hown3;have HA3:=Lib.hid hat3;clear hg3 hown3 hat3)
   go_roundw
   case rel=>
    have hf3:ak (fun b=>(Value.slice A2 (j+1) c2).ownBlock=some b) w2 w3:=(ak.refl _ w2).grown HG3.out fun b hb=>hb;have hne:∀b,D2 b->¬(Value.slice A2 (j+1) c2).ownBlock=some b:=fun b hb hx=>(D2'.out b hb).elim (hI.out.2.2.2.2.2 b hx) fun hy=>by have:=(hI.out.2.2.2.1.lt b hx).2;omega
    refine⟨j+1,L++[-x],D2,aGl,by go_num,Lib.hid ⟨?_,?_,?_,?_,?_,?_⟩⟩
    .obtain⟨cs,f,rv,Df,hh,e⟩:=G2.out;exact⟨cs,f,rv,Df,hh.an hf3 hne,aGl⟩
    .exact fun b hb=>(D2'.out b hb).elim (hI.out.2.1 b) fun hx=>.inr aGl
    .have h1:ak D w w2:=hI.out.2.2.1.after F2.out hI.out.2.1;exact h1.after hf3 fun b hb=>.inr (hI.out.2.2.2.1.lt b hb).1
    .rw[oO];exact HO3.out
    .intro y hy;rcases At.1 hy with hy|hy
     .exact hI.out.2.2.2.2.1 y hy
     .obtain rfl:=OF.1 hy;exact HXO.out
    .intro b hb hx;rcases HA3.out with hA|hA
     .exact hne b hx (hA▸hb)
     .rw[hA]at hb;injection hb with hb;have:=G2.out.dlt b hx;omega
   case measure=>simp[intOf];omega
  .obtain rfl:j=m0:=aGl
   obtain⟨A2,c2,hv,_,_,hr⟩:=eo hI.out.2.2.2.1;subst hv;have hfr:=hI.out.2.2.1;have hpr:=(hfr.cell (p:=⟨p,0,none⟩) hp1.1 hp1.2).trans HP.out;have hput:=aho (cap:=c2) hI.out.1 hpr aGl hr (pi _) aGl (by unfold eW;rw[aEY];intro y hy;rw[hI.out.2.2.2.2.1 y hy];rfl);clear hfr hpr hr
   go_wp2_with fail
   refine hput.mono ?_;rintro e w2 ⟨rfl,⟨D2,g2,d2⟩,f2⟩;have G2:=Lib.hid g2;have D2':=Lib.hid d2;have F2:=Lib.hid f2;clear hput g2 d2 f2
   go_wp2_with fail
   have hs0:=hI.out.2.2.1.size;exact⟨rfl,.tuple #[],results_none rfl _ _ _,rfl,⟨D2,G2.out,fun b hb=>(D2'.out b hb).elim (hI.out.2.1 b) fun hx=>.inr (rt hs0 hx)⟩,hI.out.2.2.1.after F2.out hI.out.2.1⟩
set_option maxRecDepth 20000
theorem agf{w:World}{g V C:Nat}{D:Nat->Prop}(d:io)(s:ByteArray)(hs:s.size<=maxLen)(h:GD w g V C D)(hc0:w.cell? ⟨pc,0,none⟩=some (.slice (some ⟨b0,0,none⟩) m0 c0))(ho:w.ownsRow B0 3 1 (.slice (some ⟨b0,0,none⟩) m0 c0) m0 (iv d))
  (hpc:pc<w.heap.size/\¬D pc) (hb0:b0<w.heap.size/\¬D b0) (hm0:m0<=900) (hC:C<998000) (hV:V<65536) (hd:∀x∈d,bK (V:Int) x=false) :
  Calls Tryz.prog 78 #[.pointer (some ⟨g,0,none⟩),.agg #[.int .i64 3,.int .i64 0,.int .i64 0,.int .i64 0,.string s],.func (.func 192) #[] #[.pointer (some ⟨pc,0,none⟩)]] w fun e w'=>(∃r:Int,e=.returned (.int .i64 r)/\-65536<=r/\r<=65536)/\j6 w g V C 1 (m0+1) D w':=by
 obtain⟨cs,f,m,rv,Df,n,M,h,rfl⟩:=h;obtain⟨kl,hkl⟩:=F6 3 0 0 0 s aGo aGo aGo aGo hs;have hcs:cs.length<998000:=hC;have hlt:=h.lt;have hb1':Below w.heap.size w (w.alloc (.cells #[.pointer (some ⟨g,0,none⟩)] 62)):=(Below.refl _ w).alloc (pi _) _;obtain⟨W,hW⟩:∃W,W=(w.alloc (.cells #[.pointer (some ⟨g,0,none⟩)] 62)).alloc (.cells #[.int .i64 3,.int .i64 0,.int .i64 0,.int .i64 0,.string s] 147):=⟨_,rfl⟩;have hbW:Below w.heap.size w W:=by rw[hW];exact hb1'.alloc aGn _
 have hWs:W.heap.size=w.heap.size+2:=by rw[hW];simp
 have bp:af W w.heap.size 62 #[.pointer (some ⟨g,0,none⟩)]:=by rw[hW];exact(af.new w _ _).alloc _
 have bq:af W (w.heap.size+1) 147 #[.int .i64 3,.int .i64 0,.int .i64 0,.int .i64 0,.string s]:=by rw[hW];have:=af.new (w.alloc (.cells #[.pointer (some ⟨g,0,none⟩)] 62)) 147 #[.int .i64 3,.int .i64 0,.int .i64 0,.int .i64 0,.string s];simpa using this
 have hG:=h.below hbW;have haW:=(hbW.cell (p:=⟨pc,0,none⟩) hpc.1).trans hc0;have hbW2:=(ak.cR (D:=fun _=>False) hbW).own ho (fun _ _ h=>h);obtain⟨c,hck,hlook⟩:=Fs hG.mp hkl;have hcb:=hG.mb kl c hck;have hl:=hlook W.drew hG.drew.mp;have p0:=bp.drew.cell 0;have q0:=bq.drew.cell 0;have q1:=bq.drew.cell 1;have q2:=bq.drew.cell 2;have q3:=bq.drew.cell 3;have q4:=bq.drew.cell 4;have g1:=hG.drew.bx.cell 1;have GM:Hid (fp W g V cs.length m D n M):=⟨cs,f,rv,Df,hG,rfl⟩;have HLT:=Lib.hid hlt;have HBW:=Lib.hid hbW;have HWS:=Lib.hid hWs;have HBP:=Lib.hid bp;have HBQ:=Lib.hid bq;have HAW:=Lib.hid haW;have HBW2:=Lib.hid hbW2;have HKL:=Lib.hid hkl;have HW:=Lib.hid hW;have hgl:g<w.heap.size:=h.bx.lt;clear h hlt hbW hb1' hWs bp bq hG haW hbW2 hlook hkl hW;rcases hh:Maps.has M kl with _|_
 .rw[hh]at hl;clear hh;have hfr:=Fq (w:=W.drew) (GM.out.below (w':=W.drew) (Below.refl _ W).drew) hV
  go_enter Tryz.func78,Tryz.ntmps78
  go_wp2_with fail
  rw[<-HW.out];clear HW
  go_region
  clear hl q0 q1 q2 q3 q4 g1
  go_wp2_with fail
  refine hfr.mono ?_;rintro e w2 ⟨rfl,h2,f2⟩;have hs2:W.heap.size<=w2.heap.size:=f2.size;have hWs:=HWS.out;have dp:¬D w.heap.size:=fun hx=>Or _ (HLT.out _ hx);have dq:¬D (w.heap.size+1):=fun hx=>by have:=HLT.out _ hx;omega
  have p2:=f2.cC HBP.out.drew dp;have q2:=f2.cC HBQ.out.drew dq;have p0:=p2.drew.cell 0;have q0:=q2.drew.cell 0;have q1:=q2.drew.cell 1;have qq:=q2.drew.cell 2;have q3:=q2.drew.cell 3;have q4:=q2.drew.cell 4;have ha2:=(f2.cell (p:=⟨pc,0,none⟩) (by show pc<W.heap.size;omega) hpc.2).trans HAW.out;have hb2:=f2.own HBW2.out.drew (fun b hb=>by have hb:some b0=some b:=hb;injection hb with hb;rw[<-hb];exact hb0.2);obtain⟨cs2,f',rv2,Df2,h2,e2⟩:=h2;have g1:=h2.bx.drew.cell 1;have hmp:pg w2.drew m n M:=h2.drew.mp;have hn2:n<=V:=GM.out.elim fun _ h=>h.elim fun _ h=>h.elim fun _ h=>h.elim fun _ h=>h.1.hn;have H2:Hid (fp w2.drew g (V+1) cs.length m D n M):=⟨cs2,f',rv2,Df2,h2.drew,e2⟩;have P2:=Lib.hid p2;have HA2:=Lib.hid ha2;have HB2:=Lib.hid hb2;have F2:=Lib.hid f2;clear hfr h2 e2 p2 q2 ha2 hb2 f2 dp dq;have e1:((V+1:Nat):Int)≠0:=aGl
  have e1':(((V+1:Nat):Int) == 0)=false:=pu.2 e1;obtain⟨v,hv⟩:∃v:Int,v=((V+1:Nat):Int):=⟨_,rfl⟩;rw[<-hv]at e1' |-;have HVV:=Lib.hid hv;have hvw:(Lit.int .i64 v).wf=true:=rC ⟨aGl,aGl⟩;clear hv e1
  go_wp2_with fail
  go_still_tail 6,aGm
  change wpList _ _ _ _ _ w2.drew
  go_wp2_with (at_mapUpdate;refine wpList_mapUpdate_own _ rfl _ _ _ 139 rfl 147 3 rG Tryz.underlying139 (plainElem Tryz.prog 3) m n M rfl hmp (by unfold maxLen;omega) _ _ kl rfl rfl HKL.out (.lit (.int .i64 v)) [] (plainElem_int Tryz.underlying3 hvw) ?_;intro w3 hm3 hg3)
  have hF3:ak (fun b=>b=m) w2.drew w3:=(ak.refl _ w2.drew).grown hg3 fun b hb=>by injection hb with hb;exact hb.symm
  have hD3:=H2.out.put hm3 hg3 aGl (fun k2 c2 e2=>by
   by_cases hk2:k2=kl
   .subst hk2;rw[atKey_put_same hmp.isMap (rG.key HKL.out)]at e2;have:=vm e2;have:=HVV.out;omega
   .rw[atKey_put_other hk2]at e2;have:0<=c2/\c2<=(V:Int):=GM.out.elim fun _ h=>h.elim fun _ h=>h.elim fun _ h=>h.elim fun _ h=>h.1.mb k2 c2 e2;omega)
  have dm:D m:=GM.out.elim fun _ h=>h.elim fun _ h=>h.elim fun _ h=>h.elim fun _ h=>h.1.dm;have hml:=HLT.out m dm;have hs3:w2.heap.size<=w3.heap.size:=hF3.size;have hp3:=(hF3.cC P2.out.drew aGl).cell 0;have ha3:=(hF3.cell (p:=⟨pc,0,none⟩) (by show pc<w2.heap.size;omega) (fun e=>hpc.2 (by have e:pc=m:=e;rw[e];exact dm))).trans HA2.out;have hb3:=hF3.own HB2.out.drew (fun b hb e=>hb0.2 (by have hb:some b0=some b:=hb;injection hb with hb;have e:b=m:=e;rw[hb,e];exact dm));have h1:=ahk (pc:=pc) d hD3 hp3 ha3 hb3 ⟨aGl,fun hx=>Or _ (HLT.out _ hx)⟩ ⟨aGl,hb0.2⟩ hm0 aGl ⟨aGl,aGl⟩ (fun x hx=>vp (hd x hx));rw[<-HVV.out]at h1;have F3:=Lib.hid hF3;have DM:=Lib.hid dm;clear hD3 hp3 ha3 hb3 hF3 hm3 hg3 hmp dm;refine h1.mono ?_;rintro e w4 ⟨rfl,⟨D4,h4,d4⟩,f4⟩;have H4:=Lib.hid h4;have D4':=Lib.hid d4;have F4:=Lib.hid f4;clear h1 h4 d4 f4
  go_wp2_with fail
  go_ret
  have f24:ak D W.drew w2.drew:=F2.out.drew;have f34:ak D W.drew w3:=f24.trans (F3.out.mono fun b hb=>by rw[hb];exact DM.out);refine⟨⟨v,rfl,by have:=HVV.out;omega,by have:=HVV.out;omega⟩,V+1,cs.length+m0+1,D4,H4.out.gd,aGl,pi _,aGl,pi _,fun b hb=>(D4'.out b hb).imp id fun hx=>aGl,?_⟩;exact(ak.cR HBW.out).trans ((ak.refl D W).drew.trans (f34.trans F4.out))
 .rw[hh]at hl;clear hh
  go_enter Tryz.func78,Tryz.ntmps78
  go_wp2_with fail
  rw[<-HW.out];clear HW
  go_region
  all_goals (
   go_wp2_with fail
   go_ret
   exact⟨⟨c,rfl,aGl,aGl⟩,V,cs.length,D,GM.out.gd.an (D':=fun _=>False) (ak.refl _ W).drew (fun _ _ h=>h),pi _,aGl,pi _,aGl,fun b hb=>.inl hb,(ak.cR HBW.out).drew⟩)
variable{x:Int}
theorem ahY{V:Nat}(h:gg V x=false):bK (V:Int) x=false:=by simp[gg]at h;simp[bK];omega
theorem ahE{V:Nat}(h:bK (V:Int) x=false)(hV:V<65536):-65536<=x/\x<=65536:=by simp[bK]at h;omega
theorem aix{w:World}{g V C k:Nat}{D:Nat->Prop}(h:GD w g V C D)(hC:C<998000)(hV:V<65536)(hR:Reads w B 1 A k (iv c))(hB:B<=w.heap.size)(hk:1<=k/\k<=900)(hc:∀i,i<k->-65536<=c.getD i 0/\c.getD i 0<=65536) :
  Calls Tryz.prog 145 #[.pointer (some ⟨g,0,none⟩),.slice A k cap] w fun e w'=>(∃r:Int,e=.returned (.int .i64 r)/\-65536<=r/\r<=65536)/\j6 w g V C 1 (k+1) D w':=by
 have hlt:∀b,D b->b<w.heap.size:=by obtain⟨_,_,_,_,_,_,_,h,_⟩:=h;exact h.lt
 have hck:c.length=k:=by have:=hR.1;rw[fX]at this;omega
 obtain⟨cs,f,m,rv,Df,n,M,hGB,hcs⟩:=id h;have hfi:=tF (cap:=cap) hGB hR hB aGl hc;have HH:=Lib.hid h;have HLT:=Lib.hid hlt;have HR:=Lib.hid hR;clear h hGB hR hlt hc hcs;obtain⟨ok,bw⟩:∃ok,ok = !(c.any (gg V)):=⟨_,rfl⟩;rw[<-bw]at hfi;rcases ok with _|_
 .clear bw
  go_enter Tryz.func145,Tryz.ntmps145
  go_wp2_with fail
  refine hfi.mono ?_;rintro e w1 ⟨rfl,hb1⟩;have HB1:=Lib.hid hb1;clear hfi hb1
  go_wp2_with fail
  go_ret
  exact⟨⟨0,rfl,aGl,aGl⟩,.same HH.out HB1.out⟩
 .have aU:∀x∈c,bK (V:Int) x=false:=fun x hx=>by
   have:c.any (gg V)=false:=by
    rcases hq:c.any (gg V)with _|_
    .rfl
    .rw[hq]at bw;cases bw
   have:=aFn.1 this x hx;exact ahY (by simpa using this)
  have HIN:=Lib.hid aU;clear bw aU
  go_enter Tryz.func145,Tryz.ntmps145
  go_wp2_with fail
  refine hfi.mono ?_;rintro e w1 ⟨rfl,hb1⟩;have hcl:=P8 w1 A k cap B c (HR.out.below (hb1.mono hB)) (rt hB hb1.size) aGl;have HB1:=Lib.hid hb1;clear hfi hb1
  go_wp2_with fail
  refine hcl.mono ?_;rintro e w2 ⟨v2,rfl,hb2,ho2⟩;obtain⟨b0,c0,rfl,hB0,hb0l⟩:=ho2.form aGl;obtain⟨W3,hW3⟩:∃W3,W3=w2.alloc (.cells #[.slice (some ⟨b0,0,none⟩) k c0] 22):=⟨_,rfl⟩;obtain⟨pc,hpc⟩:∃pc,pc=w2.heap.size:=⟨_,rfl⟩;have hb3:Below w2.heap.size w2 W3:=by rw[hW3];exact(Below.refl _ w2).alloc (pi _) _
  have hx3:af W3 pc 22 #[.slice (some ⟨b0,0,none⟩) k c0]:=by rw[hW3,hpc];exact af.new w2 _ _
  have ho3:W3.ownsRow w1.heap.size 3 1 (.slice (some ⟨b0,0,none⟩) k c0) k (iv c):=by rw[hW3];exact ho2.alloc _
  have hso:=ah3 c ho3 aGl;have s1:=HB1.out.size;have s2:=hb2.size;have hbp:b0≠pc:=aGl
  have hb0p:b0<pc:=aGl
  have hpw:w.heap.size<=pc:=aGl
  have hb0w:w.heap.size<=b0:=aGl
  have hpl:pc<W3.heap.size:=hx3.lt;have hbw:Below w.heap.size w W3:=HB1.out.trans ((hb2.trans (hb3.mono s2)).mono s1);have HX3:=Lib.hid hx3;have HW3:=Lib.hid hW3;have HPC:=Lib.hid hpc;have HBW:=Lib.hid hbw;clear hcl hb2 hb3 ho2 ho3 hx3 hW3 hpc hbw
  go_wp2_with fail
  rw[<-HW3.out,<-HPC.out];refine hso.mono ?_;rintro e w4 ⟨rfl,L4,hL4,ho4,f4⟩;have hx4:=f4.cC HX3.out (fun e=>hbp e.symm);have c4:=hx4.cell 0;have hco:=aex L4 ho4 aGl;have hbw4:=HBW.out.trans (f4.below (B:=w.heap.size) (by have:=HBW.out.size;omega) (fun b hb=>by have hb:b=b0:=hb;omega));have hs4:=f4.size;have HX4:=Lib.hid hx4;have HBW4:=Lib.hid hbw4;have HL4:=Lib.hid hL4;clear hso ho4 f4 hx4 hbw4 hL4 HX3
  go_wp2_with fail
  refine hco.mono ?_;rintro e w5 ⟨m5,d5,rfl,hm5,hd5,ho5,f5⟩;have hx5:=f5.cC HX4.out (fun e=>hbp e.symm);have hde:=aiq d5 ho5 aGl;have hbw5:=HBW4.out.trans (f5.below (B:=w.heap.size) (by have:=HBW4.out.size;omega) (fun b hb=>by have hb:b=b0:=hb;omega));have hs5:=f5.size;have HX5:=Lib.hid hx5;have HBW5:=Lib.hid hbw5;have HD5:=Lib.hid hd5;clear hco c4 ho5 f5 hx5 hbw5 hd5
  go_wp2_with fail
  refine hde.mono ?_;rintro e w6 ⟨m6,d6,rfl,hm6,hd6,ho6,f6⟩;have hx6:=f6.cC HX5.out (fun e=>hbp e.symm);have c6:=hx6.cell 0;have z6:=hx6.frozen 0;have hbw6:=HBW5.out.trans (f6.below (B:=w.heap.size) (by have:=HBW5.out.size;omega) (fun b hb=>by have hb:b=b0:=hb;omega));have hs6:=f6.size;obtain⟨W7,hW7⟩:∃W7,W7=w6.setCell ⟨pc,0,none⟩ (.slice (some ⟨b0,0,none⟩) m6 c0):=⟨_,rfl⟩;have hx7:af W7 pc 22 #[.slice (some ⟨b0,0,none⟩) m6 c0]:=by rw[hW7];have:=hx6.dL 0 (.slice (some ⟨b0,0,none⟩) m6 c0);simpa using this
  have ho7:W7.ownsRow w1.heap.size 3 1 (.slice (some ⟨b0,0,none⟩) m6 c0) m6 (iv d6):=by rw[hW7];exact jR ho6 (fun e=>hbp (by have e:some b0=some pc:=e;injection e))
  have hbw7:Below w.heap.size w W7:=by rw[hW7];exact hbw6.setCell (by show w.heap.size<=pc;omega) _
  have hs7:W7.heap.size=w6.heap.size:=by rw[hW7];simp[World.setCell]
  have c7:=hx7.cell 0;have h67:∀x∈d6,bK (V:Int) x=false:=fun x hx=>HIN.out x (HL4.out.mem_iff.1 (HD5.out x (hd6 x hx)));have hl6:d6.length=m6:=by have:=ho6.1;rw[fX]at this;omega
  have hcn:=ag6 c7 aGl ho7 aGl;have HX7:=Lib.hid hx7;have HO7:=Lib.hid ho7;have HBW7:=Lib.hid hbw7;have HW7:=Lib.hid hW7;have HD6:=Lib.hid h67;clear hde HX5 HX4 HL4 HD5 hd6 ho6 f6 hx6 hbw6 hx7 ho7 hbw7 hW7 h67
  go_wp2_with fail
  rw[<-HW7.out];clear HW7;refine hcn.mono ?_;rintro e w8 ⟨⟨ob,rfl⟩,q,rfl⟩;have hx8:=HX7.out.drewN q;have c8:=hx8.cell 0;have ho8:(W7.drewN q).ownsRow w1.heap.size 3 1 (.slice (some ⟨b0,0,none⟩) m6 c0) m6 (iv d6):=HO7.out;have hbw8:=below_drewN HBW7.out q;have hs8:(W7.drewN q).heap.size=W7.heap.size:=rfl;obtain⟨W8,hW8⟩:∃W8,W8=W7.drewN q:=⟨_,rfl⟩;rw[<-hW8]at hx8 c8 ho8 hbw8 hs8 |-;have HX8:=Lib.hid hx8;have HO8:=Lib.hid ho8;have HBW8:=Lib.hid hbw8;clear hcn hx8 ho8 hbw8 hW8 c7 c6 z6;rcases ob with _|_
  .by_cases h0:m6=0
   .subst h0
    go_wp2_with fail
    go_ret
    exact⟨⟨1,rfl,aGl,aGl⟩,.same HH.out HBW8.out⟩
   .have h0':((m6:Int) == 0)=false:=pu.2 aGl;by_cases h1:m6=1
    .subst h1;have hc0:=HO8.out.cellAt 0 aGl;rw[rF d6 0 aGl]at hc0;have hb:=ahE (HD6.out (d6.getD 0 0) (by rw[fq,bF aGl];exact EQ _)) hV;obtain⟨x,hx⟩:∃x,x=d6.getD 0 0:=⟨_,rfl⟩;rw[<-hx]at hc0 hb;clear hx h0
     go_wp2_with fail
     go_ret
     exact⟨⟨x,rfl,hb.1,hb.2⟩,.same HH.out HBW8.out⟩
    .have h1':((m6:Int) == 1)=false:=pu.2 aGl;have htx:=ah4 (c:=c0) (Reads.j5 HO8.out) (pi _) aGl;clear h0 h1
     go_wp2_with fail
     refine htx.mono ?_;rintro e w9 ⟨⟨str,rfl,hstr⟩,hb9⟩;have hx9:=HX8.out.below hb9 HX8.out.lt;have ho9:=(ak.cR (D:=fun _=>False) hb9).own HO8.out (fun _ _ h=>h);have hbw9:=HBW8.out.trans (hb9.mono aGl);have hga:=agf (pc:=pc) d6 str hstr (HH.out.below hbw9) (by simpa using hx9.cell 0) ho9 ⟨hx9.lt,fun h=>by have:=HLT.out _ h;omega⟩ ⟨by have:=hb9.size;omega,fun h=>by have:=HLT.out _ h;omega⟩ aGl hC hV HD6.out;have HBW9:=Lib.hid hbw9;clear htx hx9 ho9 hb9 hbw9 c8
     go_wp2_with fail
     refine hga.mono ?_;rintro e w10 ⟨⟨r,rfl,hr1,hr2⟩,hm⟩;have HM:=Lib.hid hm;clear hga hm
     go_wp2_with fail
     go_ret
     obtain⟨V',C',D',a1,a2,a3,a4,a5,a6⟩:=HM.out;exact⟨⟨r,rfl,hr1,hr2⟩,.pre HBW9.out ⟨V',C',D',a1,a2,a3,a4,aGl,a6⟩⟩
  .go_wp2_with fail
   go_ret
   exact⟨⟨-1,rfl,aGl,aGl⟩,.same HH.out HBW8.out⟩
section
variable{w w':World}{D D':Nat->Prop}{a:lc}{l:io}
theorem cD.reads(h:cD w D a l):Reads w w.heap.size 1 a l.length (iv l):=by
 refine⟨by simp[fX],fun hn=>?_⟩;obtain⟨b,off,rfl,hD,hb,hc⟩:=h 0 hn;refine⟨⟨b,off,none⟩,rfl,hb,fun j u hu=>?_⟩;have hj:j<l.length:=by
  rcases ww j l.length with h|h
  .exact h
  .rw[BT (by rw[fX];exact h)]at hu;cases hu
 obtain⟨b',off',e,_,_,hcj⟩:=h j hj;injection e with e;injection e with e1 e2;subst e1 e2;rw[rF l j hj]at hu;rw[<-hu,<-hcj];unfold Addr.add;split
 .rename_i h0;subst h0;rfl
 .rfl
theorem cD.sub(h:cD w D a l)(hd:∀b,D' b->D b):cD w D' a l:=fun j hj=>by obtain⟨b,off,e,h1,h2,h3⟩:=h j hj;exact⟨b,off,e,fun hx=>h1 (hd b hx),h2,h3⟩
theorem cD.j5{n c:Nat}(h:w.ownsRow B 3 1 (.slice a n c) n (iv l))(hD:∀b,(Value.slice a n c).ownBlock=some b->¬D b):cD w D a l:=fun j hj=>by
 have hn:l.length=n:=by have:=h.1;rw[fX]at this;omega
 obtain⟨b,c',hv,_,hl⟩:=h.form aGl;injection hv with hv1 hv2 hv3;subst hv1 hv3;exact⟨b,0,rfl,hD b rfl,hl,by rw[aFm,h.cellAt j aGl,rF l j hj]⟩
end
def gV(l:io):Prop:=∀x∈l,-65536<=x/\x<=65536
theorem gV.at{l:io}(h:gV l){i:Nat}(hi:i<l.length):-65536<=l.getD i 0/\l.getD i 0<=65536:=by rw[fq,bF hi];exact h _ (EQ _)
variable{ca:Nat}{A1:lc}{A2:lc}{cb:Nat}
theorem agd{w:World}{g V C:Nat}{D:Nat->Prop}{a b:io}(h:GD w g V C D)(n:Nat)(hn:1<=n/\n<=900)(hC:C+5*n<998000)(hV:V+n<65536)(ha:cD w D A1 a)(hb:cD w D A2 b)(la:a.length=n)(lb:b.length=n)(ba:gV a)(bb:gV b) :
  Calls Tryz.prog 109 #[.pointer (some ⟨g,0,none⟩),.slice A1 n ca,.slice A2 n cb] w fun e w'=>(∃r:Int,e=.returned (.int .i64 r)/\-65536<=r/\r<=65536)/\j6 w g V C (n+1) (5*n+1) D w':=by
 have hlt:∀b,D b->b<w.heap.size:=by obtain⟨_,_,_,_,_,_,_,h,_⟩:=h;exact h.lt
 have hra:=ha.reads;rw[la]at hra;obtain⟨cs,f,m,rv,Df,n0,M,hGB,hcs⟩:=id h;have hfa:=tF (cap:=ca) hGB hra (pi _) aGl (fun i hi=>ba.at aGl);have HH:=Lib.hid h;have HLT:=Lib.hid hlt;have HA:=Lib.hid ha;have HB:=Lib.hid hb;obtain⟨ok1,hok1⟩:∃ok,ok = !(a.any (gg V)):=⟨_,rfl⟩;rw[<-hok1]at hfa;have hnn:((n:Int) != (n:Int))=false:=aGn
 clear h hGB hra hlt hcs ha hb hok1;rcases ok1 with _|_
 .go_enter Tryz.func109,Tryz.ntmps109
  go_wp2_with fail
  refine hfa.mono ?_;rintro e w1 ⟨rfl,hb1⟩;have HB1:=Lib.hid hb1;clear hfa hb1
  go_wp2_with fail
  go_ret
  exact⟨⟨0,rfl,aGl,aGl⟩,.same HH.out HB1.out⟩
 .go_enter Tryz.func109,Tryz.ntmps109
  go_wp2_with fail
  refine hfa.mono ?_;rintro e w1 ⟨rfl,hb1⟩;have h1:=HH.out.below hb1;have hb2:=HB.out.an (ak.cR (D:=D) hb1) (fun b hb=>.inl hb);have hrb:=hb2.reads;rw[lb]at hrb;obtain⟨cs,f,m,rv,Df,n0,M,hGB,hcs⟩:=id h1;have hfb:=tF (cap:=cb) hGB hrb (pi _) aGl (fun i hi=>bb.at aGl);obtain⟨ok2,hok2⟩:∃ok,ok = !(b.any (gg V)):=⟨_,rfl⟩;rw[<-hok2]at hfb;have HB1:=Lib.hid hb1;clear hfa hb1 h1 hb2 hrb hGB hcs hok2;rcases ok2 with _|_
  .go_wp2_with fail
   refine hfb.mono ?_;rintro e w2 ⟨rfl,hb2⟩;have HB2:=Lib.hid hb2;clear hfb hb2
   go_wp2_with fail
   go_ret
   exact⟨⟨0,rfl,aGl,aGl⟩,.same HH.out (HB1.out.trans (HB2.out.mono HB1.out.size))⟩
  .go_wp2_with fail
   refine hfb.mono ?_;rintro e w2 ⟨rfl,hb2⟩;have hbw:=HB1.out.trans (hb2.mono HB1.out.size);have HBW:=Lib.hid hbw;clear hfb hb2 hbw
   go_wp2_with fail
   go_loopw [7,28] (fun v i wr=>∃(j V' C':Nat) (D':Nat->Prop) (L:io),j<=n/\i=.int .i64 j/\Hid (GD wr g V' C' D'/\V'<=V+j/\C'<=C+4*j/\V<=V'/\C<=C'/\(∀b,D' b->D b\/w.heap.size<=b)/\ak D w wr/\wr.ownsRow w.heap.size 3 1 v j (iv L)/\gV L/\∀b,v.ownBlock=some b->¬D' b)) (fun _ i _=>n-(intOf i).toNat)
   case atStart=>exact⟨0,V,C,D,[],AI _,rfl,Lib.hid ⟨HH.out.below HBW.out,pi _,pi _,pi _,pi _,fun b hb=>.inl hb,.cR HBW.out,World.ownsRow_nil _ _ _ _,fun x hx=>absurd hx aGn,fun b hb=>by cases hb⟩⟩
   case round=>
    obtain⟨j,V',C',D',L,hj,rfl,hI⟩:=hrel;by_cases hlt:j<n
    .obtain⟨h1,i1,i2,i3,i4,i5,i6,i7,i8,i9⟩:=hI.out;obtain⟨b1,o1,rfl,_,_,hc1⟩:=(HA.out.an i6 i5) j aGl;obtain⟨b2,o2,rfl,_,_,hc2⟩:=(HB.out.an i6 i5) j aGl;have l1:=ba.at (i:=j) aGl;have l2:=bb.at (i:=j) aGl;obtain⟨x,hx⟩:∃x,x=a.getD j 0:=⟨_,rfl⟩;obtain⟨y,hy⟩:∃y,y=b.getD j 0:=⟨_,rfl⟩;rw[<-hx]at hc1 l1;rw[<-hy]at hc2 l2;have hc1:wr.drew.cell? ⟨b1,o1+j,none⟩=some (.int .i64 x):=hc1;have hc2:wr.drew.cell? ⟨b2,o2+j,none⟩=some (.int .i64 y):=hc2;have hX:=aiz x y (h1.below (Below.refl _ wr).drew) aGl aGl l1 l2;obtain⟨A3,c3,hv,_,_,_⟩:=eo i7;subst hv;have HX:=Lib.hid hX;have I7:=Lib.hid (show wr.drew.ownsRow _ _ _ _ _ _ from i7);have I9:=Lib.hid i9;have I6:=Lib.hid i6;have I5:=Lib.hid i5;have I8:=Lib.hid i8;have HWL:Hid (∀b,D' b->b<wr.heap.size):=Lib.hid (by obtain⟨_,_,_,_,_,_,_,h,_⟩:=h1;exact h.lt);clear hI h1 i5 i6 i7 i8 i9 hX hx hy
     go_wp2_with fail
     go_region_law (first
      |(go_simp;go_at_call 144;refine HX.out.mono ?_;rintro e w3 ⟨⟨r,rfl,r1,r2⟩,V3,C3,D3,g3,v1,v2,u1,u2,d3,f3⟩;have hn3:=IntWalk.i64_in (-r) ⟨aGl,aGl⟩;have how:=f3.own I7.out I9.out;have HOW:=Lib.hid how;have G3:=Lib.hid g3;have D3':=Lib.hid d3;have F3:=Lib.hid f3;clear how g3 d3 f3)
      |(refine zw w3 rfl _ _ 22 rfl w.heap.size 3 (.int .i64 0) 8 Tryz.underlying22 ka rfl aGl (.slice A3 j c3) j (iv L) rfl HOW.out (.int .i64 (-r)) rfl _ rfl rfl aGl (rt I6.out.size F3.out.size) ?_;intro v4 w4 hown4 hg4 hat4;have HG4:=Lib.hid hg4;have HO4:=Lib.hid hown4;have HA4:=Lib.hid hat4;clear hg4 hown4 hat4))
     all_goals (
      go_wp2_with fail
      go_roundw
      case rel=>
       have hne:∀b,D3 b->¬(Value.slice A3 j c3).ownBlock=some b:=fun b hb hx=>(D3'.out b hb).elim (I9.out b hx) fun hy=>by have:=(I7.out.lt b hx).2;have hy:wr.drew.heap.size<=b:=hy;omega
       have hf4:ak (fun b=>(Value.slice A3 j c3).ownBlock=some b) w3 w4:=(ak.refl _ w3).grown HG4.out fun b hb=>hb;have hs6:=I6.out.size;have hs3:wr.heap.size<=w3.heap.size:=F3.out.size;have g4:GD w4 g V3 C3 D3:=G3.out.an hf4 hne;refine⟨j+1,V3,C3,D3,L++[-r],aGl,by go_num,Lib.hid ⟨g4,aGl,aGl,aGl,aGl,fun b hb=>(D3'.out b hb).elim (I5.out b) fun hx=>.inr (rt hs6 hx),?_,by rw[oO];exact HO4.out,?_,?_⟩⟩
       .exact((I6.out.drew).after F3.out I5.out).after hf4 fun b hb=>.inr (I7.out.lt b hb).1
       .intro z hz;rcases At.1 hz with hz|hz
        .exact I8.out z hz
        .obtain rfl:=OF.1 hz;omega
       .intro b hb hx;rcases HA4.out with hA|hA
        .exact hne b hx (hA▸hb)
        .rw[hA]at hb;injection hb with hb;have:b<w3.heap.size:=by obtain⟨_,_,_,_,_,_,_,h,_⟩:=G3.out;exact h.lt b hx
         omega
      case measure=>simp[intOf];omega)
    .obtain rfl:j=n:=aGl
     obtain⟨h1,i1,i2,i3,i4,i5,i6,i7,i8,i9⟩:=hI.out;obtain⟨A3,c3,hv,_,_,hr⟩:=eo i7;subst hv;have hl:L.length=j:=by have:=i7.1;rw[fX]at this;omega
     have hga:=aix (cap:=c3) h1 aGl aGl hr (pi _) aGl (fun i hi=>i8.at aGl);have I5:=Lib.hid i5;have I6:=Lib.hid i6;clear hI h1 hr i5 i6 i7 i8 i9
     go_wp2_with fail
     refine hga.mono ?_;rintro e w5 ⟨⟨r,rfl,r1,r2⟩,hm⟩;have HM:=Lib.hid hm;clear hga hm
     go_wp2_with fail
     go_ret
     obtain⟨V3,C3,D3,g3,v1,v2,u1,u2,d3,f3⟩:=HM.out;have hs6:=I6.out.size;exact⟨⟨r,rfl,r1,r2⟩,V3,C3,D3,g3,aGl,aGl,aGl,aGl,fun b hb=>(d3 b hb).elim (I5.out b) fun hx=>.inr (rt hs6 hx),I6.out.after f3 I5.out⟩
open Pl
theorem cD.below{w w':World}{D:Nat->Prop}{a:lc}{l:io}(h:cD w D a l)(hb:Below w.heap.size w w'):cD w' D a l:=h.an (D:=D) (ak.cR hb) fun b h=>.inl h
variable{D2:Nat->Prop}
theorem ah5{w:World}{V t k:Nat}{D:Nat->Prop}{l:io}(h:TW w V t k D)(hR:cD w D2 A l)(hl:∀x∈l,x<=9223372036854775807)(n:Nat)(hn:l.length=n)(hn2:n<=900)(frame:Int) :
  Calls Tryz.prog 108 #[.pointer (some ⟨t,0,none⟩),.int .i64 frame,.slice A n cap] w fun e w'=>∃A' c' r,e=.returned (.slice A' n c')/\w'.ownsRow w.heap.size 3 1 (.slice A' n c') n (iv r)/\gV r/\Below w.heap.size w w':=by
 have HH:=Lib.hid h;have HR:=Lib.hid hR;have HL:=Lib.hid hl;clear h hR hl
 go_enter Tryz.func108,Tryz.ntmps108
 go_wp2_with fail
 go_loopw [6,16] (fun v i wr=>∃(j:Nat) (L:io),j<=n/\i=.int .i64 j/\Hid (Below w.heap.size w wr/\wr.ownsRow w.heap.size 3 1 v j (iv L)/\gV L)) (fun _ i _=>n-(intOf i).toNat)
 case atStart=>exact⟨0,[],AI _,rfl,Lib.hid ⟨Below.refl _ _,World.ownsRow_nil _ _ _ _,fun x hx=>absurd hx aGn⟩⟩
 case round=>
  obtain⟨j,L,hj,rfl,hI⟩:=hrel;obtain⟨A3,c3,hv,_,_,_⟩:=eo hI.out.2.1;subst hv;by_cases hlt:j<n
  .obtain⟨b,off,rfl,_,_,hc⟩:=(HR.out.below hI.out.1) j aGl;have hx:=HL.out (l.getD j 0) (by rw[fq,bF aGl];exact EQ _);generalize l.getD j 0=x at hc hx;obtain⟨r,hr,hli⟩:=Uw (HH.out.an (ak.cR (D:=fun _=>False) hI.out.1) (fun _ _ h=>h)) frame x hx;have hli:=hli 0;rw[World.drewN_zero]at hli
   go_wp2_with fail
   refine hli.mono ?_;rintro e w2 ⟨rfl,q,rfl⟩;obtain⟨W2,hW2⟩:∃W2,W2=wr.drewN q:=⟨_,rfl⟩;have hb2:Below w.heap.size w W2:=by rw[hW2];exact below_drewN hI.out.1 q
   have ho2:W2.ownsRow w.heap.size 3 1 (.slice A3 j c3) j (iv L):=by rw[hW2];exact hI.out.2.1
   rw[<-hW2];have HB2:=Lib.hid hb2;have HO2:=Lib.hid ho2;clear hli hb2 ho2 hW2
   go_wp2_with (at_builtin;refine oM _ rfl _ _ 22 rfl w.heap.size 3 (.int .i64 0) 8 Tryz.underlying22 ka rfl aGl _ _ _ rfl HO2.out (.int .i64 r) rfl _ rfl rfl aGl HB2.out.size ?_;intro v3 w3 hown3 hg3 _;have HG3:=Lib.hid hg3;have HO3:=Lib.hid hown3;clear hg3 hown3)
   go_roundw
   case rel=>
    refine⟨j+1,L++[r],aGl,by go_num,Lib.hid ⟨HB2.out.grown HG3.out HB2.out.size fun b hb=>(HO2.out.lt b hb).1,by rw[oO];exact HO3.out,fun z hz=>?_⟩⟩;rcases At.1 hz with hz|hz
    .exact hI.out.2.2 z hz
    .obtain rfl:=OF.1 hz;exact hr
   case measure=>simp[intOf];omega
  .obtain rfl:j=n:=aGl
   go_wp2_with fail
   go_ret
   exact⟨A3,c3,L,rfl,hI.out.2.1,hI.out.2.2,hI.out.1⟩
section
variable{w:World}{p:UP}{k V C:Nat}{D:Nat->Prop}
theorem Uy{l:io}(h:US w p k V C D)(hR:cD w D2 A l)(hl:∀x∈l,x<=9223372036854775807)(n:Nat)(hn:l.length=n)(hn2:n<=900)(frame:Int) :
  Calls Tryz.prog 80 #[.pointer (some ⟨p.u,0,none⟩),.int .i64 frame,.slice A n cap] w fun e w'=>∃A' c' r,e=.returned (.slice A' n c')/\w'.ownsRow w.heap.size 3 1 (.slice A' n c') n (iv r)/\gV r/\Below w.heap.size w w':=by
 have c0:=h.c0;obtain⟨Dt,Dg,h⟩:=h;have h1:=ah5 (cap:=cap) h.tb hR hl n hn hn2 frame;clear h hR hl
 go_enter Tryz.func80,Tryz.ntmps80
 go_wp2_with fail
 refine h1.mono ?_;rintro e w' ⟨A',c',r,rfl,h1,h2,h3⟩;have H1:=Lib.hid h1;have H2:=Lib.hid h2;have H3:=Lib.hid h3;clear h1 h2 h3
 go_wp2_with fail
 go_ret
 exact⟨A',c',r,rfl,H1.out,H2.out,H3.out⟩
theorem adr{a b:Int}(h:US w p k V C D)(hC:C<999990)(hV:V<65536)(ha:-65536<=a/\a<=65536)(hb:-65536<=b/\b<=65536) :
  Calls Tryz.prog 42 #[.pointer (some ⟨p.g,0,none⟩),.int .i64 a,.int .i64 b] w fun e w'=>(∃r:Int,e=.returned (.int .i64 r)/\-65536<=r/\r<=65536)/\cL w p k V C 1 3 D w':=by
 obtain⟨Dt,Dg,h⟩:=h;refine(QU a b h.gs hC hV ha hb).mono ?_;rintro e w' ⟨hr,h1⟩;exact⟨hr,h.yr h1⟩
theorem ah8{a b:io}(h:US w p k V C D)(n:Nat)(hn:1<=n/\n<=900)(hC:C+5*n<998000)(hV:V+n<65536)(ha:cD w D A1 a)(hb:cD w D A2 b)(la:a.length=n)(lb:b.length=n)(ba:gV a)(bb:gV b) :
  Calls Tryz.prog 109 #[.pointer (some ⟨p.g,0,none⟩),.slice A1 n ca,.slice A2 n cb] w fun e w'=>(∃r:Int,e=.returned (.int .i64 r)/\-65536<=r/\r<=65536)/\cL w p k V C (n+1) (5*n+1) D w':=by
 obtain⟨Dt,Dg,h⟩:=h;refine(agd (ca:=ca) (cb:=cb) h.gs n hn hC hV (ha.sub h.sg) (hb.sub h.sg) la lb ba bb).mono ?_;rintro e w' ⟨hr,h1⟩;exact⟨hr,h.yr h1⟩
theorem Uz{n:Nat}(h:US w p k V C D)(hC:C<999990)(hR:Reads w B 1 A n (iv c))(hB:B<=w.heap.size)(hk:n<=1000)(hc:∀i,i<n->-65536<=c.getD i 0/\c.getD i 0<=65536) :
  Calls Tryz.prog 111 #[.pointer (some ⟨p.g,0,none⟩),.slice A n cap] w fun e w'=>e=.returned (.tuple #[])/\cL w p k V C 0 1 D w':=by
 obtain⟨Dt,Dg,h⟩:=h;refine(ahn (cap:=cap) h.gs hC hR hB hk hc).mono ?_;rintro e w' ⟨hr,h1⟩;exact⟨hr,h.yr h1⟩
theorem vQ(h:US w p k V C D):Calls Tryz.prog 76 #[.pointer (some ⟨p.g,0,none⟩)] w fun e w'=>e=.returned (.int .i64 1)/\w=w':=by obtain⟨Dt,Dg,h⟩:=h;exact Qy h.gs
