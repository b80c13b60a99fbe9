import Derived.Test.YtmkbdfidnfmgmaaGreatWRa
import Derived.Test.YtmkbdfidnfmgmaaGreatWNb
import Derived.Deep.RegionLawGrows
import Derived.Deep.DeepCutAuto
set_option linter.all false
section
namespace Go.Proofs.YtmkbdfidnfmgmaaGreat
open Go.RowKit Go.Shelf Pl
attribute [local go_sem] Oper.semAt_some
def Obj.vT:Obj->Bool
 |.cells _ t _=>!(t == 3)&&!(t == 22)|_=>true
structure gO(avB B:Nat)(W W':World):Prop where
 below:Below avB W W'
 eK:∀(i:Nat) (o:Obj),B<=i->W.heap[i]?=some o->o.isCells=true->Obj.vT o=true->W'.heap[i]?=some o
theorem gO.refl(avB B:Nat)(W:World):gO avB B W W:=⟨Below.refl _ _,fun _ _ _ h _ _=>h⟩
variable{avB:Nat}
theorem gO.trans{B:Nat}{A C D:World}(h:gO avB B A C)(k:gO avB B C D):gO avB B A D:=⟨h.below.trans k.below,fun i o hi hA ho hq=>k.eK i o hi (h.eK i o hi hA ho hq) ho hq⟩
variable{W:World}{W':World}
theorem gO.alloc{B:Nat}(h:gO avB B W W')(hn:avB<=W'.heap.size)(o:Obj):gO avB B W (W'.alloc o):=⟨h.below.alloc hn o,fun i o' hi hW ho hq=>by have h1:=h.eK i o' hi hW ho hq;exact(Below.heap_alloc W' o i (asf.1 h1).1).trans h1⟩
variable{w:World}
theorem al6{B:Nat}(hn:avB<=w.heap.size)(W:World)(l:Nat)(o o':Obj)(hl:w.heap.size<=l)(h:W.heap[l]?=some o)(hc:o.isCells=false)(hw:o.isWalk=false):gO avB B W (W.putObj l o'):=
 ⟨belowK_b hn W l o o' hl h hc hw,fun i o2 hi hW ho _=>by
  by_cases e:i=l
  .subst e;rw[h]at hW;injection hW with hW;subst hW;rw[hc]at ho;cases ho
  .exact(World.putObj_heap_other atO).trans hW⟩
theorem bg.A8{B g:Nat}{t:TypeId}{cs:Array Value}(h:bg W g t cs)(k:gO avB B W W')(hg:B<=g)(ht:(!(t == 3)&&!(t == 22))=true):bg W' g t cs:=k.eK g _ hg h rfl ht
set_option maxRecDepth 100000
set_option maxHeartbeats 4000000
theorem aip(F:Fence)(n:Nat)(hF:F.fn 191)(hro:F.round=none)(hn:1<=n)(l Bx avB B:Nat)(N:aT)(J Jx:jp->World->Prop)(W:World)
  (hJ:∀(s:jp) (A:World) (o:Obj),J s A->J s (A.alloc o))
  (hY:∀pre x W1,J pre W1->pre.length<(aX N.d).length->YieldAt F (n-1) Tryz.prog l #[.int .i64 x] W1 fun e W'=>(e=.returned (.bool true)/\J (pre++[x]) W'/\gO avB B W1 W')\/(e=.returned (.bool false)/\Jx (pre++[x]) W'))
  (hBx:bg W Bx 27 N.fs) (hBl:B<=Bx) (hok:N.cY W avB) (hn0:avB<=W.heap.size) (hBW:B<=W.heap.size) (h0:J [] W) (ft:Fit N.d) :
  CallsIn F n Tryz.prog 191 #[.func (.yield l) #[] #[],.pointer (some ⟨Bx,0,none⟩)] W fun e W'=>(∃v,e=.returned v) /\
   ((∃ys,ys=aX N.d/\J ys W')\/(∃pre,pre <+: aX N.d/\Jx pre W')):=by
 have HJ:=Lib.hid hJ;have HY:=Lib.hid hY;have HB:=Lib.hid hBx;have HOK:=Lib.hid hok;have hl1:N.al.length<=4000:=ft.ins.1;have hl2:N.ag.length<=4000:=ft.aJ.1;have hl3:N.aj.length<=4000:=ft.aj.1;have hl4:N.ae.length<=100:=by have:=ft.ae.1;simpa[aT.d]using this
 have HMF:=Lib.hid (ft.ae.2);have hf1:W.cell? ⟨Bx,1,none⟩=some (.slice N.Ai N.al.length N.ci):=hBx.cell 1;clear hJ hY hok ft hBx;refine callsIn_of_wp Tryz.func191 rfl hF ?_ hro;simp only[Tryz.ntmps191,atp,di,IT,Nat.reduceAdd,Nat.reduceSub,ata,atb,atq,atg,UV,arM]
 gi_wp2
 gi_loopw [17] (fun i wr=>∃k:Nat,k<=N.al.length/\i=.int .i64 k/\J (N.al.take k) wr/\gO avB B W wr) (fun i _=>N.al.length-(intOf i).toNat)
 case atStart=>exact⟨0,GT _,rfl,by simpa using h0,gO.refl _ _ _⟩
 case round=>
  obtain⟨k,hk,rfl,hJs,hkp⟩:=hrel;by_cases hlt:k<N.al.length
  .obtain⟨b,off,x,e1,hb,hx,hm,hc⟩:=(HOK.out.below hkp.below).ins.qO hlt;have hp:=Ze hx;obtain⟨fn,tmps,assign,body,hy,hR⟩:=HY.out (N.al.take k) x wr hJs (tC hp);have HX:=Lib.hid hx;have HP:=Lib.hid hp;have HE1:=Lib.hid e1;clear hx hp hm;rw[e1];clear e1
   gi_wp2
   refine hR.mono ?_;rintro e W3 (⟨rfl,hJ3,hk3⟩|⟨rfl,hJx3⟩)
   .gi_wp2
    go_roundw
    case rel=>exact⟨k+1,atO,atQ,by rw[eE HX.out];exact hJ3,hkp.trans hk3⟩
    case measure=>simp[intOf];omega
   .gi_wp2
    refine bodyPost_ret (results_none rfl _ _ _) rfl ?_;exact⟨⟨_,rfl⟩,.inr ⟨_,HP.out,hJx3⟩⟩
  .rw[YH atO]at hJs;have hf2:wr.cell? ⟨Bx,2,none⟩=some (.slice N.Al N.ag.length N.cl):=(HB.out.A8 hkp hBl atS).cell 2
   gi_wp2
   obtain⟨w1,rfl⟩:∃w1:World,w1=wr:=⟨_,rfl⟩;clear hf2 hlt hk
   gi_loopw [29] (fun i wr=>∃k:Nat,k<=N.ag.length/\i=.int .i64 k/\J (v2 N k) wr/\gO avB B W wr) (fun i _=>N.ag.length-(intOf i).toNat)
   case atStart=>exact⟨0,GT _,rfl,hJs,hkp⟩
   case round=>
    clear hJs hkp;obtain⟨k,hk,rfl,hJs,hkp⟩:=hrel;have hsz:=hkp.below.size;by_cases hlt:k<N.ag.length
    .obtain⟨b,off,x,e1,hb,hx,hm,hcs⟩:=(HOK.out.below hkp.below).aJ.elem atO (fun _=>rfl) hlt;obtain⟨hc0,hc1,hc2⟩:=dJ.at_ hcs;have hp:=Zf hx;obtain⟨fn,tmps,assign,body,hy,hR⟩:=HY.out (v2 N k) x.var (wr.alloc (.cells #[.int .i64 x.var,.int .i64 x.next,.int .i64 x.init] 78)) (HJ.out _ _ _ hJs) (tC hp);have HX:=Lib.hid hx;have HP:=Lib.hid hp;clear hx hp hm hcs;rw[e1];clear e1
     gi_wp2
     refine hR.mono ?_;rintro e W3 (⟨rfl,hJ3,hk3⟩|⟨rfl,hJx3⟩)
     .gi_wp2
      go_roundw
      case rel=>exact⟨k+1,atO,atQ,by rw[NZ HX.out];exact hJ3,(hkp.alloc atO _).trans hk3⟩
      case measure=>simp[intOf];omega
     .gi_wp2
      refine bodyPost_ret (results_none rfl _ _ _) rfl ?_;exact⟨⟨_,rfl⟩,.inr ⟨_,HP.out,hJx3⟩⟩
    .rw[aa2 atO]at hJs;have hf3:wr.cell? ⟨Bx,6,none⟩=some (.slice N.Am N.ae.length N.cm):=(HB.out.A8 hkp hBl atS).cell 6
     gi_wp2
     obtain⟨w2,rfl⟩:∃w2:World,w2=wr:=⟨_,rfl⟩;clear hf3 hlt hk hsz
     gi_loopw [42] (fun i wr=>∃k:Nat,k<=N.ae.length/\i=.int .i64 k/\J (v3 N k) wr/\gO avB B W wr) (fun i _=>N.ae.length-(intOf i).toNat)
     case atStart=>exact⟨0,GT _,rfl,hJs,hkp⟩
     case round=>
      clear hJs hkp;obtain⟨k,hk,rfl,hJs,hkp⟩:=hrel;have hsz:=hkp.below.size;by_cases hlt:k<N.ae.length
      .obtain⟨b,off,m,e1,hb,hx,hm,hcs⟩:=(HOK.out.below hkp.below).mem.elem atO (fun _=>rfl) hlt;obtain⟨hc0,hc1,hc2,hc3,hc4⟩:=aL.at_ hcs;have HX:=Lib.hid hx;have HM:=Lib.hid (HOK.out.kZ m hm);have hfm:=HMF.out m.d (AI hm);have hrn:m.reads.length<=100:=by have:=hfm.nH;simpa[aL.d]using this
       have hw1:m.word<=4000:=hfm.word.2;have hw0:-9223372036854775808<=m.word:=hfm.word.1.1;have HRF:=Lib.hid hfm.ig;clear hx hm hcs hfm;rw[e1];clear e1
       gi_wp2
       obtain⟨c,hc⟩:∃c,c=wr.heap.size:=⟨_,rfl⟩;have hkp2:=hkp.alloc (show avB<=wr.heap.size by omega) (.cells m.cells.toArray 97);have hJ2:=HJ.out _ _ (.cells m.cells.toArray 97) hJs;have hbk:=bg.new wr 97 m.cells.toArray;have hcB:B<=c:=atO
       rw[<-hc]at hbk |-;rw[<-aa0 (m:=m)]at hJ2;clear hc hJs hkp hc0 hc1 hc2 hc3 hc4;change Code.wpIn _ _ _ _ _ _ (wr.alloc (.cells m.cells.toArray 97));obtain⟨w3,hw3⟩:∃w3:World,w3=wr.alloc (.cells m.cells.toArray 97):=⟨_,rfl⟩;rw[<-hw3]at hkp2 hJ2 hbk |-;clear hw3 hsz
       gi_loopw [49] (fun i wr=>∃j:Nat,j<=m.reads.length/\i=.int .i64 j/\J (v4 N k m j) wr/\gO avB B W wr/\bg wr c 97 m.cells.toArray) (fun i _=>m.reads.length-(intOf i).toNat)
       case atStart=>exact⟨0,GT _,rfl,hJ2,hkp2,hbk⟩
       case round=>
        clear hJ2 hkp2 hbk;obtain⟨j,hj,rfl,hJs,hkp,hbk⟩:=hrel;have hsz:=hkp.below.size;by_cases hlt2:j<m.reads.length
        .obtain⟨b2,off2,r,e1,hb2,hx2,hm2,hcs⟩:=(HM.out.below hkp.below).rd.elem atO (fun _=>rfl) hlt2;obtain⟨hc0,hc1⟩:=bF.at_ hcs;have HX2:=Lib.hid hx2;obtain⟨_,hv1,hv2,_⟩:=HRF.out r.d (AI hm2);change -1099511627776<=r.var at hv1;change r.var<=1099511627776 at hv2;have hcw:wr.cell? ⟨c,1,none⟩=some (.int .i64 m.word):=hbk.cell 1;have hcl:c<wr.heap.size:=hbk.lt;clear hx2 hm2 hcs;rw[e1];clear e1
         gi_wp2
         obtain⟨d,hd⟩:∃d,d=wr.heap.size:=⟨_,rfl⟩;have hkp2:=hkp.alloc (show avB<=wr.heap.size by omega) (.cells r.cells.toArray 148);have hJ2:=HJ.out _ _ (.cells r.cells.toArray 148) hJs;have hbk2:=bg.new wr 148 r.cells.toArray;have hbk1:=hbk.alloc (.cells r.cells.toArray 148);have hdB:B<=d:=atO
         rw[<-hd]at hbk2 |-;rw[<-YK (r:=r)]at hJ2;clear hd hJs hkp hbk hc0 hc1 hcw;change Code.wpIn _ _ _ _ _ _ (wr.alloc (.cells r.cells.toArray 148));obtain⟨w4,hw4⟩:∃w4:World,w4=wr.alloc (.cells r.cells.toArray 148):=⟨_,rfl⟩;rw[<-hw4]at hkp2 hJ2 hbk2 hbk1 |-;clear hw4 hsz hcl
         gi_loopw [55] (fun i wr=>∃q:Nat,q<=m.word.toNat/\i=.int .i64 q/\J (v5 N k m j r q) wr/\gO avB B W wr/\bg wr c 97 m.cells.toArray/\bg wr d 148 r.cells.toArray) (fun i _=>m.word.toNat-(intOf i).toNat)
         case atStart=>exact⟨0,GT _,rfl,hJ2,hkp2,hbk1,hbk2⟩
         case round=>
          clear hJ2 hkp2 hbk1 hbk2;obtain⟨q,hq,rfl,hJs,hkp,hbk1,hbk2⟩:=hrel;by_cases hlt3:(q:Int)<m.word
          .have hp:=Zg (i:=q) HX.out HX2.out atO;obtain⟨fn,tmps,assign,body,hy,hR⟩:=HY.out (v5 N k m j r q) (r.var+(q:Int)) wr hJs (tC hp);have HP:=Lib.hid hp;have hcv:wr.cell? ⟨d,0,none⟩=some (.int .i64 r.var):=hbk2.cell 0;clear hp
           gi_wp2
           refine hR.mono ?_;rintro e W3 (⟨rfl,hJ3,hk3⟩|⟨rfl,hJx3⟩)
           .gi_wp2
            go_roundw
            case rel=>exact⟨q+1,atO,atQ,by rw[YJ];exact hJ3,hkp.trans hk3,hbk1.A8 hk3 hcB atS,hbk2.A8 hk3 hdB atS⟩
            case measure=>simp[intOf];omega
           .gi_wp2
            refine bodyPost_ret (results_none rfl _ _ _) rfl ?_;exact⟨⟨_,rfl⟩,.inr ⟨_,HP.out,hJx3⟩⟩
          .obtain rfl:q=m.word.toNat:=atO
           rw[YI HX2.out]at hJs
           gi_wp2
           go_roundw
           case rel=>exact⟨j+1,atO,atQ,hJs,hkp,hbk1⟩
           case measure=>simp[intOf];omega
        .rw[aa1 HX.out atO]at hJs
         gi_wp2
         go_roundw
         case rel=>exact⟨k+1,atO,atQ,hJs,hkp⟩
         case measure=>simp[intOf];omega
      .rw[aa3 atO]at hJs;have hf4:wr.cell? ⟨Bx,7,none⟩=some (.slice N.An N.aj.length N.cn):=(HB.out.A8 hkp hBl atS).cell 7
       gi_wp2
       obtain⟨w3,rfl⟩:∃w3:World,w3=wr:=⟨_,rfl⟩;clear hf4 hlt hk hsz
       gi_loopw [71] (fun i wr=>∃k:Nat,k<=N.aj.length/\i=.int .i64 k/\J (v6 N k) wr/\gO avB B W wr) (fun i _=>N.aj.length-(intOf i).toNat)
       case atStart=>exact⟨0,GT _,rfl,hJs,hkp⟩
       case round=>
        clear hJs hkp;obtain⟨k,hk,rfl,hJs,hkp⟩:=hrel;have hsz:=hkp.below.size;by_cases hlt:k<N.aj.length
        .obtain⟨b,off,x,e1,hb,hx,hm,hcs⟩:=(HOK.out.below hkp.below).and.elem atO (fun _=>rfl) hlt;obtain⟨hc0,hc1,hc2⟩:=dU.at_ hcs;have hp:=Zh hx;obtain⟨fn,tmps,assign,body,hy,hR⟩:=HY.out (v6 N k) x.var (wr.alloc (.cells #[.int .i64 x.var,.int .i64 x.a,.int .i64 x.b] 113)) (HJ.out _ _ _ hJs) (tC hp);have HX:=Lib.hid hx;have HP:=Lib.hid hp;clear hx hp hm hcs;rw[e1];clear e1
         gi_wp2
         refine hR.mono ?_;rintro e W3 (⟨rfl,hJ3,hk3⟩|⟨rfl,hJx3⟩)
         .gi_wp2
          go_roundw
          case rel=>exact⟨k+1,atO,atQ,by rw[NY HX.out];exact hJ3,(hkp.alloc atO _).trans hk3⟩
          case measure=>simp[intOf];omega
         .gi_wp2
          refine bodyPost_ret (results_none rfl _ _ _) rfl ?_;exact⟨⟨_,rfl⟩,.inr ⟨_,HP.out,hJx3⟩⟩
        .rw[aaZ atO]at hJs
         gi_wp2
         go_end0
         exact⟨⟨_,rfl⟩,.inl ⟨_,rfl,hJs⟩⟩
theorem ahD(F:Fence)(n:Nat)(hF:F.fn 191)(hro:F.round=none)(hn:1<=n)(Bx avB B:Nat)(N:aT)(w:World)
  (hBx:bg w Bx 27 N.fs) (hBl:B<=Bx) (hok:N.cY w avB) (hn0:avB<=w.heap.size) (ft:Fit N.d) :
  SeqStopsK F n Tryz.prog 191 #[.pointer (some ⟨Bx,0,none⟩)] (fun x:Int=>#[Value.int .i64 x]) (gO avB B) (fun ys=>ys=aX N.d) (fun pre=>pre <+: aX N.d) (aX N.d).length w:=
 fun l J Jx W hW hJ _ hY h0=>aip F n hF hro hn l Bx avB B N J Jx W (fun s A o h=>hJ s A _ none h (World.grownBy_alloc A o none) (fun r e=>by cases e)) hY (hBx.below hW hBx.lt) hBl (hok.below (hW.mono hn0)) (IS hn0 hW.size) (IS (asS (Nat.lt_of_le_of_lt hBl hBx.lt)) hW.size) h0 ft
open Go.Maps
attribute [local go_sem] Oper.semAt_some
theorem MF{α β:Type}{f:α->List β}{K:Nat}:∀l:List α,(∀x∈l,(f x).length<=K)->(l.flatMap f).length<=l.length*K
 |[],_=>by simp|x::l,h=>by rw[AT,bU,di,asN];have:=MF l fun y hy=>h y (FS _ hy);have:=h x IN;omega
theorem aiy{d:ak}(ft:Fit d):(aX d).length<=100000000:=by
 have h1:=ft.ins.1;have h2:=ft.aJ.1;have h3:=ft.aj.1;have h4:=ft.ae.1;have h5:(d.ae.flatMap fv).length<=d.ae.length*400000:=MF _ fun m hm=>by
  have hm:=ft.ae.2 m hm;have h6:=hm.nH;have h7:=hm.word.2;have h8:(fv m).length<=m.reads.length*4000:=MF _ fun r _=>by unfold bZ;rw[aP,asO];omega
  omega
 unfold aX;simp only[bU,aP];omega
variable{W1:World}{W2:World}
theorem gO.grown{B:Nat}{row:Option Nat}(h:gO avB B W W1)(hg:W1.grownBy W2 row)(hn:avB<=W1.heap.size)(hr:∀r,row=some r->avB<=r/\∃o,W1.heap[r]?=some o/\Obj.vT o=false):gO avB B W W2:=⟨h.below.grown hg hn (fun k e=>(hr k e).1),fun i o hi hW ho hq=>by have h1:=h.eK i o hi hW ho hq;refine(hg.block i (asf.1 h1).1 fun e=>?_).trans h1;obtain⟨_,o2,h2,h3⟩:=hr i e.symm;rw[h1]at h2;cases h2;rw[h3]at hq;cases hq⟩
theorem gO.setCell{B:Nat}(h:gO avB B W W1){p:Addr}{o:Obj}(hn:avB<=p.block)(ho:W1.heap[p.block]?=some o)(hq:Obj.vT o=false)(v:Value):gO avB B W (W1.setCell p v):=⟨h.below.setCell hn v,fun i o' hi hW hc hq'=>by have h1:=h.eK i o' hi hW hc hq';refine(Below.heap_setCell _ _ _ i fun e=>?_).trans h1;rw[e,ho]at h1;cases h1;rw[hq]at hq';cases hq'⟩
variable{α:Type}{A:pm}
theorem qI{B:Nat}{e:TypeId}{z:Nat}{f:α->pi}{c:Nat}{xs:List α}(h:cC w B e z f A c xs):∀b∈aH A,B<=b/\∃cur,w.heap[b]?=some (.cells cur e (0,0)):=by
 intro b hb;obtain⟨hl,h⟩:=h;rcases h with⟨h,h0⟩|⟨g,cap,cur,e1,hg2,hh,hc,hm,hs,ht⟩
 .obtain⟨rfl,_⟩:=(by simpa using h:A=none/\xs=[]/\c=0);cases hb
 .obtain⟨rfl,_,rfl⟩:=(by simpa using e1:A=some ⟨g,0,none⟩/\True/\c=cap);obtain rfl:b=g:=by simpa[aH]using hb
  exact⟨hg2,cur,hh⟩
def ZT(B Bs:Nat)(pre:jp)(W:World):Prop:=∃A c,bg W Bs 22 #[.slice A pre.length c]/\cC W B 3 1 cI A c pre
theorem aiK(B B' Bs:Nat):OwnFrom B' (ZT B Bs):=fun s W W' row hs hg hr=>by obtain⟨A,c,h1,h2⟩:=hs;refine⟨A,c,ve (β:=Unit) (fun _=>#[.slice A s.length c]) () W W' row h1 hg hr,XL h2 hg fun b hb e=>?_⟩;obtain⟨_,o,ho,hc⟩:=hr b e.symm;obtain⟨_,cur,hh⟩:=qI h2 b hb;rw[hh]at ho;cases ho;cases hc
theorem ahE(N:aT)(u:World)(Bx avB:Nat)(hBx:bg u Bx 27 N.fs)(hB0:avB<=Bx)(hok:N.cY u avB)(ft:Fit N.d) :
  Calls Tryz.prog 190 #[.slice none 0 0,.func (.func 191) #[] #[.pointer (some ⟨Bx,0,none⟩)]] u fun e w'=>∃A c,e=.returned (.slice A (aX N.d).length c)/\cC w' u.heap.size 3 1 cI A c (aX N.d)/\Below u.heap.size u w':=by
 have HF:=Lib.hid ft;have HOK:=Lib.hid hok;have HL:=Lib.hid (aiy ft);clear ft hok;obtain⟨i0,hi0,hz0,hz1,hz2⟩:=info_parts EY;have hul:=hBx.lt;have hBB:=hBx;clear hBx;refine(callsIn_wide (n:=3)).1 ?_;refine callsIn_of_wp_marks Tryz.func190 rfl trivial ?_ rfl;simp only[Tryz.ntmps190,atp,di,IT,Nat.reduceAdd,Nat.reduceSub,ata,atb,atq,atg,UV,arM]
 gi_wp2
 have hb0:Below u.heap.size u (u.alloc (.cells #[.slice none 0 0] 22)):=(Below.refl _ u).alloc (rt _) _;have b0:=bg.new u 22 #[.slice none 0 0];have hsz:(u.alloc (.cells #[.slice none 0 0] 22)).heap.size=u.heap.size+1:=atQ
 have hBx:=hBB.alloc (.cells #[.slice none 0 0] 22);generalize u.alloc (.cells #[.slice none 0 0] 22)=W0 at hb0 b0 hsz hBx |-;refine wpIn_rangeFunc_ownF rfl atO (gf:=191) (lb:=#[.pointer (some ⟨Bx,0,none⟩)]) rfl trivial (enters_of Tryz.func191 atP rfl)
  (ahD Fence.wide 2 trivial rfl atO Bx avB Bx N W0 hBx (rt _) (HOK.out.below (hb0.mono atO)) atO HF.out) gO.trans (al6 atO) (Below.refl _ _) (fun _=>rfl)
  (fun pre W=>ZT u.heap.size u.heap.size pre W/\Below u.heap.size u W)
  (fun c pre W=>False)
  (OwnFrom.and (aiK _ _ _) (ownFrom_below (rt _) atO))
  (fun c=>fun _ _ _ _ h _ _=>h)
  ⟨⟨none,0,b0,⟨rfl,.inl ⟨rfl,rfl⟩⟩⟩,hb0⟩
  (fun x=>{ tmps:=#[.slice none 0 0,.func (.func 191) #[] #[.pointer (some ⟨Bx,0,none⟩)],.pointer (some ⟨u.heap.size,0,none⟩),undef,.slice none 0 0,.int .i64 x,.func (.func 191) #[] #[.pointer (some ⟨Bx,0,none⟩)],.int .i64 x,undef,undef,undef,undef,undef],defers:=[] }) ?assign ?body ?done ?stop
 case assign=>
  intro l x W K hK
  gi_wp2
  exact hK
 case body=>
  rintro l pre x W ⟨⟨A,c,h1,h2⟩,hB⟩ hlen;have hc0:=h1.cell 0;have hf0:=h1.frozen 0;simp only[Or,Fd]at hc0;have hlt:=h1.lt;have hl:=HL.out;have hs0:=hB.size;have H1:=Lib.hid h1;have H2:=Lib.hid h2;have HB:=Lib.hid hB;have hob:∀b,(Value.slice A pre.length c).ownBlock=some b->b∈aH A:=by cases A<;>simp[Value.ownBlock,aH]
  have hne:some u.heap.size≠(Value.slice A pre.length c).ownBlock:=fun e=>by obtain⟨_,cur,hh⟩:=qI h2 _ (hob _ e.symm);have h1:W.heap[u.heap.size]?=some (.cells _ 22 (0,0)):=h1;rw[hh]at h1;simp at h1
  clear h1 h2 hB b0 hBx hBB hb0
  gi_wp2_with (first|(
   gi_at_builtin;refine wpListIn_append_own _ rfl _ _ 22 rfl u.heap.size 3 i0 (.int .i64 0) 1 8 Tryz.underlying22 hi0 hz0 hz1 hz2 rfl atS _ pre.length _ rfl (H2.out.alloc _) ⟨W.heap.size,0,none⟩ 1 1 [.int .i64 x] rfl rfl (cell_one_new _ _ _) (by simp[Value.oneCell']) (by simp[maxLen];omega) atO (by simp;omega) ?_
   intro v' w3 hown' hg3 hnil3;obtain⟨A',c',rfl,ho',hl'⟩:=tZ (xs:=pre++[x]) (f:=cI) atQ (show w3.ownsRow u.heap.size 3 1 v' (pre.length+1) ((pre++[x]).flatMap cI) by rw[OF];exact hown');have hg3:(W.alloc (.cells #[.int .i64 x] 3)).grownBy w3 (Value.slice A pre.length c).ownBlock:=hg3;have hb3:bg w3 u.heap.size 22 #[.slice A pre.length c]:=(hg3.block _ (by simp;omega) hne).trans ((Below.heap_alloc _ _ _ hlt).trans H1.out);have hc3:=hb3.cell 0;have hf3:=hb3.frozen 0;simp only[Or,Fd]at hc3;have HB3:=Lib.hid hb3;have HO:=Lib.hid ho';have HG:=Lib.hid hg3;clear hb3 ho' hg3 hown' hnil3 hl')|fail)
  have hn0:avB<=W.heap.size:=atO
  have hs3:=HG.out.size;rw[World.size_alloc]at hs3;have hrow:∀r,(Value.slice A pre.length c).ownBlock=some r->u.heap.size<=r/\∃o,(W.alloc (.cells #[.int .i64 x] 3)).heap[r]?=some o/\Obj.vT o=false/\o.isCells=true:=fun r e=>by obtain⟨g1,cur,hh⟩:=qI H2.out r (hob r e);exact⟨g1,_,(Below.heap_alloc _ _ _ (asf.1 hh).1).trans hh,by simp[Obj.vT],rfl⟩
  have hk3:gO avB Bx W w3:=((gO.refl avB Bx W).alloc hn0 _).grown HG.out (by simp;omega) fun r e=>by obtain⟨g1,o,g2,g3,_⟩:=hrow r e;exact⟨atO,o,g2,g3⟩
  have hb3:Below u.heap.size u w3:=(HB.out.alloc hs0 _).grown HG.out (by simp;omega) fun r e=>(hrow r e).1;refine⟨((KeepsOthers.alloc W _).trans (KeepsOthers.of_grownBy HG.out fun j o e hj=>by obtain⟨_,o2,g2,_,g4⟩:=hrow j e;rw[g2]at hj;cases hj;exact g4)).trans (KeepsOthers.setCell _ _ _),hk3.setCell (p:=⟨u.heap.size,0,none⟩) (by simp;omega) HB3.out (by simp[Obj.vT]) _,⟨A',c',?_,?_⟩,hb3.setCell (p:=⟨u.heap.size,0,none⟩) atQ _⟩
  .rw[show(pre++[x]).length=pre.length+1 by simp];exact HB3.out.ia 0 (.slice A' (pre.length+1) c')
  .refine dq HO.out fun b hb=>⟨Below.heap_setCell _ _ _ b fun e=>?_,(qI HO.out b hb).1⟩;obtain⟨_,cur,hh⟩:=qI HO.out b hb;have h3:w3.heap[u.heap.size]?=some (.cells _ 22 (0,0)):=HB3.out;rw[show b=u.heap.size from e,h3]at hh;simp at hh
 case done=>
  rintro D ys W hD2 hys ⟨⟨A,c,h1,h2⟩,hB⟩ hK;subst hys;have hc0:=h1.cell 0;simp only[Or,Fd]at hc0;have H2:=Lib.hid h2;have HB:=Lib.hid hB;clear h1 h2 hB b0 hBx hBB hb0
  gi_wp2
  refine⟨atQ,.inl ⟨_,_,rfl,run_takeDeferred hK,?_⟩⟩;refine⟨_,results_tmp rfl _ _ _,A,c,rfl,XL H2.out (grownBy_putObj' _ D _) fun b hb e=>?_,HB.out.trans (belowK_b (w:=u) (rt _) W D _ _ atO hK rfl rfl)⟩;obtain⟨_,cur,hh⟩:=qI H2.out b hb;cases e;rw[hK]at hh;cases hh
 case stop=>rintro D c pre W hD2 hpre h hK;exact h.elim
theorem ahs(N:aT)(w:World)(hok:N.cY w w.heap.size)(ft:Fit N.d) :
  Calls Tryz.prog 111 #[N.v] w fun e w'=>∃A c,e=.returned (.slice A (aX N.d).length c)/\cC w' w.heap.size 3 1 cI A c (aX N.d)/\Below w.heap.size w w':=by
 have hcol:∀u Bx,bg u Bx 27 N.fs->w.heap.size<=Bx->N.cY u w.heap.size->Calls Tryz.prog 147 #[.func (.func 191) #[] #[.pointer (some ⟨Bx,0,none⟩)]] u fun e w'=>∃A c,e=.returned (.slice A (aX N.d).length c)/\cC w' u.heap.size 3 1 cI A c (aX N.d)/\Below u.heap.size u w':=by
  intro u Bx h1 h2 h3;have h:=ahE N u Bx w.heap.size h1 h2 h3 ft;clear h1 h2 h3 hok ft
  go_enter Tryz.func147,Tryz.ntmps147
  go_wp2_with (go_at_call 190;refine h.mono ?_;rintro e w' ⟨A,c,rfl,ho,hb⟩)
  go_ret
  exact⟨A,c,rfl,ho,hb⟩
 have hv:∀w:World,Calls Tryz.prog 148 #[.agg #[.int .i64 N.vars,.slice N.Ai N.al.length N.ci,.slice N.Al N.ag.length N.cl,.slice N.Ao N.aZ.length N.co,.slice N.Ab N.aN.length N.cb,.slice N.Ac N.constraints.length N.cc,.slice N.Am N.ae.length N.cm,.slice N.An N.aj.length N.cn]] w fun e w'=>e=.returned (.func (.func 191) #[] #[.pointer (some ⟨w.heap.size,0,none⟩)])/\w'=w.alloc (.cells #[.int .i64 N.vars,.slice N.Ai N.al.length N.ci,.slice N.Al N.ag.length N.cl,.slice N.Ao N.aZ.length N.co,.slice N.Ab N.aN.length N.cb,.slice N.Ac N.constraints.length N.cc,.slice N.Am N.ae.length N.cm,.slice N.An N.aj.length N.cn] 27):=fun w=>by have:=(callsIn_wide (n:=1)).1 (YM Fence.wide 1 trivial rfl N w);unfold aT.v aT.fs at this;exact this
 have hb0:Below w.heap.size w ((w.alloc (.cells #[.int .i64 N.vars,.slice N.Ai N.al.length N.ci,.slice N.Al N.ag.length N.cl,.slice N.Ao N.aZ.length N.co,.slice N.Ab N.aN.length N.cb,.slice N.Ac N.constraints.length N.cc,.slice N.Am N.ae.length N.cm,.slice N.An N.aj.length N.cn] 27)).alloc (.cells #[.int .i64 N.vars,.slice N.Ai N.al.length N.ci,.slice N.Al N.ag.length N.cl,.slice N.Ao N.aZ.length N.co,.slice N.Ab N.aN.length N.cb,.slice N.Ac N.constraints.length N.cc,.slice N.Am N.ae.length N.cm,.slice N.An N.aj.length N.cn] 27)):=((Below.refl _ w).alloc (rt _) _).alloc atQ _;have hc:=hcol ((w.alloc (.cells #[.int .i64 N.vars,.slice N.Ai N.al.length N.ci,.slice N.Al N.ag.length N.cl,.slice N.Ao N.aZ.length N.co,.slice N.Ab N.aN.length N.cb,.slice N.Ac N.constraints.length N.cc,.slice N.Am N.ae.length N.cm,.slice N.An N.aj.length N.cn] 27)).alloc (.cells #[.int .i64 N.vars,.slice N.Ai N.al.length N.ci,.slice N.Al N.ag.length N.cl,.slice N.Ao N.aZ.length N.co,.slice N.Ab N.aN.length N.cb,.slice N.Ac N.constraints.length N.cc,.slice N.Am N.ae.length N.cm,.slice N.An N.aj.length N.cn] 27)) (w.alloc (.cells #[.int .i64 N.vars,.slice N.Ai N.al.length N.ci,.slice N.Al N.ag.length N.cl,.slice N.Ao N.aZ.length N.co,.slice N.Ab N.aN.length N.cb,.slice N.Ac N.constraints.length N.cc,.slice N.Am N.ae.length N.cm,.slice N.An N.aj.length N.cn] 27)).heap.size (bg.new _ _ _) atQ (hok.below hb0);rw[World.size_alloc]at hc;have HB:=Lib.hid hb0;have HC:=Lib.hid hc;clear hcol hok ft hb0 hc;have HV:=Lib.hid hv;clear hv;unfold aT.v aT.fs
 go_enter Tryz.func111,Tryz.ntmps111
 go_wp2_with (first|(go_at_call 148;refine(HV.out _).mono ?_;rintro e w' ⟨rfl,rfl⟩)|(go_at_call 147;refine HC.out.mono ?_;rintro e w' ⟨A,c,rfl,ho,hb⟩))
 go_ret
 refine⟨A,c,rfl,dq ho fun b hb2=>⟨rfl,?_⟩,HB.out.trans (hb.mono HB.out.size)⟩;have:=(qI ho b hb2).1;have:=HB.out.size;omega
open Go
def lG:Array Value:=#[.int .i64 0,.slice none 0 0,.slice none 0 0,.slice none 0 0,.slice none 0 0,.slice none 0 0,.slice none 0 0,.slice none 0 0]
def mU(k:Nat):Nat:=[1,3,4,5].getD k 0
def aT.kf(N:aT)(k:Nat):jp:=[N.al,N.aZ,N.aN,N.constraints].getD k []
def aT.tE(N:aT)(k:Nat):pm×Nat:=[(N.Ai,N.ci),(N.Ao,N.co),(N.Ab,N.cb),(N.Ac,N.cc)].getD k (none,0)
def q9(N:aT)(H:Nat->pm×Nat):Array Value:=#[.int .i64 N.vars,.slice (H 0).1 N.al.length (H 0).2,.slice N.Al N.ag.length N.cl,.slice (H 1).1 N.aZ.length (H 1).2,.slice (H 2).1 N.aN.length (H 2).2,.slice (H 3).1 N.constraints.length (H 3).2,.slice N.Am N.ae.length N.cm,.slice N.An N.aj.length N.cn]
structure uf(w:World)(N:aT)(j:Nat)(wr:World):Prop where
 ex:∃H:Nat->pm×Nat,bg wr w.heap.size 27 (q9 N H)/\(∀k,k<j->cC wr w.heap.size 3 1 cI (H k).1 (H k).2 (N.kf k))/\(∀k,j<=k->k<4->H k=N.tE k) /\
  ((List.range j).flatMap fun k=>aH (H k).1).Nodup/\∀b∈(List.range j).flatMap (fun k=>aH (H k).1),w.heap.size+2<b/\b<wr.heap.size
 arD:∀k,k<4->wr.cell? ⟨w.heap.size+2,k,none⟩=some (.pointer (some ⟨w.heap.size,mU k,none⟩))
 res:bg wr (w.heap.size+1) 27 lG
 low:Below w.heap.size w wr
 size:w.heap.size+2<wr.heap.size
theorem four{P:Nat->Prop}(h0:P 0)(h1:P 1)(h2:P 2)(h3:P 3):∀k,k<4->P k
 |0,_=>h0|1,_=>h1|2,_=>h2|3,_=>h3|k+4,h=>absurd h atO
theorem aT.sl4(N:aT){B:Nat}(hN:N.cY w B):∀k,k<4->Sl w B 1 (N.tE k).1 (N.kf k).length (N.tE k).2 (ints (N.kf k)):=four hN.ins hN.out hN.bad hN.gG
theorem aT.ary(N:aT)(hF:Fit N.d):∀k,k<4->(N.kf k).length<=1048576:=
 four (by have h:N.al.length<=4000:=hF.ins.1;show N.al.length<=_;omega) (by have h:N.aZ.length<=4000:=hF.out.1;show N.aZ.length<=_;omega) (by have h:N.aN.length<=4000:=hF.bad.1;show N.aN.length<=_;omega)
  (by have h:N.constraints.length<=4000:=hF.gG.1;show N.constraints.length<=_;omega)
theorem ajP(N:aT)(H:Nat->pm×Nat)(A1:pm)(k1:Nat):∀j,j<4->(q9 N H).setIfInBounds (mU j) (.slice A1 (N.kf j).length k1)=q9 N (fun k=>if k=j then(A1,k1)else H k):=four rfl rfl rfl rfl
theorem ak4(N:aT)(H:Nat->pm×Nat):∀j,j<4->(q9 N H)[mU j]?=some (.slice (H j).1 (N.kf j).length (H j).2):=four rfl rfl rfl rfl
theorem qE{l m:mt}{n:Nat}(h:l.Nodup)(hm:m.Nodup)(h1:∀b∈l,b<n)(h2:∀b∈m,n<=b):(l++m).Nodup:=rx.2 ⟨h,hm,fun a ha b hb e=>by have:=h1 a ha;have:=h2 b hb;omega⟩
variable{l:List α}{β:Type}
theorem Mg{f g:α->List β}(h:∀a∈l,f a=g a):l.flatMap f=l.flatMap g:=by induction l with|nil=>rfl|cons x l ih=>rw[AT,AT,h x (IN ..),ih fun a ha=>h a (FS _ ha)]
theorem qJ(A:pm):(aH A).Nodup:=by cases A<;>simp[aH]
variable{N:aT}{wr:World}{A1:pm}{w1:World}
theorem uf.next{j:Nat}{k1:Nat}(h:uf w N j wr)(hlt:j<4)(hb:Below wr.heap.size wr w1)(ho:cC w1 wr.heap.size 3 1 cI A1 k1 (N.kf j))(hl:∀b∈aH A1,wr.heap.size<=b/\b<w1.heap.size) :
  uf w N (j+1) (w1.setCell ⟨w.heap.size,mU j,none⟩ (.slice A1 (N.kf j).length k1)):=by
 obtain⟨⟨H,c1,c2,c3,c4,c5⟩,p,s,lo,sz⟩:=h;have hB:w.heap.size<wr.heap.size:=atO
 have hheap:∀b,b≠w.heap.size->(w1.setCell ⟨w.heap.size,mU j,none⟩ (.slice A1 (N.kf j).length k1)).heap[b]?=w1.heap[b]?:=fun b e=>tN w1 _ _ b fun q=>e q.symm;have hsize:(w1.setCell ⟨w.heap.size,mU j,none⟩ (.slice A1 (N.kf j).length k1)).heap.size=w1.heap.size:=by simp[World.setCell]
 have hsz1:=hb.size;refine⟨⟨fun k=>if k=j then(A1,k1)else H k,?_,?_,?_,?_,?_⟩,?_,?_,?_,?_⟩
 .have:=(c1.below hb hB).ia (mU j) (.slice A1 (N.kf j).length k1)
  rwa [ajP N H A1 k1 j hlt]at this
 .intro k hk;by_cases e:k=j
  .subst e;simp only[IO];refine dq ho fun b q=>⟨hheap b ?_,?_⟩
   .have:=(hl b q).1;omega
   .have:=(hl b q).1;omega
  .simp only[BT e];have hk':k<j:=atO
   refine dq (c2 k hk') fun b q=>?_;have hb5:=c5 b (rg.2 ⟨k,Id.2 hk',q⟩);exact⟨(hheap b atO).trans (hb.block b hb5.2),atO⟩
 .intro k h1 h2;have e:¬k=j:=atO
  simp only[BT e];exact c3 k atO h2
 .have e:(List.range (j+1)).flatMap (fun k=>aH (if k=j then(A1,k1)else H k).1)=(List.range j).flatMap (fun k=>aH (H k).1)++aH A1:=by
   rw[asg,OF];congr 1
   .exact Mg fun k hk=>by rw[BT (by have:=Id.1 hk;omega)]
   .simp
  rw[e];exact qE c4 (qJ _) (fun b hb=>(c5 b hb).2) fun b hb=>(hl b hb).1
 .intro b hbm;rw[hsize];obtain⟨k,hk,hq⟩:=rg.1 hbm
  replace hq:b∈aH (if k=j then(A1,k1)else H k).1:=hq
  by_cases e:k=j
  .rw[IO e]at hq;have:=hl b hq;omega
  .rw[BT e]at hq;have:=c5 b (rg.2 ⟨k,Id.2 (by have:=Id.1 hk;omega),hq⟩);omega
 .intro k hk;exact(MD w1 _ _ _ rfl rfl (fun q=>by have:w.heap.size=w.heap.size+2:=PP Addr.block q;omega)).trans ((hb.cell sz).trans (p k hk))
 .exact(hheap _ atO).trans (s.below hb atO)
 .exact(lo.trans (hb.mono (asS hB))).setCell (rt _) _
 .rw[hsize];omega
structure EM(w:World)(N:aT)(wr:World):Prop where
 ex:∃M:aT,M.d=N.d/\M.ae=N.ae/\bg wr w.heap.size 27 M.fs/\cC wr w.heap.size 3 1 cI M.Ai M.ci M.al/\cC wr w.heap.size 3 1 cI M.Ao M.co M.aZ/\cC wr w.heap.size 3 1 cI M.Ab M.cb M.aN/\cC wr w.heap.size 3 1 cI M.Ac M.cc M.constraints /\
  cC wr w.heap.size 78 3 dJ.cells M.Al M.cl M.ag/\cC wr w.heap.size 113 3 dU.cells M.An M.cn M.aj/\cC wr w.heap.size 97 5 aL.cells M.Am M.cm M.ae/\M.fH.Nodup/\∀b∈M.fH,w.heap.size+2<b/\b<wr.heap.size
 res:bg wr (w.heap.size+1) 27 lG
 low:Below w.heap.size w wr
 size:w.heap.size+2<wr.heap.size
theorem uf.mid{wl wn wm:World}{Al An Am:pm}{cl cn cm:Nat}(h:uf w N 4 wr)(hl:Below wr.heap.size wr wl)(hn:Below wl.heap.size wl wn)(hm:Below wn.heap.size wn wm)
  (ol:cC wl wr.heap.size 78 3 dJ.cells Al cl N.ag) (on_:cC wn wl.heap.size 113 3 dU.cells An cn N.aj) (om:cC wm wn.heap.size 97 5 aL.cells Am cm N.ae)
  (ll:∀b∈aH Al,wr.heap.size<=b/\b<wl.heap.size) (ln:∀b∈aH An,wl.heap.size<=b/\b<wn.heap.size) (lm:∀b∈aH Am,wn.heap.size<=b/\b<wm.heap.size) :
  EM w N (((wm.setCell ⟨w.heap.size,2,none⟩ (.slice Al N.ag.length cl)).setCell ⟨w.heap.size,7,none⟩ (.slice An N.aj.length cn)).setCell ⟨w.heap.size,6,none⟩ (.slice Am N.ae.length cm)):=by
 obtain⟨⟨H,c1,c2,c3,c4,c5⟩,p,s,lo,sz⟩:=h;have k1:=hl.size;have k2:=hn.size;have k3:=hm.size;have hw:Below wr.heap.size wr wm:=(hl.trans (hn.mono k1)).trans (hm.mono (IS k1 k2));have hB:w.heap.size<wr.heap.size:=atO
 have hheap:∀b,b≠w.heap.size->(((wm.setCell ⟨w.heap.size,2,none⟩ (.slice Al N.ag.length cl)).setCell ⟨w.heap.size,7,none⟩ (.slice An N.aj.length cn)).setCell ⟨w.heap.size,6,none⟩ (.slice Am N.ae.length cm)).heap[b]?=wm.heap[b]?:=fun b e=>(tN _ _ _ b fun q=>e q.symm).trans ((tN _ _ _ b fun q=>e q.symm).trans (tN _ _ _ b fun q=>e q.symm));have hsize:(((wm.setCell ⟨w.heap.size,2,none⟩ (.slice Al N.ag.length cl)).setCell ⟨w.heap.size,7,none⟩ (.slice An N.aj.length cn)).setCell ⟨w.heap.size,6,none⟩ (.slice Am N.ae.length cm)).heap.size=wm.heap.size:=by simp[World.setCell]
 have hown:∀k,k<4->cC (((wm.setCell ⟨w.heap.size,2,none⟩ (.slice Al N.ag.length cl)).setCell ⟨w.heap.size,7,none⟩ (.slice An N.aj.length cn)).setCell ⟨w.heap.size,6,none⟩ (.slice Am N.ae.length cm)) w.heap.size 3 1 cI (H k).1 (H k).2 (N.kf k):=fun k hk=>dq (c2 k hk) fun b q=>by have h5:=c5 b (rg.2 ⟨k,Id.2 hk,q⟩);exact⟨(hheap b atO).trans (hw.block b h5.2),atO⟩
 have e4:(List.range 4).flatMap (fun k=>aH (H k).1)=aH (H 0).1++(aH (H 1).1++(aH (H 2).1++aH (H 3).1)):=by simp[asg]
 rw[e4]at c4 c5;refine⟨⟨{ N with Ai:=(H 0).1,ci:=(H 0).2,Ao:=(H 1).1,co:=(H 1).2,Ab:=(H 2).1,cb:=(H 2).2,Ac:=(H 3).1,cc:=(H 3).2,Al:=Al,cl:=cl,An:=An,cn:=cn,Am:=Am,cm:=cm },rfl,rfl,?_,hown 0 atO,hown 1 atO,hown 2 atO,hown 3 atO,?_,?_,?_,?_,?_⟩,?_,?_,?_⟩
 .exact(((c1.below hw hB).ia 2 _).ia 7 _).ia 6 _
 .exact dq ol fun b q=>by have:=ll b q;exact⟨(hheap b atO).trans ((hm.block b atO).trans (hn.block b atO)),atO⟩
 .exact dq on_ fun b q=>by have:=ln b q;exact⟨(hheap b atO).trans (hm.block b atO),atO⟩
 .exact dq om fun b q=>by have:=lm b q;exact⟨hheap b atO,atO⟩
 .show(aH (H 0).1++(aH (H 1).1++(aH (H 2).1++(aH (H 3).1++(aH Al++(aH An++aH Am)))))).Nodup;have:=qE (n:=wn.heap.size) (qE (n:=wl.heap.size) (qE (n:=wr.heap.size) c4 (qJ Al) (fun b hb=>(c5 b hb).2) fun b hb=>(ll b hb).1) (qJ An) (fun b hb=>by
   rcases rc.1 hb with h|h
   .have:=(c5 b h).2;omega
   .exact(ll b h).2) fun b hb=>(ln b hb).1) (qJ Am) (fun b hb=>by
   rcases rc.1 hb with h|h
   .rcases rc.1 h with h|h
    .have:=(c5 b h).2;omega
    .have:=(ll b h).2;omega
   .exact(ln b h).2) fun b hb=>(lm b hb).1
  simpa only[bB]using this
 .intro b hb;rw[hsize];have hb:b∈aH (H 0).1++(aH (H 1).1++(aH (H 2).1++(aH (H 3).1++(aH Al++(aH An++aH Am))))):=hb;simp only[rc]at hb c5;rcases hb with h|h|h|h|h|h|h
  .have:=c5 b (.inl h);omega
  .have:=c5 b (.inr (.inl h));omega
  .have:=c5 b (.inr (.inr (.inl h)));omega
  .have:=c5 b (.inr (.inr (.inr h)));omega
  .have:=ll b h;omega
  .have:=ln b h;omega
  .have:=lm b h;omega
 .exact(hheap _ atO).trans (s.below hw atO)
 .exact(((lo.trans (hw.mono (asS hB))).setCell (rt _) _).setCell (rt _) _).setCell (rt _) _
 .rw[hsize];omega
structure sZ(W1:World)(B:Nat)(A:pm)(c:Nat)(rs0:List bF)(k:Nat)(rs:List bF)(wq:World):Prop where
 g:W1.grownBy wq (A.map Addr.block)
 len:rs.length=rs0.length
 d:rs.map bF.d=rs0.map bF.d
 dr:rs.drop k=rs0.drop k
 row:cC wq B 148 2 bF.cells A c rs
 own:∀r∈rs.take k,r.own wq W1.heap.size
 nd:((rs.take k).flatMap bF.bs).Nodup
 lt:∀b∈(rs.take k).flatMap bF.bs,W1.heap.size<=b/\b<wq.heap.size
structure s9(W1:World)(B:Nat)(A:pm)(c:Nat)(rs0:List bL)(k:Nat)(rs:List bL)(wq:World):Prop where
 g:W1.grownBy wq (A.map Addr.block)
 len:rs.length=rs0.length
 d:rs.map bL.d=rs0.map bL.d
 dr:rs.drop k=rs0.drop k
 row:cC wq B 174 3 bL.cells A c rs
 own:∀r∈rs.take k,r.own wq W1.heap.size
 nd:((rs.take k).flatMap bL.bs).Nodup
 lt:∀b∈(rs.take k).flatMap bL.bs,W1.heap.size<=b/\b<wq.heap.size
variable{i:Nat}
theorem qB{x:α}(h:i<l.length):(l.set i x).take (i+1)=l.take i++[x]:=by rw[Pl.eE (arK h),List.take_set_of_le (rt _)]
theorem Lz{x:α}:(l.set i x).drop (i+1)=l.drop (i+1):=List.drop_set_of_lt (Nat.lt_succ_self _)
theorem LP{g:α->β}{x y:α}(h:l[i]?=some y)(e:g x=g y):(l.set i x).map g=l.map g:=by
 refine arW fun j=>?_;rw[ct,ct,List.getElem?_set];split
 .rename_i q;subst q;rw[h];have:=(ut.1 h).1;rw[IO this];exact PP some e
 .rfl
theorem ME{m:List α}(h:l.drop i=m.drop i):l[i]?=m[i]?:=by have:=PP (·[0]?) h;simpa[atl]using this
theorem Mf{m:List α}(h:l.drop i=m.drop i):l.drop (i+1)=m.drop (i+1):=by have:=PP (List.drop 1) h;simpa[atx,atI]using this
variable{wq:World}{rs:List bF}{c1:Nat}{k:Nat}{b:Nat}
theorem sZ.next{B:Nat}{c:Nat}{rs0:List bF}{r:bF}(h:sZ W1 B A c rs0 k rs wq)(hr:rs[k]?=some r)(hA:A=some ⟨b,0,none⟩)(hb:b<W1.heap.size)
  (hw:Below wq.heap.size wq w1) (ho:cC w1 wq.heap.size 3 1 cI A1 c1 r.addr) (hl:∀b∈aH A1,wq.heap.size<=b/\b<w1.heap.size) :
  sZ W1 B A c rs0 (k+1) (rs.set k { r with A:=A1,c:=c1 }) (w1.setCell ⟨b,k*2+1,none⟩ (.slice A1 r.addr.length c1)):=by
 subst hA;have hk:=(ut.1 hr).1;have hg:=h.g;have hs1:=hg.size;have hs2:=hw.size;have hsz:(w1.setCell ⟨b,k*2+1,none⟩ (.slice A1 r.addr.length c1)).heap.size=w1.heap.size:=by simp[World.setCell]
 have gw:wq.grownBy (w1.setCell ⟨b,k*2+1,none⟩ (.slice A1 r.addr.length c1)) (some b):=qD (DF hw) (qG w1 b _ _);refine⟨qD hg gw,by rw[acl];exact h.len,(LP (x:={ r with A:=A1,c:=c1 }) hr rfl).trans h.d,Lz.trans (Mf h.dr),?_,?_,?_,?_⟩
 .have:cC w1 B 148 2 bF.cells (some ⟨b,0,none⟩) c rs:=dq h.row fun x q=>by
   have:x=b:=by simpa[aH]using q
   subst this;refine⟨hw.block x atO,?_⟩;by_cases hx:rs=[]
   .rw[hx]at hr;cases hr
   .obtain⟨g,e,h1,_⟩:=lf h.row hx;have:g=x:=by have:=Do e;exact(PP Addr.block this).symm
    omega
  exact yv uu this rfl hr atO rfl
 .intro x hx;rw[qB hk]at hx;rcases rc.1 hx with hx|hx
  .refine bF.dq (h.own x hx) fun y q=>?_;have:=h.lt y (rg.2 ⟨x,hx,q⟩);exact⟨gw.block y atO (fun e=>by have:=Do e;omega),atO⟩
  .obtain rfl:=NE.1 hx;refine dq ho fun y q=>?_;have:=hl y q;exact⟨(qG w1 b _ _).block y atO (fun e=>by have:=Do e;omega),atO⟩
 .rw[qB hk,OF];refine qE h.nd ?_ (fun y q=>(h.lt y q).2) (fun y q=>(hl y ?_).1)
  .simpa[bF.bs]using qJ A1
  .simpa[bF.bs]using q
 .intro y q;rw[qB hk,OF]at q;rw[hsz];rcases rc.1 q with q|q
  .have:=h.lt y q;omega
  .have:=hl y (by simpa[bF.bs]using q);omega
variable{w2:World}{A2:pm}{c2:Nat}
theorem s9.next{B:Nat}{c:Nat}{rs0 rs:List bL}{r:bL}(h:s9 W1 B A c rs0 k rs wq)(hr:rs[k]?=some r)(hA:A=some ⟨b,0,none⟩)(hb:b<W1.heap.size)
  (hw:Below wq.heap.size wq w1) (ho:cC w1 wq.heap.size 3 1 cI A1 c1 r.addr) (hl:∀b∈aH A1,wq.heap.size<=b/\b<w1.heap.size)
  (hw2:Below w1.heap.size w1 w2) (ho2:cC w2 w1.heap.size 3 1 cI A2 c2 r.data) (hl2:∀b∈aH A2,w1.heap.size<=b/\b<w2.heap.size) :
  s9 W1 B A c rs0 (k+1) (rs.set k { r with A:=A1,c:=c1,A2:=A2,c2:=c2 }) ((w2.setCell ⟨b,k*3+1,none⟩ (.slice A1 r.addr.length c1)).setCell ⟨b,k*3+2,none⟩ (.slice A2 r.data.length c2)):=by
 subst hA;have hk:=(ut.1 hr).1;have hg:=h.g;have hs1:=hg.size;have hs2:=hw.size;have hs3:=hw2.size;have hsz:((w2.setCell ⟨b,k*3+1,none⟩ (.slice A1 r.addr.length c1)).setCell ⟨b,k*3+2,none⟩ (.slice A2 r.data.length c2)).heap.size=w2.heap.size:=by simp[World.setCell]
 have gs:w2.grownBy ((w2.setCell ⟨b,k*3+1,none⟩ (.slice A1 r.addr.length c1)).setCell ⟨b,k*3+2,none⟩ (.slice A2 r.data.length c2)) (some b):=qD (qG w2 b _ _) (qG _ b _ _);have hww:=hw.trans (hw2.mono hs2);have gw:=qD (DF hww) gs;refine⟨qD hg gw,by rw[acl];exact h.len,(LP (x:={ r with A:=A1,c:=c1,A2:=A2,c2:=c2 }) hr rfl).trans h.d,Lz.trans (Mf h.dr),?_,?_,?_,?_⟩
 .have:cC w2 B 174 3 bL.cells (some ⟨b,0,none⟩) c rs:=dq h.row fun x q=>by
   have:x=b:=by simpa[aH]using q
   subst this;refine⟨hww.block x atO,?_⟩;by_cases hx:rs=[]
   .rw[hx]at hr;cases hr
   .obtain⟨g,e,h1,_⟩:=lf h.row hx;have:g=x:=by have:=Do e;exact(PP Addr.block this).symm
    omega
  have q1:=yv (x':={ r with A:=A1,c:=c1 }) pP this rfl hr (show 1<3 by omega) rfl;have q2:=yv (x':={ r with A:=A1,c:=c1,A2:=A2,c2:=c2 }) pP q1 rfl (arK hk) (show 2<3 by omega) rfl
  rwa [List.set_set]at q2
 .intro x hx;rw[qB hk]at hx;rcases rc.1 hx with hx|hx
  .refine bL.dq (h.own x hx) fun y q=>?_;have:=h.lt y (rg.2 ⟨x,hx,q⟩);exact⟨gw.block y atO (fun e=>by have:=Do e;omega),atO⟩
  .obtain rfl:=NE.1 hx;refine⟨dq ho fun y q=>?_,dq ho2 fun y q=>?_⟩
   .have:=hl y q;exact⟨(gs.block y atO (fun e=>by have:=Do e;omega)).trans (hw2.block y atO),atO⟩
   .have:=hl2 y q;exact⟨gs.block y atO (fun e=>by have:=Do e;omega),atO⟩
 .rw[qB hk,OF];have e:List.flatMap bL.bs [({ r with A:=A1,c:=c1,A2:=A2,c2:=c2 }:bL)]=aH A1++aH A2:=by simp[bL.bs]
  rw[e];refine qE h.nd (qE (qJ A1) (qJ A2) (fun y q=>(hl y q).2) fun y q=>(hl2 y q).1) (fun y q=>(h.lt y q).2) fun y q=>?_;rcases rc.1 q with q|q
  .exact(hl y q).1
  .have:=(hl2 y q).1;omega
 .intro y q;rw[qB hk,OF]at q;rw[hsz];rcases rc.1 q with q|q
  .have:=h.lt y q;omega
  .have e:List.flatMap bL.bs [({ r with A:=A1,c:=c1,A2:=A2,c2:=c2 }:bL)]=aH A1++aH A2:=by simp[bL.bs]
   rw[e]at q;rcases rc.1 q with q|q
   .have:=hl y q;omega
   .have:=hl2 y q;omega
structure pT(w:World)(M0:aT)(i:Nat)(ms:List aL)(wr:World):Prop where
 box:bg wr w.heap.size 27 M0.fs
 ins:cC wr w.heap.size 3 1 cI M0.Ai M0.ci M0.al
 out:cC wr w.heap.size 3 1 cI M0.Ao M0.co M0.aZ
 bad:cC wr w.heap.size 3 1 cI M0.Ab M0.cb M0.aN
 gG:cC wr w.heap.size 3 1 cI M0.Ac M0.cc M0.constraints
 aJ:cC wr w.heap.size 78 3 dJ.cells M0.Al M0.cl M0.ag
 and:cC wr w.heap.size 113 3 dU.cells M0.An M0.cn M0.aj
 len:ms.length=M0.ae.length
 d:ms.map aL.d=M0.ae.map aL.d
 dr:ms.drop i=M0.ae.drop i
 row:cC wr w.heap.size 97 5 aL.cells M0.Am M0.cm ms
 own:∀m∈ms.take i,m.own wr w.heap.size
 nd:(M0.fH++(ms.take i).flatMap aL.bs).Nodup
 lt:∀b∈M0.fH++(ms.take i).flatMap aL.bs,w.heap.size+2<b/\b<wr.heap.size
 res:bg wr (w.heap.size+1) 27 lG
 low:Below w.heap.size w wr
 size:w.heap.size+2<wr.heap.size
variable{bm:Nat}{ms:List aL}{w9:World}{M0:aT}{m:aL}
theorem pT.next{m':aL}(h:pT w M0 i ms wr)(hm:ms[i]?=some m)(hA:M0.Am=some ⟨bm,0,none⟩)(hg:wr.grownBy w9 (some bm))(hd:m'.d=m.d)
  (ho:cC w9 w.heap.size 97 5 aL.cells M0.Am M0.cm (ms.set i m')) (how:m'.own w9 w.heap.size) (hn:m'.bs.Nodup) (hl:∀b∈m'.bs,wr.heap.size<=b/\b<w9.heap.size):pT w M0 (i+1) (ms.set i m') w9:=by
 have hi:=(ut.1 hm).1;have hs:=hg.size;have hsz:=h.size;have hbm0:bm∈M0.fH:=by unfold aT.fH;simp[hA,aH]
 have hbm:=h.lt bm (AC _ hbm0);have hlt:=h.lt;have hnd:=h.nd;have n0:=(rx.1 hnd).1;have key:∀b,b<wr.heap.size->b≠bm->w9.heap[b]?=wr.heap[b]?:=fun b hb e=>hg.block b hb fun q=>e (Do q);have dis:∀A:pm,(∀b∈aH A,b∈aH M0.Ai++(aH M0.Ao++(aH M0.Ab++(aH M0.Ac++(aH M0.Al++aH M0.An)))))->∀b∈aH A,w9.heap[b]?=wr.heap[b]?/\w.heap.size<=b:=by
  intro A hs b q;have hb:=hs b q;have e0:M0.fH=(aH M0.Ai++(aH M0.Ao++(aH M0.Ab++(aH M0.Ac++(aH M0.Al++aH M0.An)))))++aH M0.Am:=by unfold aT.fH;simp only[bB]
  have hb2:=hlt b (AC _ (by rw[e0];exact AC _ hb));refine⟨key b hb2.2 ?_,atO⟩;rw[e0]at n0;exact(rx.1 n0).2.2 b hb bm (by simp[hA,aH])
 refine⟨?_,dq h.ins (dis _ ?_),dq h.out (dis _ ?_),dq h.bad (dis _ ?_),dq h.gG (dis _ ?_),dq h.aJ (dis _ ?_),dq h.and (dis _ ?_),by rw[acl];exact h.len,(LP hm hd).trans h.d,Lz.trans (Mf h.dr),ho,?_,?_,?_,?_,?_,?_⟩
 .exact(key _ atO atO).trans h.box
 .intro b q;simp only[rc];exact .inl q
 .intro b q;simp only[rc];exact .inr (.inl q)
 .intro b q;simp only[rc];exact .inr (.inr (.inl q))
 .intro b q;simp only[rc];exact .inr (.inr (.inr (.inl q)))
 .intro b q;simp only[rc];exact .inr (.inr (.inr (.inr (.inl q))))
 .intro b q;simp only[rc];exact .inr (.inr (.inr (.inr (.inr q))))
 .intro x hx;rw[qB hi]at hx;rcases rc.1 hx with hx|hx
  .refine aL.dq (h.own x hx) fun b q=>?_;have hb:b∈(ms.take i).flatMap aL.bs:=rg.2 ⟨x,hx,q⟩;have:=hlt b (EQ _ hb);exact⟨key b this.2 (fun e=>(rx.1 hnd).2.2 bm hbm0 b hb e.symm),atO⟩
  .obtain rfl:=NE.1 hx;exact how
 .rw[qB hi,OF,<-bB];refine qE hnd ?_ (fun b q=>(hlt b q).2) fun b q=>(hl b ?_).1
  .simpa using hn
  .simpa using q
 .intro b q;rw[qB hi,OF,<-bB]at q;rcases rc.1 q with q|q
  .have:=hlt b q;omega
  .have:=hl b (by simpa using q);omega
 .exact(key _ atO atO).trans h.res
 .exact⟨hg.os.trans h.low.os,hg.tape.trans h.low.tape,hg.output.trans h.low.output,IS h.low.size hs,fun k hk=>(key k atO atO).trans (h.low.block k hk)⟩
 .omega
theorem EM.first(h:EM w N wr):∃M:aT,M.d=N.d/\M.ae=N.ae/\pT w M 0 M.ae wr:=by obtain⟨⟨M,e1,e2,h1,h2,h3,h4,h5,h6,h7,h8,h9,h10⟩,r,l,s⟩:=h;exact⟨M,e1,e2,h1,h2,h3,h4,h5,h6,h7,rfl,rfl,rfl,h8,(fun m hm=>by cases hm),by simpa using h9,by simpa using h10,r,l,s⟩
theorem ahO{c:Nat}{ws:List bL}(h:pT w M0 i ms wr)(hm:ms[i]?=some m)(hA:M0.Am=some ⟨bm,0,none⟩)
  (g1:wr.grownBy W1 (some bm)) (o1:cC W1 w.heap.size 97 5 aL.cells M0.Am M0.cm (ms.set i { m with A:=A,c:=c,A2:=A2,c2:=c2 }))
  (nd:(aH A++aH A2).Nodup) (lt:∀b∈aH A++aH A2,wr.heap.size<=b/\b<W1.heap.size)
  (r1:sZ W1 wr.heap.size A c m.reads m.reads.length rs W2) (r2:s9 W2 wr.heap.size A2 c2 m.writes m.writes.length ws w9) :
  pT w M0 (i+1) (ms.set i { m with A:=A,c:=c,A2:=A2,c2:=c2,reads:=rs,writes:=ws }) w9:=by
 have hi:=(ut.1 hm).1;have hbm:=h.lt bm (AC _ (by unfold aT.fH;simp[hA,aH]));have s1:=g1.size;have s2:=r1.g.size;have s3:=r2.g.size;have hsz:=h.size;have tr:rs.take m.reads.length=rs:=by rw[<-r1.len,eX]
 have tw:ws.take m.writes.length=ws:=by rw[<-r2.len,eX]
 have lr:=r1.lt;have lw:=r2.lt;have nr:=r1.nd;have nw:=r2.nd;have hor:=r1.own;have how:=r2.own;rw[tr]at lr nr hor;rw[tw]at lw nw how;have dA:=rx.1 nd;have lA:∀b∈aH A,wr.heap.size<=b/\b<W1.heap.size:=fun b q=>lt b (AC _ q);have lA2:∀b∈aH A2,wr.heap.size<=b/\b<W1.heap.size:=fun b q=>lt b (EQ _ q);have mrow:∀{A:pm}{b:Nat},some b=A.map Addr.block->b∈aH A:=fun{A b} e=>by unfold aH;rw[<-e];simp
 have k2:∀b,b<W1.heap.size->b∉aH A->W2.heap[b]?=W1.heap[b]?:=fun b hb e=>r1.g.block b hb fun q=>e (mrow q);have k3:∀b,b<W2.heap.size->b∉aH A2->w9.heap[b]?=W2.heap[b]?:=fun b hb e=>r2.g.block b hb fun q=>e (mrow q);have g:wr.grownBy w9 (some bm):=⟨(r2.g.os.trans r1.g.os).trans g1.os,(r2.g.tape.trans r1.g.tape).trans g1.tape,(r2.g.output.trans r1.g.output).trans g1.output,atO,fun b hb e=>(k3 b atO fun q=>by have:=lA2 b q;omega).trans ((k2 b atO fun q=>by have:=lA b q;omega).trans (g1.block b hb e))⟩;refine h.next hm hA g ?_ ?_ ⟨?_,?_,?_,?_⟩ ?_ ?_
 .show(⟨m.addr,m.word,m.any,rs.map bF.d,ws.map bL.d⟩:cf)=_;rw[r1.d,r2.d];rfl
 .have e:(ms.set i { m with A:=A,c:=c,A2:=A2,c2:=c2,reads:=rs,writes:=ws }).flatMap aL.cells=(ms.set i { m with A:=A,c:=c,A2:=A2,c2:=c2 }).flatMap aL.cells:=by have f1:=DW (f:=aL.cells) (k:=4) (u:=.slice A2 m.writes.length c2) oK atO (ms.set i { m with A:=A,c:=c,A2:=A2,c2:=c2 }) i _ { m with A:=A,c:=c,A2:=A2,c2:=c2,reads:=rs,writes:=ws } (arK hi) (by show _=List.set [_,_,_,_,_] 4 _;simp only[aL.cells,r1.len,r2.len];rfl);have f2:=DW (f:=aL.cells) (k:=4) (u:=.slice A2 m.writes.length c2) oK atO (ms.set i { m with A:=A,c:=c,A2:=A2,c2:=c2 }) i _ { m with A:=A,c:=c,A2:=A2,c2:=c2 } (arK hi) rfl;rw[List.set_set]at f1 f2;exact f1.symm.trans f2
  have:=dq (w':=w9) (B':=w.heap.size) o1 fun b q=>by
   have hb:b=bm:=by rw[hA]at q;simpa[aH]using q
   subst hb;exact⟨(k3 b atO fun q=>by have:=lA2 b q;omega).trans (k2 b atO fun q=>by have:=lA b q;omega),atO⟩
  unfold cC at this |-;rw[e,acl]
  rwa [acl]at this
 .exact dq r1.row fun b q=>⟨k3 b (by have:=lA b q;omega) fun p=>dA.2.2 b q b p rfl,by have:=lA b q;omega⟩
 .intro r hr;exact bF.dq (hor r hr) fun b q=>by have:=lr b (rg.2 ⟨r,hr,q⟩);exact⟨k3 b this.2 fun p=>by have:=lA2 b p;omega,atO⟩
 .exact dq r2.row fun b q=>⟨rfl,by have:=lA2 b q;omega⟩
 .intro r hr;exact bL.dq (how r hr) fun b q=>by have:=lw b (rg.2 ⟨r,hr,q⟩);exact⟨rfl,atO⟩
 .show(aH A++(rs.flatMap bF.bs++(aH A2++ws.flatMap bL.bs))).Nodup;refine rx.2 ⟨dA.1,rx.2 ⟨nr,rx.2 ⟨dA.2.1,nw,fun a ha b hb e=>?_⟩,fun a ha b hb e=>?_⟩,fun a ha b hb e=>?_⟩
  .have:=lA2 a ha;have:=lw b hb;omega
  .rcases rc.1 hb with hb|hb
   .have:=lr a ha;have:=lA2 b hb;omega
   .have:=lr a ha;have:=lw b hb;omega
  .rcases rc.1 hb with hb|hb
   .have:=lA a ha;have:=lr b hb;omega
   .rcases rc.1 hb with hb|hb
    .exact dA.2.2 a ha b hb e
    .have:=lA a ha;have:=lw b hb;omega
 .intro b hb;have hb:b∈aH A++(rs.flatMap bF.bs++(aH A2++ws.flatMap bL.bs)):=hb;simp only[rc]at hb;rcases hb with q|q|q|q
  .have:=lA b q;omega
  .have:=lr b q;omega
  .have:=lA2 b q;omega
  .have:=lw b q;omega
def ZS(w:World)(M0:aT)(i bm:Nat)(ms:List aL)(m:aL)(wr wx:World):Prop:=∃A c A2 c2,wr.grownBy wx (some bm)/\cC wx w.heap.size 97 5 aL.cells M0.Am M0.cm (ms.set i { m with A:=A,c:=c,A2:=A2,c2:=c2 }) /\
 cC wx wr.heap.size 148 2 bF.cells A c m.reads/\cC wx wr.heap.size 174 3 bL.cells A2 c2 m.writes/\(aH A++aH A2).Nodup/\∀b∈aH A++aH A2,wr.heap.size<=b/\b<wx.heap.size
theorem ajL{c:Nat}(h:pT w M0 i ms wr)(hm:ms[i]?=some m)(hA:M0.Am=some ⟨bm,0,none⟩)
  (b1:Below wr.heap.size wr w1) (o1:cC w1 wr.heap.size 148 2 bF.cells A c m.reads) (l1:∀b∈aH A,wr.heap.size<=b/\b<w1.heap.size)
  (b2:Below w1.heap.size w1 w2) (o2:cC w2 w1.heap.size 174 3 bL.cells A2 c2 m.writes) (l2:∀b∈aH A2,w1.heap.size<=b/\b<w2.heap.size) :
  ZS w M0 i bm ms m wr ((w2.setCell ⟨bm,i*5+3,none⟩ (.slice A m.reads.length c)).setCell ⟨bm,i*5+4,none⟩ (.slice A2 m.writes.length c2)):=by
 have hi:=(ut.1 hm).1;have hbm:=h.lt bm (AC _ (by unfold aT.fH;simp[hA,aH]));have s1:=b1.size;have s2:=b2.size;have hsz:((w2.setCell ⟨bm,i*5+3,none⟩ (.slice A m.reads.length c)).setCell ⟨bm,i*5+4,none⟩ (.slice A2 m.writes.length c2)).heap.size=w2.heap.size:=by simp[World.setCell]
 have gs:w2.grownBy ((w2.setCell ⟨bm,i*5+3,none⟩ (.slice A m.reads.length c)).setCell ⟨bm,i*5+4,none⟩ (.slice A2 m.writes.length c2)) (some bm):=qD (qG w2 bm _ _) (qG _ bm _ _);have hww:=b1.trans (b2.mono s1);refine⟨A,c,A2,c2,qD (DF hww) gs,?_,?_,?_,qE (qJ A) (qJ A2) (fun b q=>(l1 b q).2) fun b q=>(l2 b q).1,?_⟩
 .have:cC w2 w.heap.size 97 5 aL.cells M0.Am M0.cm ms:=dq h.row fun x q=>by
   have:x=bm:=by rw[hA]at q;simpa[aH]using q
   subst this;exact⟨hww.block x atO,atO⟩
  have q1:=yv (x':={ m with A:=A,c:=c }) oK this hA hm (show 3<5 by omega) rfl;have q2:=yv (x':={ m with A:=A,c:=c,A2:=A2,c2:=c2 }) oK q1 hA (arK hi) (show 4<5 by omega) rfl
  rwa [List.set_set]at q2
 .exact dq o1 fun y q=>by have:=l1 y q;exact⟨(gs.block y atO (fun e=>by have:=Do e;omega)).trans (b2.block y atO),atO⟩
 .exact dq o2 fun y q=>by have:=l2 y q;exact⟨gs.block y atO (fun e=>by have:=Do e;omega),atO⟩
 .intro b q;rw[hsz];rcases rc.1 q with q|q
  .have:=l1 b q;omega
  .have:=l2 b q;omega
theorem pT.last(h:pT w M0 M0.ae.length ms wr)(hg:wr.grownBy w9 (some (w.heap.size+1))):({ M0 with ae:=ms }:aT).own w9 w.heap.size:=by
 have tk:ms.take M0.ae.length=ms:=by rw[<-h.len,eX]
 have hlt:=h.lt;have hnd:=h.nd;have how:=h.own;rw[tk]at hlt hnd how;have hs:=hg.size;have k:∀b∈M0.fH++ms.flatMap aL.bs,w9.heap[b]?=wr.heap[b]?/\w.heap.size<=b:=fun b q=>by have:=hlt b q;exact⟨hg.block b this.2 fun e=>by have:=Do e;omega,atO⟩
 have k0:∀b∈M0.fH,w9.heap[b]?=wr.heap[b]?/\w.heap.size<=b:=fun b q=>k b (AC _ q);unfold aT.fH at k0;simp only[rc]at k0;refine⟨dq h.ins fun b q=>k0 b (.inl q),dq h.out fun b q=>k0 b (.inr (.inl q)),dq h.bad fun b q=>k0 b (.inr (.inr (.inl q))),dq h.gG fun b q=>k0 b (.inr (.inr (.inr (.inl q)))),dq h.aJ fun b q=>k0 b (.inr (.inr (.inr (.inr (.inl q))))),dq h.and fun b q=>k0 b (.inr (.inr (.inr (.inr (.inr (.inl q)))))),dq h.row fun b q=>k0 b (.inr (.inr (.inr (.inr (.inr (.inr q)))))),fun m hm=>aL.dq (how m hm) fun b q=>k b (EQ _ (rg.2 ⟨m,hm,q⟩)),hnd,fun b q=>by have:=hlt b q;omega⟩
theorem sZ.first{B:Nat}{c:Nat}(h:cC W B 148 2 bF.cells A c rs):sZ W B A c rs 0 rs W:=⟨World.grownBy.refl W _,rfl,rfl,rfl,h,(fun r hr=>by cases hr),aty,(fun b hb=>by cases hb)⟩
theorem s9.first{B:Nat}{c:Nat}{rs:List bL}(h:cC W B 174 3 bL.cells A c rs):s9 W B A c rs 0 rs W:=⟨World.grownBy.refl W _,rfl,rfl,rfl,h,(fun r hr=>by cases hr),aty,(fun b hb=>by cases hb)⟩
theorem Y7{n:Nat}(h:∀x∈aH A,n<=x)(hb:b<n):some b≠A.map Addr.block:=by intro e;have:=h b (by unfold aH;rw[<-e];simp);omega
theorem aix(m:aL)(j:Nat)(r:bF)(w:World)(hok:m.cY w w.heap.size)(hr:m.reads[j]?=some r)(hn:m.reads.length<=100)(hw:m.word<=4000)(hw0:-9223372036854775808<=m.word)(hv1:-1099511627776<=r.var)(hv2:r.var<=1099511627776) :
  Calls Tryz.prog 108 #[m.v,.int .i64 j] w (vc 3 w (ints (bZ r.var m.word.toNat))):=by
 have hj:j<m.reads.length:=(ut.1 hr).1;obtain⟨b,off,x,e1,hb,hx,hm,hcs⟩:=hok.rd.elem atO (fun _=>rfl) hj;rw[hr]at hx;injection hx with hx;subst hx;obtain⟨hd0,hd1⟩:=bF.at_ hcs;obtain⟨hg,hB,hok2,hsz⟩:=ak3 m w hok;clear hcs hm hr hok hok2 hd1;obtain⟨base,hbase⟩:∃base,base=w.heap.size:=⟨_,rfl⟩;rw[<-hbase]at hg hB hsz hb;have HD:=Lib.hid (show ∀w',Below base w w'->w'.cell? ⟨b,off+j*2,none⟩=some (.int .i64 r.var)from fun w' h=>by rw[anx h hb,hd0]);have HJ:=Lib.hid hj;clear hd0;have HE:=Lib.hid e1;clear e1;have hd1:decide ((j:Int)<0)=false:=atQ
 have hd2:decide (m.reads.length<=j)=false:=by simp;omega
 unfold aL.v
 go_enter Tryz.func108,Tryz.ntmps108
 go_wp2_with fail
 rw[<-hbase];change Code.wp _ _ _ _ (w.alloc (.cells m.cells.toArray 97));generalize w.alloc (.cells m.cells.toArray 97)=W1 at hg hB hsz |-;have HB:=Lib.hid hB;have HG:=Lib.hid hg;have HBA:=Lib.hid hbase;clear hB hg hbase
 go_loopw [4,17] (fun v i wr=>∃k:Nat,k<=m.word.toNat/\i=.int .i64 k/\wr.ownsRow base 3 1 v (bZ r.var k).length (ints (bZ r.var k))/\nk 3 base W1 wr) (fun _ i _=>m.word.toNat-(intOf i).toNat)
 case atStart=>exact⟨0,GT _,rfl,by simp[bZ,ints];exact World.ownsRow_nil _ _ _ _,nk.refl _ _ _⟩
 case round=>
  obtain⟨k,hk,rfl,hown,hf⟩:=hrel;obtain⟨c0,c1,c2,c3,c4⟩:=(hf.box _ _ _ HG.out atS).mem;have hs:=hf.size;have hd:=HD.out _ (HB.out.trans hf.below);have hl:(bZ r.var k).length=k:=by simp[bZ]
  by_cases hlt:(k:Int)<m.word
  .rw[HE.out]at c3;rw[hl]at hown;have HOW:=Lib.hid hown;clear hl hown
   go_wp2_with (at_builtin;refine am8 _ rfl _ _ 22 rfl base 3 (.int .i64 0) 1 8 Tryz.underlying22 EY rfl atS _ _ _ rfl HOW.out _ rfl rfl akp atO (by unfold maxLen;omega) atO ?_;intro v1 w1 hown1 hg1 hb1;have HO:=Lib.hid hown1;have HG:=Lib.hid hg1;clear hown1 hg1 hb1)
   go_roundw
   case rel=>
    have hl:(bZ r.var k).length=k:=by simp[bZ]
    refine⟨k+1,atO,by go_num,?_,hf.app HOW.out atO HG.out⟩;refine Ztf (a:=bZ r.var k) (x:=r.var+k) ?_ (Jt _ _);rw[hl];exact HO.out
   case measure=>simp[intOf];omega
  .obtain rfl:k=m.word.toNat:=atO
   go_wp2_with fail
   go_ret
   exact vc.mk (by rw[Zkb]) (HBA.out▸hown) (HBA.out▸HB.out.trans hf.below)
def dS(A:pm):Nat:=(A.map Addr.block).getD 0
def bO(g:Int->Int)(A:pm)(xs:jp):List cq:=xs.zipIdx.map fun p=>⟨dS A,p.2,p.1,g p.1⟩
def gJ(f g:Int->Int)(A:pm)(p:bF×Nat):List cq:=⟨dS A,p.2*2,p.1.var,f p.1.var⟩::bO g p.1.A p.1.addr
def kJ(g:Int->Int)(A:pm)(p:bL×Nat):List cq:=⟨dS A,p.2*3,p.1.on,g p.1.on⟩::(bO g p.1.A p.1.addr++bO g p.1.A2 p.1.data)
def dn(f g:Int->Int)(m:aL):List cq:=m.reads.zipIdx.flatMap (gJ f g m.A)++m.writes.zipIdx.flatMap (kJ g m.A2)
theorem qC(h:α->List β){x:α}(hx:l[k]?=some x):l.flatMap h=(l.take k).flatMap h++(h x++(l.drop (k+1)).flatMap h):=by
 obtain⟨hk,rfl⟩:=ut.1 hx
 conv=>lhs;rw[<-LT k l,asV hk]
 rw[OF,AT]
theorem DN(h:α->List β){x:α}(hx:l[k]?=some x):(l.take (k+1)).flatMap h=(l.take k).flatMap h++h x:=by rw[Pl.eE hx,OF];simp
theorem ue{x:α}(hx:l[k]?=some x):l.zipIdx[k]?=some (x,k):=by rw[List.getElem?_zipIdx,hx];simp
theorem vU(g:Int->Int){B:Nat}{c:Nat}{xs:jp}(h:cC w B 3 1 cI A c xs):pz g ⟨A.map Addr.block,c,xs⟩=bO g A xs/\nP.v ⟨A.map Addr.block,c,xs⟩=.slice A xs.length c/\(xs≠[]->A.map Addr.block=some (dS A)):=by
 refine⟨rfl,?_,fun hx=>?_⟩
 .have:=(Yc h).2.2.2;cases A with|none=>rfl|some a=>have e:=this a.block (by simp[aH]);show Value.slice (some ⟨a.block,0,none⟩) xs.length c=_;rw[<-e]
 .obtain⟨b,e,_⟩:=lf h hx;rw[e];rfl
structure uh(w0:World)(B bm off:Nat)(m:aL):Prop where
 c:∀k u,m.cells[k]?=some u->w0.cell? ⟨bm,off+k,none⟩=some u
 own:m.own w0 0
 lt:∀b∈m.bs,b<B
 bm:bm<B
theorem uh.now{w0:World}{B off:Nat}{us:List fT}(h:uh w0 B bm off m)(hb:Below B (cg id w0 us) W)(hd:∀u∈us,u.1∉m.bs/\u.1≠bm)(hB:B<=W.heap.size):uh W W.heap.size bm off m:=⟨fun k u hu=>tW hb rfl h.bm (fun x hx e=>(hd x hx).2 (PP Addr.block e)) (h.c k u hu),aL.dq h.own fun b q=>⟨Mw hb (h.lt b q) fun x hx e=>(hd x hx).1 (e▸q),GT _⟩,fun b q=>WP (h.lt b q) hB,WP h.bm hB⟩
theorem uh.cY{B off:Nat}(h:uh w B bm off m):m.cY w w.heap.size:=⟨Sl.own h.own.rd,fun r hr=>by have:=Sl.own (h.own.ig r hr);rw[<-DP]at this;exact this,Sl.own h.own.wr,fun r hr=>by have h1:=Sl.own (h.own.iX r hr).1;have h2:=Sl.own (h.own.iX r hr).2;rw[<-DP]at h1 h2;exact⟨h1,h2⟩⟩
def yK(tq:jp)(m:cf):Prop:=∀r∈m.reads,∀i:Nat,i<m.word.toNat->0<=r.var/\r.var+i<tq.length/\tq.getD (r.var+i).toNat 0=tq.getD r.var.toNat 0+i
section
variable{w0 x:World}{B n b' off c g:Nat}{v:Value}{L r:List cq}{tq:jp}
theorem alK{p:cq}(h:f8 w0 B n b' (L++([p]++r)))(hB:B=w0.heap.size)(hs:gk w0 B g v L x)(hR:Reads w0 B 1 (some ⟨b',off,none⟩) n (tq.map (Value.int .i64)))
  (hn:n<=1048576) (hx:p.x<n) (hy:p.y=tq.getD p.x.toNat 0) {q:Nat}(hq:x.cell? ⟨q,0,none⟩=some (.pointer (some p.ad))) :
  Calls Tryz.prog 151 #[.agg #[.slice (some ⟨b',off,none⟩) n c],.slice (some ⟨q,0,none⟩) 1 1] x fun e w'=>e=.returned (.tuple #[])/\gk w0 B g v (L++[p]) w':=by
 refine(El h hB hs.low hR hn hx hy hq).mono ?_;rintro e w' ⟨rfl,h1,h2⟩;exact⟨rfl,hs.step (fun z hz=>(h.at_ z (by simp at hz;simp[hz])).2.2.2.2) h1 h2⟩
theorem akG{l:List cq}(h:f8 w0 B n b' (L++(l++r)))(hB:B=w0.heap.size)(hs:gk w0 B g v L x)(hR:Reads w0 B 1 (some ⟨b',off,none⟩) n (tq.map (Value.int .i64)))
  (ef:∀y∈tq,0<=y/\y<=1000000) (hn:n<=1048576) (hx:∀p∈l,p.x / 2<n/\p.y=av tq p.x) (hm:l.length<=1000) {q:Nat}(hk:k=l.length) (hq:Reads x x.heap.size 1 (some ⟨q,0,none⟩) l.length (l.map fun p=>Value.pointer (some p.ad))) :
  Calls Tryz.prog 152 #[.agg #[.slice (some ⟨b',off,none⟩) n c],.slice (some ⟨q,0,none⟩) k k] x fun e w'=>e=.returned (.tuple #[])/\gk w0 B g v (L++l) w':=by
 refine(ML h hB hs.low hR ef hn hx hm hk hq).mono ?_;rintro e w' ⟨rfl,h1,h2⟩;exact⟨rfl,hs.step (fun z hz=>(h.at_ z (by simp[hz])).2.2.2.2) h1 h2⟩
theorem Yl{ls:List (nP Int)}(h:f8 w0 B n b' (L++(ls.flatMap (pz (av tq))++r)))(hB:B=w0.heap.size)(hs:gk w0 B g v L x)(hR:Reads w0 B 1 (some ⟨b',off,none⟩) n (tq.map (Value.int .i64)))
  (ef:∀y∈tq,0<=y/\y<=1000000) (hn:n<=1048576) (hx:∀l∈ls,l.xs.length<=1048576/\(l.xs≠[]->l.A=some l.b)/\∀x∈l.xs,x / 2<n) (hm:ls.length<=1000) {q:Nat}(hk:k=ls.length) (hq:Reads x x.heap.size 1 (some ⟨q,0,none⟩) ls.length (ls.map nP.v)) :
  Calls Tryz.prog 153 #[.agg #[.slice (some ⟨b',off,none⟩) n c],.slice (some ⟨q,0,none⟩) k k] x fun e w'=>e=.returned (.tuple #[])/\gk w0 B g v (L++ls.flatMap (pz (av tq))) w':=by
 refine(Yd h hB hs.low hR ef hn hx hm hk hq).mono ?_;rintro e w' ⟨rfl,h1,h2⟩;exact⟨rfl,hs.step (fun z hz=>(h.at_ z (by simp only[rc];exact .inr (.inl hz))).2.2.2.2) h1 h2⟩
end
theorem oI{w0 x:World}{B n b' g:Nat}{v:Value}{L r:List cq}(h:f8 w0 B n b' (L++r))(hs:gk w0 B g v L x){a:Addr}{l c:Nat}{A':pm}(hb:a.block<B)(hp:a.spot=none)(hc:w0.cell? a=some (.slice A' l c)):x.cell? a=some (.slice A' l c):=by refine tW hs.low hp hb (fun u hu e=>?_) hc;obtain⟨p,hq,rfl⟩:=ro.1 hu;have:=(h.at_ p (AC _ hq)).1;have e:p.ad=a:=e;rw[e,hc]at this;cases this
theorem vC(x:World)(vs:pi)(t:TypeId)(h:∀u∈vs,u.oneCell'=true):Reads (x.alloc (.cells vs.toArray t)).drew (x.alloc (.cells vs.toArray t)).drew.heap.size 1 (some ⟨x.heap.size,0,none⟩) vs.length vs:=by refine⟨atQ,fun hp=>⟨_,rfl,by show x.heap.size<(x.alloc _).heap.size;simp,fun k u hk=>?_⟩⟩;show(x.alloc _).cell? _=_;have:=(bg.new x t vs.toArray).cell k;rw[Addr.add_mid,ase];rw[this];simpa using hk
theorem XE(w:World)(N:aT)(B:Nat)(hN:N.cY w B)(hB:B<=w.heap.size)(hF:Fit N.d) :
  Calls Tryz.prog 41 #[N.v] w fun e w'=>∃M:aT,M.d=N.d/\e=.returned M.v/\Below w.heap.size w w'/\M.own w' w.heap.size:=by
 have hv:N.v=.agg #[.int .i64 N.vars,.slice N.Ai N.al.length N.ci,.slice N.Al N.ag.length N.cl,.slice N.Ao N.aZ.length N.co,.slice N.Ab N.aN.length N.cb,.slice N.Ac N.constraints.length N.cc,.slice N.Am N.ae.length N.cm,.slice N.An N.aj.length N.cn]:=rfl;rw[hv]
 go_enter Tryz.func41,Tryz.ntmps41
 go_wp2_with fail
 go_loopw [16] (fun i wr=>∃j:Nat,j<=4/\i=.int .i64 j/\uf w N j wr) (fun i _=>4-(intOf i).toNat)
 case atStart=>
  refine⟨0,GT _,rfl,?_⟩;have hb0:bg (w.alloc (Obj.cells (q9 N N.tE) 27)) w.heap.size 27 (q9 N N.tE):=bg.new w _ _;have hs0:(w.alloc (Obj.cells (q9 N N.tE) 27)).heap.size=w.heap.size+1:=atQ
  have hb1:bg ((w.alloc (Obj.cells (q9 N N.tE) 27)).alloc (Obj.cells lG 27)) (w.heap.size+1) 27 lG:=by rw[<-hs0];exact bg.new _ _ _
  refine⟨⟨N.tE,(hb0.alloc _).alloc _,fun k hk=>absurd hk (arL k),fun k _ _=>rfl,aty,fun b hb=>by cases hb⟩,four ?_ ?_ ?_ ?_,hb1.alloc _,(((Below.refl _ w).alloc (rt _) _).alloc atQ _).alloc (by simp;omega) _,atQ⟩
  all_goals try simp only[mU,List.getD_cons_zero,List.getD_cons_succ]
  all_goals go_simp
  all_goals rfl
 case round=>
  obtain⟨j,hj,rfl,hst⟩:=hrel;by_cases hlt:j<4
  .obtain⟨H,c1,c2,c3,c4,c5⟩:=hst.ex;have hp:=hst.arD j hlt;have hc:wr.cell? ⟨w.heap.size,mU j,none⟩=some (.slice (H j).1 (N.kf j).length (H j).2):=(c1.cell _).trans (ak4 N H j hlt);have hz:=c1.frozen (mU j);have hH:=c3 j (rt _) hlt;have hsw:w.heap.size<=wr.heap.size:=by have:=hst.size;omega
   have hsl:Sl wr w.heap.size 1 (H j).1 (N.kf j).length (H j).2 (ints (N.kf j)):=by rw[hH];exact((N.sl4 hN j hlt).more hB).below hst.low
   have hn:(N.kf j).length<=1048576:=N.ary hF j hlt;have HC:=Lib.hid (oA hsw hsl hn);have HS:=Lib.hid hst;have hB1:w.heap.size<wr.heap.size:=by have:=hst.size;omega
   have HX:Hid (∀w1,Below wr.heap.size wr w1->w1.cell? ⟨w.heap.size,mU j,none⟩=some (.slice (H j).1 (N.kf j).length (H j).2)/\w1.frozen? ⟨w.heap.size,mU j,none⟩=false):=fun w1 hb=>⟨(hb.cell hB1).trans hc,(hb.frozen hB1).trans hz⟩;have HJ:Hid (∀(w1:World) (A1:pm) (k1:Nat),Below wr.heap.size wr w1->cC w1 wr.heap.size 3 1 cI A1 k1 (N.kf j)->(∀b∈aH A1,wr.heap.size<=b/\b<w1.heap.size)->uf w N (j+1) (w1.setCell ⟨w.heap.size,mU j,none⟩ (.slice A1 (N.kf j).length k1))):=fun w1 A1 k1 h1 h2 h3=>hst.next hlt h1 h2 h3;clear hsl hH c1 c2 c3 c4 c5 hst hn;generalize N.kf j=l at *
   generalize (H j).1=A0 at *
   generalize (H j).2=k0 at *
   generalize mU j=o at *
   go_wp2_with (refine HC.out.mono ?_;rintro e w1 ⟨A1,k1,rfl,hb1,ho1,hl1⟩;have hx:=(HX.out w1 hb1).1;have hy:=(HX.out w1 hb1).2)
   go_roundw
   case rel=>exact⟨j+1,atO,by go_num,HJ.out _ _ _ hb1 ho1 hl1⟩
   case measure=>simp[intOf];omega
  .obtain rfl:j=4:=atO
   have hsw:w.heap.size<=wr.heap.size:=by have:=hst.size;omega
   have hB1:w.heap.size<wr.heap.size:=by have:=hst.size;omega
   obtain⟨H,c1,_⟩:=hst.ex;have r2:=c1.cell 2;have r6:=c1.cell 6;have r7:=c1.cell 7;simp only[q9,Or,arV,Fd]at r2 r6 r7;have z2:=c1.frozen 2;have z6:=c1.frozen 6;have z7:=c1.frozen 7;clear c1;have HS:=Lib.hid hst;have L2:Hid (∀w1,Below wr.heap.size wr w1->Calls Tryz.prog 94 #[.slice N.Al N.ag.length N.cl] w1 (mz w1 78 3 dJ.cells N.ag)):=fun w1 hb=>TV (by have:=hb.size;omega) (((hN.aJ.more hB).below HS.out.low).below (hb.mono hsw)) (by have h:N.ag.length<=4000:=hF.aJ.1;omega);have L7:Hid (∀w1,Below wr.heap.size wr w1->Calls Tryz.prog 95 #[.slice N.An N.aj.length N.cn] w1 (mz w1 113 3 dU.cells N.aj)):=fun w1 hb=>TU (by have:=hb.size;omega) (((hN.and.more hB).below HS.out.low).below (hb.mono hsw)) (by have h:N.aj.length<=4000:=hF.aj.1;omega);have L6:Hid (∀w1,Below wr.heap.size wr w1->Calls Tryz.prog 96 #[.slice N.Am N.ae.length N.cm] w1 (mz w1 97 5 aL.cells N.ae)):=fun w1 hb=>TW (by have:=hb.size;omega) (((hN.mem.more hB).below HS.out.low).below (hb.mono hsw)) (by have h:=hF.ae.1;rw[show N.d.ae.length=N.ae.length from aP _]at h;omega);have hbr:Below wr.heap.size wr wr.drew:=(Below.refl _ wr).drew;have HN:=Lib.hid hN;have HF:=Lib.hid hF;clear hst hF hN
   go_upto_region 6 with fail
   go_cut [] (fun wx=>EM w N wx)
   case first=>
    go_region_law (first
     |(go_simp;go_at_call 94;refine(L2.out _ hbr).mono ?_;rintro e wl ⟨Al,cl,rfl,hbl,hol,hll⟩;have hbl2:=hbr.trans (hbl.mono hbr.size);have x6:=(hbl2.cell (p:=⟨w.heap.size,6,none⟩) hB1).trans r6;have x7:=(hbl2.cell (p:=⟨w.heap.size,7,none⟩) hB1).trans r7)
     |(go_simp;go_at_call 95;refine(L7.out _ hbl2).mono ?_;rintro e wn ⟨An,cn,rfl,hbn,hon,hln⟩;have hbn2:=hbl2.trans (hbn.mono hbl2.size);have u6:=(hbn2.cell (p:=⟨w.heap.size,6,none⟩) hB1).trans r6)
     |(go_simp;go_at_call 96;refine(L6.out _ hbn2).mono ?_;rintro e wm ⟨Am,cm,rfl,hbm,hom,hlm⟩;have hbm2:=hbn2.trans (hbm.mono hbn2.size);have s2:=(hbm2.cell (p:=⟨w.heap.size,2,none⟩) hB1).trans r2;have s6:=(hbm2.cell (p:=⟨w.heap.size,6,none⟩) hB1).trans r6;have s7:=(hbm2.cell (p:=⟨w.heap.size,7,none⟩) hB1).trans r7;have t2:=(hbm2.frozen (p:=⟨w.heap.size,2,none⟩) hB1).trans z2;have t6:=(hbm2.frozen (p:=⟨w.heap.size,6,none⟩) hB1).trans z6;have t7:=(hbm2.frozen (p:=⟨w.heap.size,7,none⟩) hB1).trans z7))
    all_goals (go_wp2_with fail;go_meet;exact HS.out.mid hbl2 hbn hbm hol hon hom hll hln hlm)
   case rest=>
   clear L2 L7 L6 hbr r2 r6 r7 z2 z6 z7 HS;obtain⟨M,e1,e2,hI⟩:=hcut.first;have hbx:=hI.box.cell 6;simp only[aT.fs,Or,arV,Fd]at hbx;have HI:=Lib.hid hI;have HE1:=Lib.hid e1;have HE2:=Lib.hid e2;clear hI hcut e1 e2
   go_wp2_with fail
   go_loopw [42] (fun i wr=>∃(j:Nat) (ms:List aL),j<=M.ae.length/\i=.int .i64 j/\Hid (pT w M j ms wr)) (fun i _=>M.ae.length-(intOf i).toNat)
   case atStart=>exact⟨0,M.ae,GT _,rfl,HI⟩
   case round=>
    obtain⟨j,ms,hj,rfl,HI2⟩:=hrel;by_cases hlt:j<M.ae.length
    .have hI:=HI2.out;have hml:j<ms.length:=by rw[hI.len];exact hlt
     have hm:ms[j]?=some ms[j]:=ba hml;have hm0:M.ae[j]?=some ms[j]:=(ME hI.dr).symm.trans hm;obtain⟨bm,hA,hbm1,hbm2,hbmf⟩:=lf hI.row (fun e=>by rw[e]at hml;exact arL _ hml);have hmN:ms[j]∈N.ae:=by rw[<-HE2.out];exact dy hm0
     have hok:=HN.out.kZ _ hmN;have hfit:=HF.out.ae.2 (aL.d ms[j]) (AI hmN);have hsw2:w.heap.size<=wr.heap.size:=by have:=hI.size;omega
     have hrl:ms[j].reads.length<=100:=by have h:=hfit.nH;rwa [show(aL.d ms[j]).reads.length=ms[j].reads.length from aP _]at h
     have hwl:ms[j].writes.length<=100:=by have h:=hfit.tI;rwa [show(aL.d ms[j]).writes.length=ms[j].writes.length from aP _]at h
     have LR:Hid (∀w1,Below wr.heap.size wr w1->Calls Tryz.prog 97 #[.slice ms[j].A ms[j].reads.length ms[j].c] w1 (mz w1 148 2 bF.cells ms[j].reads)):=fun w1 hb=>TX (by have:=hb.size;omega) (((hok.rd.more hB).below hI.low).below (hb.mono hsw2)) atO;have LW:Hid (∀w1,Below wr.heap.size wr w1->Calls Tryz.prog 98 #[.slice ms[j].A2 ms[j].writes.length ms[j].c2] w1 (mz w1 174 3 bL.cells ms[j].writes)):=fun w1 hb=>TY (by have:=hb.size;omega) (((hok.wr.more hB).below hI.low).below (hb.mono hsw2)) atO;have hbx2:wr.cell? ⟨w.heap.size,6,none⟩=some (.slice (some ⟨bm,0,none⟩) M.ae.length M.cm):=by rw[hI.box.cell 6,<-hA];rfl
     have c3:wr.cell? ⟨bm,j*5+3,none⟩=some (.slice ms[j].A ms[j].reads.length ms[j].c):=kg oK hI.row hA hm rfl;have c4:wr.cell? ⟨bm,j*5+4,none⟩=some (.slice ms[j].A2 ms[j].writes.length ms[j].c2):=kg oK hI.row hA hm rfl;have z3:=hbmf (j*5+3);have z4:=hbmf (j*5+4);have hbr:Below wr.heap.size wr wr.drew:=(Below.refl _ wr).drew;have HRT:=Lib.hid hok.ig;have HWT:=Lib.hid hok.iX;have HRF:=Lib.hid hfit.ig;have HWF:=Lib.hid hfit.iX;have HM:=Lib.hid hm;have HA:=Lib.hid hA;have HML:=Lib.hid hml;have HLT:=Lib.hid hlt;have HML2:Hid (M.ae.length<=100):=by have h:=HF.out.ae.1;rw[show N.d.ae.length=N.ae.length from aP _,<-HE2.out]at h;exact h
     clear hok hfit hmN hm hm0 hbmf hA hI;generalize ms[j]=m at *
     clear hml
     go_upto_region 11 with fail
     go_cut [] (fun wx=>Hid (ZS w M j bm ms m wr wx))
     case first=>
      go_region_law (first
       |(go_simp;go_at_call 97;refine(LR.out _ hbr).mono ?_;rintro e wl ⟨Al,cl,rfl,hbl,hol,hll⟩;have hbl2:=hbr.trans (hbl.mono hbr.size);have x4:=(hbl2.cell (p:=⟨bm,j*5+4,none⟩) hbm2).trans c4)
       |(go_simp;go_at_call 98;refine(LW.out _ hbl2).mono ?_;rintro e wn ⟨An,cn,rfl,hbn,hon,hln⟩;have hbn2:=hbl2.trans (hbn.mono hbl2.size);have u3:=(hbn2.cell (p:=⟨bm,j*5+3,none⟩) hbm2).trans c3;have u4:=(hbn2.cell (p:=⟨bm,j*5+4,none⟩) hbm2).trans c4;have v3:=(hbn2.frozen (p:=⟨bm,j*5+3,none⟩) hbm2).trans z3;have v4:=(hbn2.frozen (p:=⟨bm,j*5+4,none⟩) hbm2).trans z4))
      all_goals (go_wp2_with fail;go_meet;exact ajL HI2.out HM.out HA.out hbl2 hol hll hbn hon hln)
     case rest=>
     obtain⟨wo,rfl⟩:∃x,x=wr:=⟨_,rfl⟩;obtain⟨A,c,A2,c2,g1,o1,oR,oW,nd,lt⟩:=hcut.out;have hself:(ms.set j { m with A:=A,c:=c,A2:=A2,c2:=c2 })[j]?=some { m with A:=A,c:=c,A2:=A2,c2:=c2 }:=arK HML.out;have d3:wc.cell? ⟨bm,j*5+3,none⟩=some (.slice A m.reads.length c):=kg oK o1 HA.out hself rfl;have d4:wc.cell? ⟨bm,j*5+4,none⟩=some (.slice A2 m.writes.length c2):=kg oK o1 HA.out hself rfl;have hwr:Below w.heap.size w wo:=HI2.out.low;have hwc:Below w.heap.size w wc:=hwr.grown g1 hsw2 fun k e=>by obtain rfl:=Do e;exact hbm1
     have gs:=g1.size;have lA:∀b∈aH A,wo.heap.size<=b/\b<wc.heap.size:=fun b q=>lt b (AC _ q);have lA2:∀b∈aH A2,wo.heap.size<=b/\b<wc.heap.size:=fun b q=>lt b (EQ _ q);have nA:some bm≠A.map Addr.block:=Y7 (fun b q=>(lA b q).1) hbm2;have nA2:some bm≠A2.map Addr.block:=Y7 (fun b q=>(lA2 b q).1) hbm2;have H1:=Lib.hid g1;have H2:=Lib.hid o1;have H3:=Lib.hid oR;have H4:=Lib.hid oW;have H5:=Lib.hid nd;have H6:=Lib.hid lt;have H7:=Lib.hid lA;have H8:=Lib.hid lA2;have H9:=Lib.hid nA;have H10:=Lib.hid nA2;have H11:=Lib.hid hwc;have H12:=Lib.hid d4;clear hcut g1 o1 oR oW nd lt lA lA2 nA nA2 hwc hwr hself c3 c4 z3 z4 d4
     go_wp2_with fail
     go_loopw [70] (fun i wq=>∃(k:Nat) (rs:List bF),k<=m.reads.length/\i=.int .i64 k/\Hid (sZ wc wo.heap.size A c m.reads k rs wq)) (fun i _=>m.reads.length-(intOf i).toNat)
     case atStart=>exact⟨0,m.reads,GT _,rfl,Lib.hid (sZ.first H3.out)⟩
     case round=>
      obtain⟨wq,rfl⟩:∃x,x=wr:=⟨_,rfl⟩;obtain⟨k,rs,hk,rfl,HR⟩:=hrel;have hR:=HR.out;have q3:wq.cell? ⟨bm,j*5+3,none⟩=some (.slice A m.reads.length c):=hR.g.cell d3 H9.out;have q4:wq.cell? ⟨bm,j*5+4,none⟩=some (.slice A2 m.writes.length c2):=hR.g.cell H12.out H9.out;by_cases hkl:k<m.reads.length
      .have hkr:k<rs.length:=by rw[hR.len];exact hkl
       have hr:rs[k]?=some rs[k]:=ba hkr;have hr0:m.reads[k]?=some rs[k]:=(ME hR.dr).symm.trans hr;obtain⟨br,rfl,hbr1,hbr2,hbrf⟩:=lf hR.row (fun e=>by rw[e]at hkr;exact arL _ hkr);have hbr3:=H7.out br (by simp[aH]);have cR:wq.cell? ⟨br,k*2+1,none⟩=some (.slice rs[k].A rs[k].addr.length rs[k].c):=kg uu hR.row rfl hr rfl;have zR:=hbrf (k*2+1);have hwq:Below w.heap.size w wq:=H11.out.grown hR.g atO fun x e=>by obtain rfl:=Do e;show w.heap.size<=br;omega
       have gq:=hR.g.size;have hrm:=dy hr0;have hsq:w.heap.size<=wq.heap.size:=atO
       have LI:Hid (∀w1,Below wq.heap.size wq w1->Calls Tryz.prog 93 #[.slice rs[k].A rs[k].addr.length rs[k].c] w1 (mz w1 3 1 cI rs[k].addr)):=fun w1 hb=>oA (by have:=hb.size;omega) ((((HRT.out _ hrm).more hB).below hwq).below (hb.mono hsq)) (by have:=(HRF.out _ (AI (f:=bF.d) hrm)).1;have h:rs[k].addr.length<=4000:=this;omega);have hbmq:bm<wq.heap.size:=atO
       have hbq:Below wq.heap.size wq wq.drew:=(Below.refl _ wq).drew;have HK:=Lib.hid hr;have hbrw:=hbr3.2;clear hr0 hrm hwq hbrf hR hr;generalize rs[k]=r at *
       go_wp2_with fail
       go_region_law (first
        |(go_simp;go_at_call 93;refine(LI.out _ hbq).mono ?_;rintro e w1 ⟨A1,c1,rfl,hb1,ho1,hl1⟩;have hb2:=hbq.trans (hb1.mono hbq.size);have x3:=(hb2.cell (p:=⟨bm,j*5+3,none⟩) hbmq).trans q3;have xr:=(hb2.cell (p:=⟨br,k*2+1,none⟩) hbr2).trans cR;have xz:=(hb2.frozen (p:=⟨br,k*2+1,none⟩) hbr2).trans zR))
       all_goals
        go_wp2_with fail
        go_roundw
        case rel=>(repeat apply Exists.intro);exact⟨⟨k+1,_,atO,by go_num,Lib.hid (HR.out.next HK.out rfl hbrw hb2 ho1 hl1)⟩,rfl⟩
        case measure=>simp[intOf];omega
      .obtain rfl:k=m.reads.length:=atO
       have H13:=Lib.hid q3;have hwq:Below w.heap.size w wq:=H11.out.grown hR.g atO fun x e=>by have:=H7.out x (by unfold aH;rw[e];simp);omega
       have gq:=hR.g.size;have H14:=Lib.hid hwq;clear hR q3 hwq
       go_wp2_with fail
       go_loopw [95] (fun i wz=>∃(k:Nat) (ws:List bL),k<=m.writes.length/\i=.int .i64 k/\Hid (s9 wq wo.heap.size A2 c2 m.writes k ws wz)) (fun i _=>m.writes.length-(intOf i).toNat)
       case atStart=>refine⟨0,m.writes,GT _,rfl,Lib.hid (s9.first (dq H4.out fun b q=>⟨HR.out.g.block b (H8.out b q).2 ?_,(H8.out b q).1⟩))⟩;intro e;exact(rx.1 H5.out).2.2 b (by unfold aH;rw[<-e];simp) b q rfl
       case round=>
        obtain⟨wz,rfl⟩:∃x,x=wr:=⟨_,rfl⟩;obtain⟨k,ws,hk2,rfl,HW⟩:=hrel;have hW:=HW.out;have q5:wz.cell? ⟨bm,j*5+4,none⟩=some (.slice A2 m.writes.length c2):=hW.g.cell q4 H10.out;by_cases hkl:k<m.writes.length
        .have hkr:k<ws.length:=by rw[hW.len];exact hkl
         have hr:ws[k]?=some ws[k]:=ba hkr;have hr0:m.writes[k]?=some ws[k]:=(ME hW.dr).symm.trans hr;obtain⟨br,rfl,hbr1,hbr2,hbrf⟩:=lf hW.row (fun e=>by rw[e]at hkr;exact arL _ hkr);have hbr3:=H8.out br (by simp[aH]);have cR:wz.cell? ⟨br,k*3+1,none⟩=some (.slice ws[k].A ws[k].addr.length ws[k].c):=kg pP hW.row rfl hr rfl;have cD:wz.cell? ⟨br,k*3+2,none⟩=some (.slice ws[k].A2 ws[k].data.length ws[k].c2):=kg pP hW.row rfl hr rfl;have zR:=hbrf (k*3+1);have zD:=hbrf (k*3+2);have hwz:Below w.heap.size w wz:=H14.out.grown hW.g atO fun x e=>by obtain rfl:=Do e;show w.heap.size<=br;omega
         have gz:=hW.g.size;have hrm:=dy hr0;have hsq:w.heap.size<=wz.heap.size:=atO
         have hlen:=HWF.out _ (AI (f:=bL.d) hrm);have LI:Hid (∀w1,Below wz.heap.size wz w1->Calls Tryz.prog 93 #[.slice ws[k].A ws[k].addr.length ws[k].c] w1 (mz w1 3 1 cI ws[k].addr)):=fun w1 hb=>oA (by have:=hb.size;omega) ((((HWT.out _ hrm).1.more hB).below hwz).below (hb.mono hsq)) (by have h:ws[k].addr.length<=4000:=hlen.1;omega);have LD:Hid (∀w1,Below wz.heap.size wz w1->Calls Tryz.prog 93 #[.slice ws[k].A2 ws[k].data.length ws[k].c2] w1 (mz w1 3 1 cI ws[k].data)):=fun w1 hb=>oA (by have:=hb.size;omega) ((((HWT.out _ hrm).2.more hB).below hwz).below (hb.mono hsq)) (by have h:ws[k].data.length<=4000:=hlen.2.1;omega);have hbq:Below wz.heap.size wz wz.drew:=(Below.refl _ wz).drew;have HK:=Lib.hid hr;have hbrw:br<wq.heap.size:=atO
         clear hr0 hrm hwz hbrf hW hr hlen;generalize ws[k]=r at *
         go_wp2_with fail
         go_region_law (first
          |(go_simp;go_at_call 93;refine(LI.out _ hbq).mono ?_;rintro e w1 ⟨A1,c1,rfl,hb1,ho1,hl1⟩;have hb2:=hbq.trans (hb1.mono hbq.size);have x2:=(hb2.cell (p:=⟨br,k*3+2,none⟩) hbr2).trans cD)
          |(go_simp;go_at_call 93;refine(LD.out _ hb2).mono ?_;rintro e w2 ⟨A3,c3,rfl,hb3,ho3,hl3⟩;have hb4:=hb2.trans (hb3.mono hb2.size);have y1:=(hb4.cell (p:=⟨br,k*3+1,none⟩) hbr2).trans cR;have y2:=(hb4.cell (p:=⟨br,k*3+2,none⟩) hbr2).trans cD;have t1:=(hb4.frozen (p:=⟨br,k*3+1,none⟩) hbr2).trans zR;have t2:=(hb4.frozen (p:=⟨br,k*3+2,none⟩) hbr2).trans zD))
         all_goals
          go_wp2_with fail
          go_roundw
          case rel=>(repeat apply Exists.intro);exact⟨⟨k+1,_,atO,by go_num,Lib.hid (HW.out.next HK.out rfl hbrw hb2 ho1 hl1 hb3 ho3 hl3)⟩,rfl⟩
          case measure=>simp[intOf];omega
        .obtain rfl:k=m.writes.length:=atO
         have h1:=HLT.out;have h2:=HML2.out
         go_wp2_with fail
         go_roundw
         case rel=>exact⟨j+1,_,HLT.out,by go_num,Lib.hid (ahO HI2.out HM.out HA.out H1.out H2.out H5.out H6.out HR.out HW.out)⟩
         case measure=>simp[intOf];omega
    .obtain rfl:j=M.ae.length:=atO
     have hI:=HI2.out;have hB0:=hI.box;have hC0:=hI.res;have b0:=hB0.cell 0;have b1:=hB0.cell 1;have b2:=hB0.cell 2;have b3:=hB0.cell 3;have b4:=hB0.cell 4;have b5:=hB0.cell 5;have b6:=hB0.cell 6;have b7:=hB0.cell 7;have r0:=hC0.cell 0;have r1:=hC0.cell 1;have r2:=hC0.cell 2;have r3:=hC0.cell 3;have r4:=hC0.cell 4;have r5:=hC0.cell 5;have r6:=hC0.cell 6;have r7:=hC0.cell 7;simp only[aT.fs,lG,Or,arV,Fd]at b0 b1 b2 b3 b4 b5 b6 b7 r0 r1 r2 r3 r4 r5 r6 r7;have f0:=hC0.frozen 0;have f1:=hC0.frozen 1;have f2:=hC0.frozen 2;have f3:=hC0.frozen 3;have f4:=hC0.frozen 4;have f5:=hC0.frozen 5;have f6:=hC0.frozen 6;have f7:=hC0.frozen 7;clear hI hB0 hC0
     go_wp2_with fail
     have hfin:=(((((((HI2.out.res.ia 0 (.int .i64 M.vars)).ia 1 (.slice M.Ai M.al.length M.ci)).ia 2 (.slice M.Al M.ag.length M.cl)).ia 3 (.slice M.Ao M.aZ.length M.co)).ia 4 (.slice M.Ab M.aN.length M.cb)).ia 5 (.slice M.Ac M.constraints.length M.cc)).ia 6 (.slice M.Am M.ae.length M.cm)).ia 7 (.slice M.An M.aj.length M.cn);simp only[lG,ats,atE,List.set_cons_succ]at hfin;have hsz:(Tryz.prog.info? 27).map (·.size)=some M.fs.size:=atP
     have hvl:({ M with ae:=ms }:aT).v=.agg M.fs:=by unfold aT.v aT.fs;rw[show({ M with ae:=ms }:aT).ae.length=M.ae.length from HI2.out.len]
     refine bodyPost_ret (v:=.agg M.fs) (results_cell_row Tryz.results41 _ _ (w.heap.size+1) 27 M.fs (0,0) _ ?_ hfin Tryz.underlying27 rfl hsz) rfl ?_
     .rfl
     refine⟨{ M with ae:=ms },?_,by rw[hvl],?_,?_⟩
     .show(⟨M.vars,M.al,M.ag,M.aZ,M.aN,M.constraints,ms.map aL.d,M.aj⟩:ak)=_;rw[HI2.out.d,<-HE1.out];rfl
     .iterate 8 refine Below.setCell ?_ (Nat.le_succ _) _
      exact HI2.out.low
     .refine HI2.out.last ?_
      iterate 7 refine qD ?_ (qG _ _ _ _)
      exact qG _ _ _ _
