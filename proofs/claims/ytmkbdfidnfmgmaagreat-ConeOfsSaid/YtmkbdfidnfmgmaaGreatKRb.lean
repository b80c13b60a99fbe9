import Derived.Test.YtmkbdfidnfmgmaaGreatKRa
import Derived.Test.YtmkbdfidnfmgmaaGreatKNb
import Derived.Deep.RegionLawGrows
import Derived.Deep.DeepCutAuto
set_option linter.all false
section
namespace Go.Proofs.YtmkbdfidnfmgmaaGreat
open Go.RowKit Go.Shelf Pl
attribute [local go_sem] Oper.semAt_some
def Obj.uG:Obj->Bool
 |.cells _ t _=>!(t == 3)&&!(t == 22)|_=>true
structure gG(avJ B:Nat)(W W':World):Prop where
 below:Below avJ W W'
 d9:∀(i:Nat) (o:Obj),B<=i->W.heap[i]?=some o->o.isCells=true->Obj.uG o=true->W'.heap[i]?=some o
theorem gG.refl(avJ B:Nat)(W:World):gG avJ B W W:=⟨Below.refl _ _,fun _ _ _ h _ _=>h⟩
variable{avJ:Nat}
theorem gG.trans{B:Nat}{A C D:World}(h:gG avJ B A C)(k:gG avJ B C D):gG avJ B A D:=⟨h.below.trans k.below,fun i o hi hA ho hq=>k.d9 i o hi (h.d9 i o hi hA ho hq) ho hq⟩
variable{W:World}{W':World}
theorem gG.alloc{B:Nat}(h:gG avJ B W W')(hn:avJ<=W'.heap.size)(o:Obj):gG avJ B W (W'.alloc o):=⟨h.below.alloc hn o,fun i o' hi hW ho hq=>by have h1:=h.d9 i o' hi hW ho hq;exact(Below.heap_alloc W' o i (asB.1 h1).1).trans h1⟩
variable{w:World}
theorem aog{B:Nat}(hn:avJ<=w.heap.size)(W:World)(l:Nat)(o o':Obj)(hl:w.heap.size<=l)(h:W.heap[l]?=some o)(hc:o.isCells=false)(hw:o.isWalk=false):gG avJ B W (W.putObj l o'):=
 ⟨belowK_b hn W l o o' hl h hc hw,fun i o2 hi hW ho _=>by
  by_cases e:i=l
  .subst e;rw[h]at hW;injection hW with hW;subst hW;rw[hc]at ho;cases ho
  .exact(World.putObj_heap_other auc).trans hW⟩
theorem bD.zs{B g:Nat}{t:TypeId}{cs:Array Value}(h:bD W g t cs)(k:gG avJ B W W')(hg:B<=g)(ht:(!(t == 3)&&!(t == 22))=true):bD W' g t cs:=k.d9 g _ hg h rfl ht
set_option maxRecDepth 100000
set_option maxHeartbeats 4000000
theorem akE(F:Fence)(n:Nat)(hF:F.fn 191)(hro:F.round=none)(hn:1<=n)(l Bx avJ B:Nat)(N:aY)(J Jx:jp->World->Prop)(W:World)
  (hJ:∀(s:jp) (A:World) (o:Obj),J s A->J s (A.alloc o))
  (hY:∀pre x W1,J pre W1->pre.length<(bp N.d).length->YieldAt F (n-1) Tryz.prog l #[.int .i64 x] W1 fun e W'=>(e=.returned (.bool true)/\J (pre++[x]) W'/\gG avJ B W1 W')\/(e=.returned (.bool false)/\Jx (pre++[x]) W'))
  (hBx:bD W Bx 27 N.fs) (hBl:B<=Bx) (hok:N.dk W avJ) (hn0:avJ<=W.heap.size) (hBW:B<=W.heap.size) (h0:J [] W) (ft:Fit N.d) :
  CallsIn F n Tryz.prog 191 #[.func (.yield l) #[] #[],.pointer (some ⟨Bx,0,none⟩)] W fun e W'=>(∃v,e=.returned v) /\
   ((∃ys,ys=bp N.d/\J ys W')\/(∃pre,pre <+: bp N.d/\Jx pre W')):=by
 have HJ:=Lib.hid hJ;have HY:=Lib.hid hY;have HB:=Lib.hid hBx;have HOK:=Lib.hid hok;have hl1:N.ax.length<=4000:=ft.ins.1;have hl2:N.ah.length<=4000:=ft.aT.1;have hl3:N.ag.length<=4000:=ft.ag.1;have hl4:N.af.length<=100:=by have:=ft.af.1;simpa[aY.d]using this
 have HMF:=Lib.hid (ft.af.2);have hf1:W.cell? ⟨Bx,1,none⟩=some (.slice N.Ai N.ax.length N.ci):=hBx.cell 1;clear hJ hY hok ft hBx;refine callsIn_of_wp Tryz.func191 rfl hF ?_ hro;simp only[Tryz.ntmps191,atG,dG,If,Nat.reduceAdd,Nat.reduceSub,atq,atr,atH,atz,PP,ask]
 gi_wp2
 gi_loopw [17] (fun i wr=>∃k:Nat,k<=N.ax.length/\i=.int .i64 k/\J (N.ax.take k) wr/\gG avJ B W wr) (fun i _=>N.ax.length-(intOf i).toNat)
 case atStart=>exact⟨0,Do _,rfl,by simpa using h0,gG.refl _ _ _⟩
 case round=>
  obtain⟨k,hk,rfl,hJs,hkp⟩:=hrel;by_cases hlt:k<N.ax.length
  .obtain⟨b,off,x,e1,hb,hx,hm,hc⟩:=(HOK.out.below hkp.below).ins.pJ hlt;have hp:=abL hx;obtain⟨fn,tmps,assign,body,hy,hR⟩:=HY.out (N.ax.take k) x wr hJs (sc hp);have HX:=Lib.hid hx;have HP:=Lib.hid hp;have HE1:=Lib.hid e1;clear hx hp hm;rw[e1];clear e1
   gi_wp2
   refine hR.mono ?_;rintro e W3 (⟨rfl,hJ3,hk3⟩|⟨rfl,hJx3⟩)
   .gi_wp2
    go_roundw
    case rel=>exact⟨k+1,auc,aue,by rw[cK HX.out];exact hJ3,hkp.trans hk3⟩
    case measure=>simp[intOf];omega
   .gi_wp2
    refine bodyPost_ret (results_none rfl _ _ _) rfl ?_;exact⟨⟨_,rfl⟩,.inr ⟨_,HP.out,hJx3⟩⟩
  .rw[abf auc]at hJs;have hf2:wr.cell? ⟨Bx,2,none⟩=some (.slice N.Al N.ah.length N.cl):=(HB.out.zs hkp hBl auf).cell 2
   gi_wp2
   obtain⟨w1,rfl⟩:∃w1:World,w1=wr:=⟨_,rfl⟩;clear hf2 hlt hk
   gi_loopw [29] (fun i wr=>∃k:Nat,k<=N.ah.length/\i=.int .i64 k/\J (v2 N k) wr/\gG avJ B W wr) (fun i _=>N.ah.length-(intOf i).toNat)
   case atStart=>exact⟨0,Do _,rfl,hJs,hkp⟩
   case round=>
    clear hJs hkp;obtain⟨k,hk,rfl,hJs,hkp⟩:=hrel;have hsz:=hkp.below.size;by_cases hlt:k<N.ah.length
    .obtain⟨b,off,x,e1,hb,hx,hm,hcs⟩:=(HOK.out.below hkp.below).aT.elem auc (fun _=>rfl) hlt;obtain⟨hc0,hc1,hc2⟩:=dI.at_ hcs;have hp:=abM hx;obtain⟨fn,tmps,assign,body,hy,hR⟩:=HY.out (v2 N k) x.var (wr.alloc (.cells #[.int .i64 x.var,.int .i64 x.next,.int .i64 x.init] 78)) (HJ.out _ _ _ hJs) (sc hp);have HX:=Lib.hid hx;have HP:=Lib.hid hp;clear hx hp hm hcs;rw[e1];clear e1
     gi_wp2
     refine hR.mono ?_;rintro e W3 (⟨rfl,hJ3,hk3⟩|⟨rfl,hJx3⟩)
     .gi_wp2
      go_roundw
      case rel=>exact⟨k+1,auc,aue,by rw[Po HX.out];exact hJ3,(hkp.alloc auc _).trans hk3⟩
      case measure=>simp[intOf];omega
     .gi_wp2
      refine bodyPost_ret (results_none rfl _ _ _) rfl ?_;exact⟨⟨_,rfl⟩,.inr ⟨_,HP.out,hJx3⟩⟩
    .rw[adJ auc]at hJs;have hf3:wr.cell? ⟨Bx,6,none⟩=some (.slice N.Am N.af.length N.cm):=(HB.out.zs hkp hBl auf).cell 6
     gi_wp2
     obtain⟨w2,rfl⟩:∃w2:World,w2=wr:=⟨_,rfl⟩;clear hf3 hlt hk hsz
     gi_loopw [42] (fun i wr=>∃k:Nat,k<=N.af.length/\i=.int .i64 k/\J (v3 N k) wr/\gG avJ B W wr) (fun i _=>N.af.length-(intOf i).toNat)
     case atStart=>exact⟨0,Do _,rfl,hJs,hkp⟩
     case round=>
      clear hJs hkp;obtain⟨k,hk,rfl,hJs,hkp⟩:=hrel;have hsz:=hkp.below.size;by_cases hlt:k<N.af.length
      .obtain⟨b,off,m,e1,hb,hx,hm,hcs⟩:=(HOK.out.below hkp.below).mem.elem auc (fun _=>rfl) hlt;obtain⟨hc0,hc1,hc2,hc3,hc4⟩:=aQ.at_ hcs;have HX:=Lib.hid hx;have HM:=Lib.hid (HOK.out.kA m hm);have hfm:=HMF.out m.d (AT hm);have hrn:m.reads.length<=100:=by have:=hfm.kO;simpa[aQ.d]using this
       have hw1:m.word<=4000:=hfm.word.2;have hw0:-9223372036854775808<=m.word:=hfm.word.1.1;have HRF:=Lib.hid hfm.fq;clear hx hm hcs hfm;rw[e1];clear e1
       gi_wp2
       obtain⟨c,hc⟩:∃c,c=wr.heap.size:=⟨_,rfl⟩;have hkp2:=hkp.alloc (show avJ<=wr.heap.size by omega) (.cells m.cells.toArray 97);have hJ2:=HJ.out _ _ (.cells m.cells.toArray 97) hJs;have hbk:=bD.new wr 97 m.cells.toArray;have hcB:B<=c:=auc
       rw[<-hc]at hbk |-;rw[<-adH (m:=m)]at hJ2;clear hc hJs hkp hc0 hc1 hc2 hc3 hc4;change Code.wpIn _ _ _ _ _ _ (wr.alloc (.cells m.cells.toArray 97));obtain⟨w3,hw3⟩:∃w3:World,w3=wr.alloc (.cells m.cells.toArray 97):=⟨_,rfl⟩;rw[<-hw3]at hkp2 hJ2 hbk |-;clear hw3 hsz
       gi_loopw [49] (fun i wr=>∃j:Nat,j<=m.reads.length/\i=.int .i64 j/\J (v4 N k m j) wr/\gG avJ B W wr/\bD wr c 97 m.cells.toArray) (fun i _=>m.reads.length-(intOf i).toNat)
       case atStart=>exact⟨0,Do _,rfl,hJ2,hkp2,hbk⟩
       case round=>
        clear hJ2 hkp2 hbk;obtain⟨j,hj,rfl,hJs,hkp,hbk⟩:=hrel;have hsz:=hkp.below.size;by_cases hlt2:j<m.reads.length
        .obtain⟨b2,off2,r,e1,hb2,hx2,hm2,hcs⟩:=(HM.out.below hkp.below).rd.elem auc (fun _=>rfl) hlt2;obtain⟨hc0,hc1⟩:=bZ.at_ hcs;have HX2:=Lib.hid hx2;obtain⟨_,hv1,hv2,_⟩:=HRF.out r.d (AT hm2);change -1099511627776<=r.var at hv1;change r.var<=1099511627776 at hv2;have hcw:wr.cell? ⟨c,1,none⟩=some (.int .i64 m.word):=hbk.cell 1;have hcl:c<wr.heap.size:=hbk.lt;clear hx2 hm2 hcs;rw[e1];clear e1
         gi_wp2
         obtain⟨d,hd⟩:∃d,d=wr.heap.size:=⟨_,rfl⟩;have hkp2:=hkp.alloc (show avJ<=wr.heap.size by omega) (.cells r.cells.toArray 148);have hJ2:=HJ.out _ _ (.cells r.cells.toArray 148) hJs;have hbk2:=bD.new wr 148 r.cells.toArray;have hbk1:=hbk.alloc (.cells r.cells.toArray 148);have hdB:B<=d:=auc
         rw[<-hd]at hbk2 |-;rw[<-abi (r:=r)]at hJ2;clear hd hJs hkp hbk hc0 hc1 hcw;change Code.wpIn _ _ _ _ _ _ (wr.alloc (.cells r.cells.toArray 148));obtain⟨w4,hw4⟩:∃w4:World,w4=wr.alloc (.cells r.cells.toArray 148):=⟨_,rfl⟩;rw[<-hw4]at hkp2 hJ2 hbk2 hbk1 |-;clear hw4 hsz hcl
         gi_loopw [55] (fun i wr=>∃q:Nat,q<=m.word.toNat/\i=.int .i64 q/\J (v5 N k m j r q) wr/\gG avJ B W wr/\bD wr c 97 m.cells.toArray/\bD wr d 148 r.cells.toArray) (fun i _=>m.word.toNat-(intOf i).toNat)
         case atStart=>exact⟨0,Do _,rfl,hJ2,hkp2,hbk1,hbk2⟩
         case round=>
          clear hJ2 hkp2 hbk1 hbk2;obtain⟨q,hq,rfl,hJs,hkp,hbk1,hbk2⟩:=hrel;by_cases hlt3:(q:Int)<m.word
          .have hp:=abN (i:=q) HX.out HX2.out auc;obtain⟨fn,tmps,assign,body,hy,hR⟩:=HY.out (v5 N k m j r q) (r.var+(q:Int)) wr hJs (sc hp);have HP:=Lib.hid hp;have hcv:wr.cell? ⟨d,0,none⟩=some (.int .i64 r.var):=hbk2.cell 0;clear hp
           gi_wp2
           refine hR.mono ?_;rintro e W3 (⟨rfl,hJ3,hk3⟩|⟨rfl,hJx3⟩)
           .gi_wp2
            go_roundw
            case rel=>exact⟨q+1,auc,aue,by rw[abh];exact hJ3,hkp.trans hk3,hbk1.zs hk3 hcB auf,hbk2.zs hk3 hdB auf⟩
            case measure=>simp[intOf];omega
           .gi_wp2
            refine bodyPost_ret (results_none rfl _ _ _) rfl ?_;exact⟨⟨_,rfl⟩,.inr ⟨_,HP.out,hJx3⟩⟩
          .obtain rfl:q=m.word.toNat:=auc
           rw[abg HX2.out]at hJs
           gi_wp2
           go_roundw
           case rel=>exact⟨j+1,auc,aue,hJs,hkp,hbk1⟩
           case measure=>simp[intOf];omega
        .rw[adI HX.out auc]at hJs
         gi_wp2
         go_roundw
         case rel=>exact⟨k+1,auc,aue,hJs,hkp⟩
         case measure=>simp[intOf];omega
      .rw[adK auc]at hJs;have hf4:wr.cell? ⟨Bx,7,none⟩=some (.slice N.An N.ag.length N.cn):=(HB.out.zs hkp hBl auf).cell 7
       gi_wp2
       obtain⟨w3,rfl⟩:∃w3:World,w3=wr:=⟨_,rfl⟩;clear hf4 hlt hk hsz
       gi_loopw [71] (fun i wr=>∃k:Nat,k<=N.ag.length/\i=.int .i64 k/\J (v6 N k) wr/\gG avJ B W wr) (fun i _=>N.ag.length-(intOf i).toNat)
       case atStart=>exact⟨0,Do _,rfl,hJs,hkp⟩
       case round=>
        clear hJs hkp;obtain⟨k,hk,rfl,hJs,hkp⟩:=hrel;have hsz:=hkp.below.size;by_cases hlt:k<N.ag.length
        .obtain⟨b,off,x,e1,hb,hx,hm,hcs⟩:=(HOK.out.below hkp.below).and.elem auc (fun _=>rfl) hlt;obtain⟨hc0,hc1,hc2⟩:=dM.at_ hcs;have hp:=abO hx;obtain⟨fn,tmps,assign,body,hy,hR⟩:=HY.out (v6 N k) x.var (wr.alloc (.cells #[.int .i64 x.var,.int .i64 x.a,.int .i64 x.b] 113)) (HJ.out _ _ _ hJs) (sc hp);have HX:=Lib.hid hx;have HP:=Lib.hid hp;clear hx hp hm hcs;rw[e1];clear e1
         gi_wp2
         refine hR.mono ?_;rintro e W3 (⟨rfl,hJ3,hk3⟩|⟨rfl,hJx3⟩)
         .gi_wp2
          go_roundw
          case rel=>exact⟨k+1,auc,aue,by rw[Pn HX.out];exact hJ3,(hkp.alloc auc _).trans hk3⟩
          case measure=>simp[intOf];omega
         .gi_wp2
          refine bodyPost_ret (results_none rfl _ _ _) rfl ?_;exact⟨⟨_,rfl⟩,.inr ⟨_,HP.out,hJx3⟩⟩
        .rw[adG auc]at hJs
         gi_wp2
         go_end0
         exact⟨⟨_,rfl⟩,.inl ⟨_,rfl,hJs⟩⟩
theorem aj2(F:Fence)(n:Nat)(hF:F.fn 191)(hro:F.round=none)(hn:1<=n)(Bx avJ B:Nat)(N:aY)(w:World)
  (hBx:bD w Bx 27 N.fs) (hBl:B<=Bx) (hok:N.dk w avJ) (hn0:avJ<=w.heap.size) (ft:Fit N.d) :
  SeqStopsK F n Tryz.prog 191 #[.pointer (some ⟨Bx,0,none⟩)] (fun x:Int=>#[Value.int .i64 x]) (gG avJ B) (fun ys=>ys=bp N.d) (fun pre=>pre <+: bp N.d) (bp N.d).length w:=
 fun l J Jx W hW hJ _ hY h0=>akE F n hF hro hn l Bx avJ B N J Jx W (fun s A o h=>hJ s A _ none h (World.grownBy_alloc A o none) (fun r e=>by cases e)) hY (hBx.below hW hBx.lt) hBl (hok.below (hW.mono hn0)) (EQ hn0 hW.size) (EQ (asZ (Nat.lt_of_le_of_lt hBl hBx.lt)) hW.size) h0 ft
open Go.Maps
attribute [local go_sem] Oper.semAt_some
theorem Oi{α β:Type}{f:α->List β}{K:Nat}:∀l:List α,(∀x∈l,(f x).length<=K)->(l.flatMap f).length<=l.length*K
 |[],_=>by simp|x::l,h=>by rw[ww,bF,dG,atj];have:=Oi l fun y hy=>h y (Id _ hy);have:=h x Pi;omega
theorem akK{d:aB}(ft:Fit d):(bp d).length<=100000000:=by
 have h1:=ft.ins.1;have h2:=ft.aT.1;have h3:=ft.ag.1;have h4:=ft.af.1;have h5:(d.af.flatMap dy).length<=d.af.length*400000:=Oi _ fun m hm=>by
  have hm:=ft.af.2 m hm;have h6:=hm.kO;have h7:=hm.word.2;have h8:(dy m).length<=m.reads.length*4000:=Oi _ fun r _=>by unfold cM;rw[aG,asi];omega
  omega
 unfold bp;simp only[bF,aG];omega
variable{W2:World}{W1:World}
theorem gG.grown{B:Nat}{row:Option Nat}(h:gG avJ B W W1)(hg:W1.grownBy W2 row)(hn:avJ<=W1.heap.size)(hr:∀r,row=some r->avJ<=r/\∃o,W1.heap[r]?=some o/\Obj.uG o=false):gG avJ B W W2:=⟨h.below.grown hg hn (fun k e=>(hr k e).1),fun i o hi hW ho hq=>by have h1:=h.d9 i o hi hW ho hq;refine(hg.block i (asB.1 h1).1 fun e=>?_).trans h1;obtain⟨_,o2,h2,h3⟩:=hr i e.symm;rw[h1]at h2;cases h2;rw[h3]at hq;cases hq⟩
theorem gG.setCell{B:Nat}(h:gG avJ B W W1){p:Addr}{o:Obj}(hn:avJ<=p.block)(ho:W1.heap[p.block]?=some o)(hq:Obj.uG o=false)(v:Value):gG avJ B W (W1.setCell p v):=⟨h.below.setCell hn v,fun i o' hi hW hc hq'=>by have h1:=h.d9 i o' hi hW hc hq';refine(Below.heap_setCell _ _ _ i fun e=>?_).trans h1;rw[e,ho]at h1;cases h1;rw[hq]at hq';cases hq'⟩
variable{α:Type}{A:pi}
theorem py{B:Nat}{e:TypeId}{z:Nat}{f:α->mt}{c:Nat}{xs:List α}(h:cX w B e z f A c xs):∀b∈aO A,B<=b/\∃cur,w.heap[b]?=some (.cells cur e (0,0)):=by
 intro b hb;obtain⟨hl,h⟩:=h;rcases h with⟨h,h0⟩|⟨g,cap,cur,e1,hg2,hh,hc,hm,hs,ht⟩
 .obtain⟨rfl,_⟩:=(by simpa using h:A=none/\xs=[]/\c=0);cases hb
 .obtain⟨rfl,_,rfl⟩:=(by simpa using e1:A=some ⟨g,0,none⟩/\True/\c=cap);obtain rfl:b=g:=by simpa[aO]using hb
  exact⟨hg2,cur,hh⟩
def acB(B Bs:Nat)(pre:jp)(W:World):Prop:=∃A c,bD W Bs 22 #[.slice A pre.length c]/\cX W B 3 1 cI A c pre
theorem akV(B B' Bs:Nat):OwnFrom B' (acB B Bs):=fun s W W' row hs hg hr=>by obtain⟨A,c,h1,h2⟩:=hs;refine⟨A,c,tT (β:=Unit) (fun _=>#[.slice A s.length c]) () W W' row h1 hg hr,aaf h2 hg fun b hb e=>?_⟩;obtain⟨_,o,ho,hc⟩:=hr b e.symm;obtain⟨_,cur,hh⟩:=py h2 b hb;rw[hh]at ho;cases ho;cases hc
theorem aj3(N:aY)(u:World)(Bx avJ:Nat)(hBx:bD u Bx 27 N.fs)(hB0:avJ<=Bx)(hok:N.dk u avJ)(ft:Fit N.d) :
  Calls Tryz.prog 190 #[.slice none 0 0,.func (.func 191) #[] #[.pointer (some ⟨Bx,0,none⟩)]] u fun e w'=>∃A c,e=.returned (.slice A (bp N.d).length c)/\cX w' u.heap.size 3 1 cI A c (bp N.d)/\Below u.heap.size u w':=by
 have HF:=Lib.hid ft;have HOK:=Lib.hid hok;have HL:=Lib.hid (akK ft);clear ft hok;obtain⟨i0,hi0,hz0,hz1,hz2⟩:=info_parts FQ;have hul:=hBx.lt;have hBB:=hBx;clear hBx;refine(callsIn_wide (n:=3)).1 ?_;refine callsIn_of_wp_marks Tryz.func190 rfl trivial ?_ rfl;simp only[Tryz.ntmps190,atG,dG,If,Nat.reduceAdd,Nat.reduceSub,atq,atr,atH,atz,PP,ask]
 gi_wp2
 have hb0:Below u.heap.size u (u.alloc (.cells #[.slice none 0 0] 22)):=(Below.refl _ u).alloc (ro _) _;have b0:=bD.new u 22 #[.slice none 0 0];have hsz:(u.alloc (.cells #[.slice none 0 0] 22)).heap.size=u.heap.size+1:=aue
 have hBx:=hBB.alloc (.cells #[.slice none 0 0] 22);generalize u.alloc (.cells #[.slice none 0 0] 22)=W0 at hb0 b0 hsz hBx |-;refine wpIn_rangeFunc_ownF rfl auc (gf:=191) (lb:=#[.pointer (some ⟨Bx,0,none⟩)]) rfl trivial (enters_of Tryz.func191 aud rfl)
  (aj2 Fence.wide 2 trivial rfl auc Bx avJ Bx N W0 hBx (ro _) (HOK.out.below (hb0.mono auc)) auc HF.out) gG.trans (aog auc) (Below.refl _ _) (fun _=>rfl)
  (fun pre W=>acB u.heap.size u.heap.size pre W/\Below u.heap.size u W)
  (fun c pre W=>False)
  (OwnFrom.and (akV _ _ _) (ownFrom_below (ro _) auc))
  (fun c=>fun _ _ _ _ h _ _=>h)
  ⟨⟨none,0,b0,⟨rfl,.inl ⟨rfl,rfl⟩⟩⟩,hb0⟩
  (fun x=>{ tmps:=#[.slice none 0 0,.func (.func 191) #[] #[.pointer (some ⟨Bx,0,none⟩)],.pointer (some ⟨u.heap.size,0,none⟩),undef,.slice none 0 0,.int .i64 x,.func (.func 191) #[] #[.pointer (some ⟨Bx,0,none⟩)],.int .i64 x,undef,undef,undef,undef,undef],defers:=[] }) ?assign ?body ?done ?stop
 case assign=>
  intro l x W K hK
  gi_wp2
  exact hK
 case body=>
  rintro l pre x W ⟨⟨A,c,h1,h2⟩,hB⟩ hlen;have hc0:=h1.cell 0;have hf0:=h1.frozen 0;simp only[IN,FS]at hc0;have hlt:=h1.lt;have hl:=HL.out;have hs0:=hB.size;have H1:=Lib.hid h1;have H2:=Lib.hid h2;have HB:=Lib.hid hB;have hob:∀b,(Value.slice A pre.length c).ownBlock=some b->b∈aO A:=by cases A<;>simp[Value.ownBlock,aO]
  have hne:some u.heap.size≠(Value.slice A pre.length c).ownBlock:=fun e=>by obtain⟨_,cur,hh⟩:=py h2 _ (hob _ e.symm);have h1:W.heap[u.heap.size]?=some (.cells _ 22 (0,0)):=h1;rw[hh]at h1;simp at h1
  clear h1 h2 hB b0 hBx hBB hb0
  gi_wp2_with (first|(
   gi_at_builtin;refine wpListIn_append_own _ rfl _ _ 22 rfl u.heap.size 3 i0 (.int .i64 0) 1 8 Tryz.underlying22 hi0 hz0 hz1 hz2 rfl auf _ pre.length _ rfl (H2.out.alloc _) ⟨W.heap.size,0,none⟩ 1 1 [.int .i64 x] rfl rfl (cell_one_new _ _ _) (by simp[Value.oneCell']) (by simp[maxLen];omega) auc (by simp;omega) ?_
   intro v' w3 hown' hg3 hnil3;obtain⟨A',c',rfl,ho',hl'⟩:=sK (xs:=pre++[x]) (f:=cI) aue (show w3.ownsRow u.heap.size 3 1 v' (pre.length+1) ((pre++[x]).flatMap cI) by rw[BT];exact hown');have hg3:(W.alloc (.cells #[.int .i64 x] 3)).grownBy w3 (Value.slice A pre.length c).ownBlock:=hg3;have hb3:bD w3 u.heap.size 22 #[.slice A pre.length c]:=(hg3.block _ (by simp;omega) hne).trans ((Below.heap_alloc _ _ _ hlt).trans H1.out);have hc3:=hb3.cell 0;have hf3:=hb3.frozen 0;simp only[IN,FS]at hc3;have HB3:=Lib.hid hb3;have HO:=Lib.hid ho';have HG:=Lib.hid hg3;clear hb3 ho' hg3 hown' hnil3 hl')|fail)
  have hn0:avJ<=W.heap.size:=auc
  have hs3:=HG.out.size;rw[World.size_alloc]at hs3;have hrow:∀r,(Value.slice A pre.length c).ownBlock=some r->u.heap.size<=r/\∃o,(W.alloc (.cells #[.int .i64 x] 3)).heap[r]?=some o/\Obj.uG o=false/\o.isCells=true:=fun r e=>by obtain⟨g1,cur,hh⟩:=py H2.out r (hob r e);exact⟨g1,_,(Below.heap_alloc _ _ _ (asB.1 hh).1).trans hh,by simp[Obj.uG],rfl⟩
  have hk3:gG avJ Bx W w3:=((gG.refl avJ Bx W).alloc hn0 _).grown HG.out (by simp;omega) fun r e=>by obtain⟨g1,o,g2,g3,_⟩:=hrow r e;exact⟨auc,o,g2,g3⟩
  have hb3:Below u.heap.size u w3:=(HB.out.alloc hs0 _).grown HG.out (by simp;omega) fun r e=>(hrow r e).1;refine⟨((KeepsOthers.alloc W _).trans (KeepsOthers.of_grownBy HG.out fun j o e hj=>by obtain⟨_,o2,g2,_,g4⟩:=hrow j e;rw[g2]at hj;cases hj;exact g4)).trans (KeepsOthers.setCell _ _ _),hk3.setCell (p:=⟨u.heap.size,0,none⟩) (by simp;omega) HB3.out (by simp[Obj.uG]) _,⟨A',c',?_,?_⟩,hb3.setCell (p:=⟨u.heap.size,0,none⟩) aue _⟩
  .rw[show(pre++[x]).length=pre.length+1 by simp];exact HB3.out.gO 0 (.slice A' (pre.length+1) c')
  .refine dB HO.out fun b hb=>⟨Below.heap_setCell _ _ _ b fun e=>?_,(py HO.out b hb).1⟩;obtain⟨_,cur,hh⟩:=py HO.out b hb;have h3:w3.heap[u.heap.size]?=some (.cells _ 22 (0,0)):=HB3.out;rw[show b=u.heap.size from e,h3]at hh;simp at hh
 case done=>
  rintro D ys W hD2 hys ⟨⟨A,c,h1,h2⟩,hB⟩ hK;subst hys;have hc0:=h1.cell 0;simp only[IN,FS]at hc0;have H2:=Lib.hid h2;have HB:=Lib.hid hB;clear h1 h2 hB b0 hBx hBB hb0
  gi_wp2
  refine⟨aue,.inl ⟨_,_,rfl,run_takeDeferred hK,?_⟩⟩;refine⟨_,results_tmp rfl _ _ _,A,c,rfl,aaf H2.out (grownBy_putObj' _ D _) fun b hb e=>?_,HB.out.trans (belowK_b (w:=u) (ro _) W D _ _ auc hK rfl rfl)⟩;obtain⟨_,cur,hh⟩:=py H2.out b hb;cases e;rw[hK]at hh;cases hh
 case stop=>rintro D c pre W hD2 hpre h hK;exact h.elim
theorem ajL(N:aY)(w:World)(hok:N.dk w w.heap.size)(ft:Fit N.d) :
  Calls Tryz.prog 111 #[N.v] w fun e w'=>∃A c,e=.returned (.slice A (bp N.d).length c)/\cX w' w.heap.size 3 1 cI A c (bp N.d)/\Below w.heap.size w w':=by
 have hcol:∀u Bx,bD u Bx 27 N.fs->w.heap.size<=Bx->N.dk u w.heap.size->Calls Tryz.prog 147 #[.func (.func 191) #[] #[.pointer (some ⟨Bx,0,none⟩)]] u fun e w'=>∃A c,e=.returned (.slice A (bp N.d).length c)/\cX w' u.heap.size 3 1 cI A c (bp N.d)/\Below u.heap.size u w':=by
  intro u Bx h1 h2 h3;have h:=aj3 N u Bx w.heap.size h1 h2 h3 ft;clear h1 h2 h3 hok ft
  go_enter Tryz.func147,Tryz.ntmps147
  go_wp2_with (go_at_call 190;refine h.mono ?_;rintro e w' ⟨A,c,rfl,ho,hb⟩)
  go_ret
  exact⟨A,c,rfl,ho,hb⟩
 have hv:∀w:World,Calls Tryz.prog 148 #[.agg #[.int .i64 N.vars,.slice N.Ai N.ax.length N.ci,.slice N.Al N.ah.length N.cl,.slice N.Ao N.bk.length N.co,.slice N.Ab N.aU.length N.cb,.slice N.Ac N.constraints.length N.cc,.slice N.Am N.af.length N.cm,.slice N.An N.ag.length N.cn]] w fun e w'=>e=.returned (.func (.func 191) #[] #[.pointer (some ⟨w.heap.size,0,none⟩)])/\w'=w.alloc (.cells #[.int .i64 N.vars,.slice N.Ai N.ax.length N.ci,.slice N.Al N.ah.length N.cl,.slice N.Ao N.bk.length N.co,.slice N.Ab N.aU.length N.cb,.slice N.Ac N.constraints.length N.cc,.slice N.Am N.af.length N.cm,.slice N.An N.ag.length N.cn] 27):=fun w=>by have:=(callsIn_wide (n:=1)).1 (abl Fence.wide 1 trivial rfl N w);unfold aY.v aY.fs at this;exact this
 have hb0:Below w.heap.size w ((w.alloc (.cells #[.int .i64 N.vars,.slice N.Ai N.ax.length N.ci,.slice N.Al N.ah.length N.cl,.slice N.Ao N.bk.length N.co,.slice N.Ab N.aU.length N.cb,.slice N.Ac N.constraints.length N.cc,.slice N.Am N.af.length N.cm,.slice N.An N.ag.length N.cn] 27)).alloc (.cells #[.int .i64 N.vars,.slice N.Ai N.ax.length N.ci,.slice N.Al N.ah.length N.cl,.slice N.Ao N.bk.length N.co,.slice N.Ab N.aU.length N.cb,.slice N.Ac N.constraints.length N.cc,.slice N.Am N.af.length N.cm,.slice N.An N.ag.length N.cn] 27)):=((Below.refl _ w).alloc (ro _) _).alloc aue _;have hc:=hcol ((w.alloc (.cells #[.int .i64 N.vars,.slice N.Ai N.ax.length N.ci,.slice N.Al N.ah.length N.cl,.slice N.Ao N.bk.length N.co,.slice N.Ab N.aU.length N.cb,.slice N.Ac N.constraints.length N.cc,.slice N.Am N.af.length N.cm,.slice N.An N.ag.length N.cn] 27)).alloc (.cells #[.int .i64 N.vars,.slice N.Ai N.ax.length N.ci,.slice N.Al N.ah.length N.cl,.slice N.Ao N.bk.length N.co,.slice N.Ab N.aU.length N.cb,.slice N.Ac N.constraints.length N.cc,.slice N.Am N.af.length N.cm,.slice N.An N.ag.length N.cn] 27)) (w.alloc (.cells #[.int .i64 N.vars,.slice N.Ai N.ax.length N.ci,.slice N.Al N.ah.length N.cl,.slice N.Ao N.bk.length N.co,.slice N.Ab N.aU.length N.cb,.slice N.Ac N.constraints.length N.cc,.slice N.Am N.af.length N.cm,.slice N.An N.ag.length N.cn] 27)).heap.size (bD.new _ _ _) aue (hok.below hb0);rw[World.size_alloc]at hc;have HB:=Lib.hid hb0;have HC:=Lib.hid hc;clear hcol hok ft hb0 hc;have HV:=Lib.hid hv;clear hv;unfold aY.v aY.fs
 go_enter Tryz.func111,Tryz.ntmps111
 go_wp2_with (first|(go_at_call 148;refine(HV.out _).mono ?_;rintro e w' ⟨rfl,rfl⟩)|(go_at_call 147;refine HC.out.mono ?_;rintro e w' ⟨A,c,rfl,ho,hb⟩))
 go_ret
 refine⟨A,c,rfl,dB ho fun b hb2=>⟨rfl,?_⟩,HB.out.trans (hb.mono HB.out.size)⟩;have:=(py ho b hb2).1;have:=HB.out.size;omega
open Go
def kL:Array Value:=#[.int .i64 0,.slice none 0 0,.slice none 0 0,.slice none 0 0,.slice none 0 0,.slice none 0 0,.slice none 0 0,.slice none 0 0]
def lZ(k:Nat):Nat:=[1,3,4,5].getD k 0
def aY.jQ(N:aY)(k:Nat):jp:=[N.ax,N.bk,N.aU,N.constraints].getD k []
def aY.sd(N:aY)(k:Nat):pi×Nat:=[(N.Ai,N.ci),(N.Ao,N.co),(N.Ab,N.cb),(N.Ac,N.cc)].getD k (none,0)
def qa(N:aY)(H:Nat->pi×Nat):Array Value:=#[.int .i64 N.vars,.slice (H 0).1 N.ax.length (H 0).2,.slice N.Al N.ah.length N.cl,.slice (H 1).1 N.bk.length (H 1).2,.slice (H 2).1 N.aU.length (H 2).2,.slice (H 3).1 N.constraints.length (H 3).2,.slice N.Am N.af.length N.cm,.slice N.An N.ag.length N.cn]
structure sQ(w:World)(N:aY)(j:Nat)(wr:World):Prop where
 ex:∃H:Nat->pi×Nat,bD wr w.heap.size 27 (qa N H)/\(∀k,k<j->cX wr w.heap.size 3 1 cI (H k).1 (H k).2 (N.jQ k))/\(∀k,j<=k->k<4->H k=N.sd k) /\
  ((List.range j).flatMap fun k=>aO (H k).1).Nodup/\∀b∈(List.range j).flatMap (fun k=>aO (H k).1),w.heap.size+2<b/\b<wr.heap.size
 asa:∀k,k<4->wr.cell? ⟨w.heap.size+2,k,none⟩=some (.pointer (some ⟨w.heap.size,lZ k,none⟩))
 res:bD wr (w.heap.size+1) 27 kL
 low:Below w.heap.size w wr
 size:w.heap.size+2<wr.heap.size
theorem four{P:Nat->Prop}(h0:P 0)(h1:P 1)(h2:P 2)(h3:P 3):∀k,k<4->P k
 |0,_=>h0|1,_=>h1|2,_=>h2|3,_=>h3|k+4,h=>absurd h auc
theorem aY.sl4(N:aY){B:Nat}(hN:N.dk w B):∀k,k<4->Sl w B 1 (N.sd k).1 (N.jQ k).length (N.sd k).2 (ints (N.jQ k)):=four hN.ins hN.out hN.fe hN.ga
theorem aY.ar7(N:aY)(hF:Fit N.d):∀k,k<4->(N.jQ k).length<=1048576:=
 four (by have h:N.ax.length<=4000:=hF.ins.1;show N.ax.length<=_;omega) (by have h:N.bk.length<=4000:=hF.out.1;show N.bk.length<=_;omega) (by have h:N.aU.length<=4000:=hF.fe.1;show N.aU.length<=_;omega)
  (by have h:N.constraints.length<=4000:=hF.ga.1;show N.constraints.length<=_;omega)
theorem alS(N:aY)(H:Nat->pi×Nat)(A1:pi)(k1:Nat):∀j,j<4->(qa N H).setIfInBounds (lZ j) (.slice A1 (N.jQ j).length k1)=qa N (fun k=>if k=j then(A1,k1)else H k):=four rfl rfl rfl rfl
theorem am6(N:aY)(H:Nat->pi×Nat):∀j,j<4->(qa N H)[lZ j]?=some (.slice (H j).1 (N.jQ j).length (H j).2):=four rfl rfl rfl rfl
theorem pw{l m:md}{n:Nat}(h:l.Nodup)(hm:m.Nodup)(h1:∀b∈l,b<n)(h2:∀b∈m,n<=b):(l++m).Nodup:=rx.2 ⟨h,hm,fun a ha b hb e=>by have:=h1 a ha;have:=h2 b hb;omega⟩
variable{l:List α}{β:Type}
theorem NR{f g:α->List β}(h:∀a∈l,f a=g a):l.flatMap f=l.flatMap g:=by induction l with|nil=>rfl|cons x l ih=>rw[ww,ww,h x (Pi ..),ih fun a ha=>h a (Id _ ha)]
theorem pA(A:pi):(aO A).Nodup:=by cases A<;>simp[aO]
variable{A1:pi}{w1:World}{wr:World}{N:aY}
theorem sQ.next{j:Nat}{k1:Nat}(h:sQ w N j wr)(hlt:j<4)(hb:Below wr.heap.size wr w1)(ho:cX w1 wr.heap.size 3 1 cI A1 k1 (N.jQ j))(hl:∀b∈aO A1,wr.heap.size<=b/\b<w1.heap.size) :
  sQ w N (j+1) (w1.setCell ⟨w.heap.size,lZ j,none⟩ (.slice A1 (N.jQ j).length k1)):=by
 obtain⟨⟨H,c1,c2,c3,c4,c5⟩,p,s,lo,sz⟩:=h;have hB:w.heap.size<wr.heap.size:=auc
 have hheap:∀b,b≠w.heap.size->(w1.setCell ⟨w.heap.size,lZ j,none⟩ (.slice A1 (N.jQ j).length k1)).heap[b]?=w1.heap[b]?:=fun b e=>sA w1 _ _ b fun q=>e q.symm;have hsize:(w1.setCell ⟨w.heap.size,lZ j,none⟩ (.slice A1 (N.jQ j).length k1)).heap.size=w1.heap.size:=by simp[World.setCell]
 have hsz1:=hb.size;refine⟨⟨fun k=>if k=j then(A1,k1)else H k,?_,?_,?_,?_,?_⟩,?_,?_,?_,?_⟩
 .have:=(c1.below hb hB).gO (lZ j) (.slice A1 (N.jQ j).length k1)
  rwa [alS N H A1 k1 j hlt]at this
 .intro k hk;by_cases e:k=j
  .subst e;simp only[IO];refine dB ho fun b q=>⟨hheap b ?_,?_⟩
   .have:=(hl b q).1;omega
   .have:=(hl b q).1;omega
  .simp only[Fr e];have hk':k<j:=auc
   refine dB (c2 k hk') fun b q=>?_;have hb5:=c5 b (rc.2 ⟨k,act.2 hk',q⟩);exact⟨(hheap b auc).trans (hb.block b hb5.2),auc⟩
 .intro k h1 h2;have e:¬k=j:=auc
  simp only[Fr e];exact c3 k auc h2
 .have e:(List.range (j+1)).flatMap (fun k=>aO (if k=j then(A1,k1)else H k).1)=(List.range j).flatMap (fun k=>aO (H k).1)++aO A1:=by
   rw[asA,BT];congr 1
   .exact NR fun k hk=>by rw[Fr (by have:=act.1 hk;omega)]
   .simp
  rw[e];exact pw c4 (pA _) (fun b hb=>(c5 b hb).2) fun b hb=>(hl b hb).1
 .intro b hbm;rw[hsize];obtain⟨k,hk,hq⟩:=rc.1 hbm
  replace hq:b∈aO (if k=j then(A1,k1)else H k).1:=hq
  by_cases e:k=j
  .rw[IO e]at hq;have:=hl b hq;omega
  .rw[Fr e]at hq;have:=c5 b (rc.2 ⟨k,act.2 (by have:=act.1 hk;omega),hq⟩);omega
 .intro k hk;exact(Of w1 _ _ _ rfl rfl (fun q=>by have:w.heap.size=w.heap.size+2:=OF Addr.block q;omega)).trans ((hb.cell sz).trans (p k hk))
 .exact(hheap _ auc).trans (s.below hb auc)
 .exact(lo.trans (hb.mono (asZ hB))).setCell (ro _) _
 .rw[hsize];omega
structure FG(w:World)(N:aY)(wr:World):Prop where
 ex:∃M:aY,M.d=N.d/\M.af=N.af/\bD wr w.heap.size 27 M.fs/\cX wr w.heap.size 3 1 cI M.Ai M.ci M.ax/\cX wr w.heap.size 3 1 cI M.Ao M.co M.bk/\cX wr w.heap.size 3 1 cI M.Ab M.cb M.aU/\cX wr w.heap.size 3 1 cI M.Ac M.cc M.constraints /\
  cX wr w.heap.size 78 3 dI.cells M.Al M.cl M.ah/\cX wr w.heap.size 113 3 dM.cells M.An M.cn M.ag/\cX wr w.heap.size 97 5 aQ.cells M.Am M.cm M.af/\M.fl.Nodup/\∀b∈M.fl,w.heap.size+2<b/\b<wr.heap.size
 res:bD wr (w.heap.size+1) 27 kL
 low:Below w.heap.size w wr
 size:w.heap.size+2<wr.heap.size
theorem sQ.mid{wl wn wm:World}{Al An Am:pi}{cl cn cm:Nat}(h:sQ w N 4 wr)(hl:Below wr.heap.size wr wl)(hn:Below wl.heap.size wl wn)(hm:Below wn.heap.size wn wm)
  (ol:cX wl wr.heap.size 78 3 dI.cells Al cl N.ah) (on_:cX wn wl.heap.size 113 3 dM.cells An cn N.ag) (om:cX wm wn.heap.size 97 5 aQ.cells Am cm N.af)
  (ll:∀b∈aO Al,wr.heap.size<=b/\b<wl.heap.size) (ln:∀b∈aO An,wl.heap.size<=b/\b<wn.heap.size) (lm:∀b∈aO Am,wn.heap.size<=b/\b<wm.heap.size) :
  FG w N (((wm.setCell ⟨w.heap.size,2,none⟩ (.slice Al N.ah.length cl)).setCell ⟨w.heap.size,7,none⟩ (.slice An N.ag.length cn)).setCell ⟨w.heap.size,6,none⟩ (.slice Am N.af.length cm)):=by
 obtain⟨⟨H,c1,c2,c3,c4,c5⟩,p,s,lo,sz⟩:=h;have k1:=hl.size;have k2:=hn.size;have k3:=hm.size;have hw:Below wr.heap.size wr wm:=(hl.trans (hn.mono k1)).trans (hm.mono (EQ k1 k2));have hB:w.heap.size<wr.heap.size:=auc
 have hheap:∀b,b≠w.heap.size->(((wm.setCell ⟨w.heap.size,2,none⟩ (.slice Al N.ah.length cl)).setCell ⟨w.heap.size,7,none⟩ (.slice An N.ag.length cn)).setCell ⟨w.heap.size,6,none⟩ (.slice Am N.af.length cm)).heap[b]?=wm.heap[b]?:=fun b e=>(sA _ _ _ b fun q=>e q.symm).trans ((sA _ _ _ b fun q=>e q.symm).trans (sA _ _ _ b fun q=>e q.symm));have hsize:(((wm.setCell ⟨w.heap.size,2,none⟩ (.slice Al N.ah.length cl)).setCell ⟨w.heap.size,7,none⟩ (.slice An N.ag.length cn)).setCell ⟨w.heap.size,6,none⟩ (.slice Am N.af.length cm)).heap.size=wm.heap.size:=by simp[World.setCell]
 have hown:∀k,k<4->cX (((wm.setCell ⟨w.heap.size,2,none⟩ (.slice Al N.ah.length cl)).setCell ⟨w.heap.size,7,none⟩ (.slice An N.ag.length cn)).setCell ⟨w.heap.size,6,none⟩ (.slice Am N.af.length cm)) w.heap.size 3 1 cI (H k).1 (H k).2 (N.jQ k):=fun k hk=>dB (c2 k hk) fun b q=>by have h5:=c5 b (rc.2 ⟨k,act.2 hk,q⟩);exact⟨(hheap b auc).trans (hw.block b h5.2),auc⟩
 have e4:(List.range 4).flatMap (fun k=>aO (H k).1)=aO (H 0).1++(aO (H 1).1++(aO (H 2).1++aO (H 3).1)):=by simp[asA]
 rw[e4]at c4 c5;refine⟨⟨{ N with Ai:=(H 0).1,ci:=(H 0).2,Ao:=(H 1).1,co:=(H 1).2,Ab:=(H 2).1,cb:=(H 2).2,Ac:=(H 3).1,cc:=(H 3).2,Al:=Al,cl:=cl,An:=An,cn:=cn,Am:=Am,cm:=cm },rfl,rfl,?_,hown 0 auc,hown 1 auc,hown 2 auc,hown 3 auc,?_,?_,?_,?_,?_⟩,?_,?_,?_⟩
 .exact(((c1.below hw hB).gO 2 _).gO 7 _).gO 6 _
 .exact dB ol fun b q=>by have:=ll b q;exact⟨(hheap b auc).trans ((hm.block b auc).trans (hn.block b auc)),auc⟩
 .exact dB on_ fun b q=>by have:=ln b q;exact⟨(hheap b auc).trans (hm.block b auc),auc⟩
 .exact dB om fun b q=>by have:=lm b q;exact⟨hheap b auc,auc⟩
 .show(aO (H 0).1++(aO (H 1).1++(aO (H 2).1++(aO (H 3).1++(aO Al++(aO An++aO Am)))))).Nodup;have:=pw (n:=wn.heap.size) (pw (n:=wl.heap.size) (pw (n:=wr.heap.size) c4 (pA Al) (fun b hb=>(c5 b hb).2) fun b hb=>(ll b hb).1) (pA An) (fun b hb=>by
   rcases qr.1 hb with h|h
   .have:=(c5 b h).2;omega
   .exact(ll b h).2) fun b hb=>(ln b hb).1) (pA Am) (fun b hb=>by
   rcases qr.1 hb with h|h
   .rcases qr.1 h with h|h
    .have:=(c5 b h).2;omega
    .have:=(ll b h).2;omega
   .exact(ln b h).2) fun b hb=>(lm b hb).1
  simpa only[bM]using this
 .intro b hb;rw[hsize];have hb:b∈aO (H 0).1++(aO (H 1).1++(aO (H 2).1++(aO (H 3).1++(aO Al++(aO An++aO Am))))):=hb;simp only[qr]at hb c5;rcases hb with h|h|h|h|h|h|h
  .have:=c5 b (.inl h);omega
  .have:=c5 b (.inr (.inl h));omega
  .have:=c5 b (.inr (.inr (.inl h)));omega
  .have:=c5 b (.inr (.inr (.inr h)));omega
  .have:=ll b h;omega
  .have:=ln b h;omega
  .have:=lm b h;omega
 .exact(hheap _ auc).trans (s.below hw auc)
 .exact(((lo.trans (hw.mono (asZ hB))).setCell (ro _) _).setCell (ro _) _).setCell (ro _) _
 .rw[hsize];omega
structure rQ(W1:World)(B:Nat)(A:pi)(c:Nat)(rs0:List bZ)(k:Nat)(rs:List bZ)(wq:World):Prop where
 g:W1.grownBy wq (A.map Addr.block)
 len:rs.length=rs0.length
 d:rs.map bZ.d=rs0.map bZ.d
 dr:rs.drop k=rs0.drop k
 row:cX wq B 148 2 bZ.cells A c rs
 own:∀r∈rs.take k,r.own wq W1.heap.size
 nd:((rs.take k).flatMap bZ.bs).Nodup
 lt:∀b∈(rs.take k).flatMap bZ.bs,W1.heap.size<=b/\b<wq.heap.size
structure rR(W1:World)(B:Nat)(A:pi)(c:Nat)(rs0:List cj)(k:Nat)(rs:List cj)(wq:World):Prop where
 g:W1.grownBy wq (A.map Addr.block)
 len:rs.length=rs0.length
 d:rs.map cj.d=rs0.map cj.d
 dr:rs.drop k=rs0.drop k
 row:cX wq B 174 3 cj.cells A c rs
 own:∀r∈rs.take k,r.own wq W1.heap.size
 nd:((rs.take k).flatMap cj.bs).Nodup
 lt:∀b∈(rs.take k).flatMap cj.bs,W1.heap.size<=b/\b<wq.heap.size
variable{i:Nat}
theorem pk{x:α}(h:i<l.length):(l.set i x).take (i+1)=l.take i++[x]:=by rw[Pl.cK (asE h),List.take_set_of_le (ro _)]
theorem NG{x:α}:(l.set i x).drop (i+1)=l.drop (i+1):=List.drop_set_of_lt (Nat.lt_succ_self _)
theorem NK{g:α->β}{x y:α}(h:l[i]?=some y)(e:g x=g y):(l.set i x).map g=l.map g:=by
 refine asD fun j=>?_;rw[cW,cW,List.getElem?_set];split
 .rename_i q;subst q;rw[h];have:=(rg.1 h).1;rw[IO this];exact OF some e
 .rfl
theorem Oh{m:List α}(h:l.drop i=m.drop i):l[i]?=m[i]?:=by have:=OF (·[0]?) h;simpa[atE]using this
theorem NQ{m:List α}(h:l.drop i=m.drop i):l.drop (i+1)=m.drop (i+1):=by have:=OF (List.drop 1) h;simpa[atM,Nat.add_comm]using this
variable{b:Nat}{k:Nat}{rs:List bZ}{c1:Nat}{wq:World}
theorem rQ.next{B:Nat}{c:Nat}{rs0:List bZ}{r:bZ}(h:rQ W1 B A c rs0 k rs wq)(hr:rs[k]?=some r)(hA:A=some ⟨b,0,none⟩)(hb:b<W1.heap.size)
  (hw:Below wq.heap.size wq w1) (ho:cX w1 wq.heap.size 3 1 cI A1 c1 r.addr) (hl:∀b∈aO A1,wq.heap.size<=b/\b<w1.heap.size) :
  rQ W1 B A c rs0 (k+1) (rs.set k { r with A:=A1,c:=c1 }) (w1.setCell ⟨b,k*2+1,none⟩ (.slice A1 r.addr.length c1)):=by
 subst hA;have hk:=(rg.1 hr).1;have hg:=h.g;have hs1:=hg.size;have hs2:=hw.size;have hsz:(w1.setCell ⟨b,k*2+1,none⟩ (.slice A1 r.addr.length c1)).heap.size=w1.heap.size:=by simp[World.setCell]
 have gw:wq.grownBy (w1.setCell ⟨b,k*2+1,none⟩ (.slice A1 r.addr.length c1)) (some b):=pv (EM hw) (px w1 b _ _);refine⟨pv hg gw,by rw[aig];exact h.len,(NK (x:={ r with A:=A1,c:=c1 }) hr rfl).trans h.d,NG.trans (NQ h.dr),?_,?_,?_,?_⟩
 .have:cX w1 B 148 2 bZ.cells (some ⟨b,0,none⟩) c rs:=dB h.row fun x q=>by
   have:x=b:=by simpa[aO]using q
   subst this;refine⟨hw.block x auc,?_⟩;by_cases hx:rs=[]
   .rw[hx]at hr;cases hr
   .obtain⟨g,e,h1,_⟩:=kC h.row hx;have:g=x:=by have:=BY e;exact(OF Addr.block this).symm
    omega
  exact xk sX this rfl hr auc rfl
 .intro x hx;rw[pk hk]at hx;rcases qr.1 hx with hx|hx
  .refine bZ.dB (h.own x hx) fun y q=>?_;have:=h.lt y (rc.2 ⟨x,hx,q⟩);exact⟨gw.block y auc (fun e=>by have:=BY e;omega),auc⟩
  .obtain rfl:=GE.1 hx;refine dB ho fun y q=>?_;have:=hl y q;exact⟨(px w1 b _ _).block y auc (fun e=>by have:=BY e;omega),auc⟩
 .rw[pk hk,BT];refine pw h.nd ?_ (fun y q=>(h.lt y q).2) (fun y q=>(hl y ?_).1)
  .simpa[bZ.bs]using pA A1
  .simpa[bZ.bs]using q
 .intro y q;rw[pk hk,BT]at q;rw[hsz];rcases qr.1 q with q|q
  .have:=h.lt y q;omega
  .have:=hl y (by simpa[bZ.bs]using q);omega
variable{w2:World}{A2:pi}{c2:Nat}
theorem rR.next{B:Nat}{c:Nat}{rs0 rs:List cj}{r:cj}(h:rR W1 B A c rs0 k rs wq)(hr:rs[k]?=some r)(hA:A=some ⟨b,0,none⟩)(hb:b<W1.heap.size)
  (hw:Below wq.heap.size wq w1) (ho:cX w1 wq.heap.size 3 1 cI A1 c1 r.addr) (hl:∀b∈aO A1,wq.heap.size<=b/\b<w1.heap.size)
  (hw2:Below w1.heap.size w1 w2) (ho2:cX w2 w1.heap.size 3 1 cI A2 c2 r.data) (hl2:∀b∈aO A2,w1.heap.size<=b/\b<w2.heap.size) :
  rR W1 B A c rs0 (k+1) (rs.set k { r with A:=A1,c:=c1,A2:=A2,c2:=c2 }) ((w2.setCell ⟨b,k*3+1,none⟩ (.slice A1 r.addr.length c1)).setCell ⟨b,k*3+2,none⟩ (.slice A2 r.data.length c2)):=by
 subst hA;have hk:=(rg.1 hr).1;have hg:=h.g;have hs1:=hg.size;have hs2:=hw.size;have hs3:=hw2.size;have hsz:((w2.setCell ⟨b,k*3+1,none⟩ (.slice A1 r.addr.length c1)).setCell ⟨b,k*3+2,none⟩ (.slice A2 r.data.length c2)).heap.size=w2.heap.size:=by simp[World.setCell]
 have gs:w2.grownBy ((w2.setCell ⟨b,k*3+1,none⟩ (.slice A1 r.addr.length c1)).setCell ⟨b,k*3+2,none⟩ (.slice A2 r.data.length c2)) (some b):=pv (px w2 b _ _) (px _ b _ _);have hww:=hw.trans (hw2.mono hs2);have gw:=pv (EM hww) gs;refine⟨pv hg gw,by rw[aig];exact h.len,(NK (x:={ r with A:=A1,c:=c1,A2:=A2,c2:=c2 }) hr rfl).trans h.d,NG.trans (NQ h.dr),?_,?_,?_,?_⟩
 .have:cX w2 B 174 3 cj.cells (some ⟨b,0,none⟩) c rs:=dB h.row fun x q=>by
   have:x=b:=by simpa[aO]using q
   subst this;refine⟨hww.block x auc,?_⟩;by_cases hx:rs=[]
   .rw[hx]at hr;cases hr
   .obtain⟨g,e,h1,_⟩:=kC h.row hx;have:g=x:=by have:=BY e;exact(OF Addr.block this).symm
    omega
  have q1:=xk (x':={ r with A:=A1,c:=c1 }) ov this rfl hr (show 1<3 by omega) rfl;have q2:=xk (x':={ r with A:=A1,c:=c1,A2:=A2,c2:=c2 }) ov q1 rfl (asE hk) (show 2<3 by omega) rfl
  rwa [List.set_set]at q2
 .intro x hx;rw[pk hk]at hx;rcases qr.1 hx with hx|hx
  .refine cj.dB (h.own x hx) fun y q=>?_;have:=h.lt y (rc.2 ⟨x,hx,q⟩);exact⟨gw.block y auc (fun e=>by have:=BY e;omega),auc⟩
  .obtain rfl:=GE.1 hx;refine⟨dB ho fun y q=>?_,dB ho2 fun y q=>?_⟩
   .have:=hl y q;exact⟨(gs.block y auc (fun e=>by have:=BY e;omega)).trans (hw2.block y auc),auc⟩
   .have:=hl2 y q;exact⟨gs.block y auc (fun e=>by have:=BY e;omega),auc⟩
 .rw[pk hk,BT];have e:List.flatMap cj.bs [({ r with A:=A1,c:=c1,A2:=A2,c2:=c2 }:cj)]=aO A1++aO A2:=by simp[cj.bs]
  rw[e];refine pw h.nd (pw (pA A1) (pA A2) (fun y q=>(hl y q).2) fun y q=>(hl2 y q).1) (fun y q=>(h.lt y q).2) fun y q=>?_;rcases qr.1 q with q|q
  .exact(hl y q).1
  .have:=(hl2 y q).1;omega
 .intro y q;rw[pk hk,BT]at q;rw[hsz];rcases qr.1 q with q|q
  .have:=h.lt y q;omega
  .have e:List.flatMap cj.bs [({ r with A:=A1,c:=c1,A2:=A2,c2:=c2 }:cj)]=aO A1++aO A2:=by simp[cj.bs]
   rw[e]at q;rcases qr.1 q with q|q
   .have:=hl y q;omega
   .have:=hl2 y q;omega
structure oB(w:World)(M0:aY)(i:Nat)(ms:List aQ)(wr:World):Prop where
 box:bD wr w.heap.size 27 M0.fs
 ins:cX wr w.heap.size 3 1 cI M0.Ai M0.ci M0.ax
 out:cX wr w.heap.size 3 1 cI M0.Ao M0.co M0.bk
 fe:cX wr w.heap.size 3 1 cI M0.Ab M0.cb M0.aU
 ga:cX wr w.heap.size 3 1 cI M0.Ac M0.cc M0.constraints
 aT:cX wr w.heap.size 78 3 dI.cells M0.Al M0.cl M0.ah
 and:cX wr w.heap.size 113 3 dM.cells M0.An M0.cn M0.ag
 len:ms.length=M0.af.length
 d:ms.map aQ.d=M0.af.map aQ.d
 dr:ms.drop i=M0.af.drop i
 row:cX wr w.heap.size 97 5 aQ.cells M0.Am M0.cm ms
 own:∀m∈ms.take i,m.own wr w.heap.size
 nd:(M0.fl++(ms.take i).flatMap aQ.bs).Nodup
 lt:∀b∈M0.fl++(ms.take i).flatMap aQ.bs,w.heap.size+2<b/\b<wr.heap.size
 res:bD wr (w.heap.size+1) 27 kL
 low:Below w.heap.size w wr
 size:w.heap.size+2<wr.heap.size
variable{ms:List aQ}{m:aQ}{bm:Nat}{w9:World}{M0:aY}
theorem oB.next{m':aQ}(h:oB w M0 i ms wr)(hm:ms[i]?=some m)(hA:M0.Am=some ⟨bm,0,none⟩)(hg:wr.grownBy w9 (some bm))(hd:m'.d=m.d)
  (ho:cX w9 w.heap.size 97 5 aQ.cells M0.Am M0.cm (ms.set i m')) (how:m'.own w9 w.heap.size) (hn:m'.bs.Nodup) (hl:∀b∈m'.bs,wr.heap.size<=b/\b<w9.heap.size):oB w M0 (i+1) (ms.set i m') w9:=by
 have hi:=(rg.1 hm).1;have hs:=hg.size;have hsz:=h.size;have hbm0:bm∈M0.fl:=by unfold aY.fl;simp[hA,aO]
 have hbm:=h.lt bm (AI _ hbm0);have hlt:=h.lt;have hnd:=h.nd;have n0:=(rx.1 hnd).1;have key:∀b,b<wr.heap.size->b≠bm->w9.heap[b]?=wr.heap[b]?:=fun b hb e=>hg.block b hb fun q=>e (BY q);have dis:∀A:pi,(∀b∈aO A,b∈aO M0.Ai++(aO M0.Ao++(aO M0.Ab++(aO M0.Ac++(aO M0.Al++aO M0.An)))))->∀b∈aO A,w9.heap[b]?=wr.heap[b]?/\w.heap.size<=b:=by
  intro A hs b q;have hb:=hs b q;have e0:M0.fl=(aO M0.Ai++(aO M0.Ao++(aO M0.Ab++(aO M0.Ac++(aO M0.Al++aO M0.An)))))++aO M0.Am:=by unfold aY.fl;simp only[bM]
  have hb2:=hlt b (AI _ (by rw[e0];exact AI _ hb));refine⟨key b hb2.2 ?_,auc⟩;rw[e0]at n0;exact(rx.1 n0).2.2 b hb bm (by simp[hA,aO])
 refine⟨?_,dB h.ins (dis _ ?_),dB h.out (dis _ ?_),dB h.fe (dis _ ?_),dB h.ga (dis _ ?_),dB h.aT (dis _ ?_),dB h.and (dis _ ?_),by rw[aig];exact h.len,(NK hm hd).trans h.d,NG.trans (NQ h.dr),ho,?_,?_,?_,?_,?_,?_⟩
 .exact(key _ auc auc).trans h.box
 .intro b q;simp only[qr];exact .inl q
 .intro b q;simp only[qr];exact .inr (.inl q)
 .intro b q;simp only[qr];exact .inr (.inr (.inl q))
 .intro b q;simp only[qr];exact .inr (.inr (.inr (.inl q)))
 .intro b q;simp only[qr];exact .inr (.inr (.inr (.inr (.inl q))))
 .intro b q;simp only[qr];exact .inr (.inr (.inr (.inr (.inr q))))
 .intro x hx;rw[pk hi]at hx;rcases qr.1 hx with hx|hx
  .refine aQ.dB (h.own x hx) fun b q=>?_;have hb:b∈(ms.take i).flatMap aQ.bs:=rc.2 ⟨x,hx,q⟩;have:=hlt b (Fd _ hb);exact⟨key b this.2 (fun e=>(rx.1 hnd).2.2 bm hbm0 b hb e.symm),auc⟩
  .obtain rfl:=GE.1 hx;exact how
 .rw[pk hi,BT,<-bM];refine pw hnd ?_ (fun b q=>(hlt b q).2) fun b q=>(hl b ?_).1
  .simpa using hn
  .simpa using q
 .intro b q;rw[pk hi,BT,<-bM]at q;rcases qr.1 q with q|q
  .have:=hlt b q;omega
  .have:=hl b (by simpa using q);omega
 .exact(key _ auc auc).trans h.res
 .exact⟨hg.os.trans h.low.os,hg.tape.trans h.low.tape,hg.output.trans h.low.output,EQ h.low.size hs,fun k hk=>(key k auc auc).trans (h.low.block k hk)⟩
 .omega
theorem FG.first(h:FG w N wr):∃M:aY,M.d=N.d/\M.af=N.af/\oB w M 0 M.af wr:=by obtain⟨⟨M,e1,e2,h1,h2,h3,h4,h5,h6,h7,h8,h9,h10⟩,r,l,s⟩:=h;exact⟨M,e1,e2,h1,h2,h3,h4,h5,h6,h7,rfl,rfl,rfl,h8,(fun m hm=>by cases hm),by simpa using h9,by simpa using h10,r,l,s⟩
theorem akb{c:Nat}{ws:List cj}(h:oB w M0 i ms wr)(hm:ms[i]?=some m)(hA:M0.Am=some ⟨bm,0,none⟩)
  (g1:wr.grownBy W1 (some bm)) (o1:cX W1 w.heap.size 97 5 aQ.cells M0.Am M0.cm (ms.set i { m with A:=A,c:=c,A2:=A2,c2:=c2 }))
  (nd:(aO A++aO A2).Nodup) (lt:∀b∈aO A++aO A2,wr.heap.size<=b/\b<W1.heap.size)
  (r1:rQ W1 wr.heap.size A c m.reads m.reads.length rs W2) (r2:rR W2 wr.heap.size A2 c2 m.writes m.writes.length ws w9) :
  oB w M0 (i+1) (ms.set i { m with A:=A,c:=c,A2:=A2,c2:=c2,reads:=rs,writes:=ws }) w9:=by
 have hi:=(rg.1 hm).1;have hbm:=h.lt bm (AI _ (by unfold aY.fl;simp[hA,aO]));have s1:=g1.size;have s2:=r1.g.size;have s3:=r2.g.size;have hsz:=h.size;have tr:rs.take m.reads.length=rs:=by rw[<-r1.len,cV]
 have tw:ws.take m.writes.length=ws:=by rw[<-r2.len,cV]
 have lr:=r1.lt;have lw:=r2.lt;have nr:=r1.nd;have nw:=r2.nd;have hor:=r1.own;have how:=r2.own;rw[tr]at lr nr hor;rw[tw]at lw nw how;have dA:=rx.1 nd;have lA:∀b∈aO A,wr.heap.size<=b/\b<W1.heap.size:=fun b q=>lt b (AI _ q);have lA2:∀b∈aO A2,wr.heap.size<=b/\b<W1.heap.size:=fun b q=>lt b (Fd _ q);have mrow:∀{A:pi}{b:Nat},some b=A.map Addr.block->b∈aO A:=fun{A b} e=>by unfold aO;rw[<-e];simp
 have k2:∀b,b<W1.heap.size->b∉aO A->W2.heap[b]?=W1.heap[b]?:=fun b hb e=>r1.g.block b hb fun q=>e (mrow q);have k3:∀b,b<W2.heap.size->b∉aO A2->w9.heap[b]?=W2.heap[b]?:=fun b hb e=>r2.g.block b hb fun q=>e (mrow q);have g:wr.grownBy w9 (some bm):=⟨(r2.g.os.trans r1.g.os).trans g1.os,(r2.g.tape.trans r1.g.tape).trans g1.tape,(r2.g.output.trans r1.g.output).trans g1.output,auc,fun b hb e=>(k3 b auc fun q=>by have:=lA2 b q;omega).trans ((k2 b auc fun q=>by have:=lA b q;omega).trans (g1.block b hb e))⟩;refine h.next hm hA g ?_ ?_ ⟨?_,?_,?_,?_⟩ ?_ ?_
 .show(⟨m.addr,m.word,m.any,rs.map bZ.d,ws.map cj.d⟩:cC)=_;rw[r1.d,r2.d];rfl
 .have e:(ms.set i { m with A:=A,c:=c,A2:=A2,c2:=c2,reads:=rs,writes:=ws }).flatMap aQ.cells=(ms.set i { m with A:=A,c:=c,A2:=A2,c2:=c2 }).flatMap aQ.cells:=by have f1:=E0 (f:=aQ.cells) (k:=4) (u:=.slice A2 m.writes.length c2) nD auc (ms.set i { m with A:=A,c:=c,A2:=A2,c2:=c2 }) i _ { m with A:=A,c:=c,A2:=A2,c2:=c2,reads:=rs,writes:=ws } (asE hi) (by show _=List.set [_,_,_,_,_] 4 _;simp only[aQ.cells,r1.len,r2.len];rfl);have f2:=E0 (f:=aQ.cells) (k:=4) (u:=.slice A2 m.writes.length c2) nD auc (ms.set i { m with A:=A,c:=c,A2:=A2,c2:=c2 }) i _ { m with A:=A,c:=c,A2:=A2,c2:=c2 } (asE hi) rfl;rw[List.set_set]at f1 f2;exact f1.symm.trans f2
  have:=dB (w':=w9) (B':=w.heap.size) o1 fun b q=>by
   have hb:b=bm:=by rw[hA]at q;simpa[aO]using q
   subst hb;exact⟨(k3 b auc fun q=>by have:=lA2 b q;omega).trans (k2 b auc fun q=>by have:=lA b q;omega),auc⟩
  unfold cX at this |-;rw[e,aig]
  rwa [aig]at this
 .exact dB r1.row fun b q=>⟨k3 b (by have:=lA b q;omega) fun p=>dA.2.2 b q b p rfl,by have:=lA b q;omega⟩
 .intro r hr;exact bZ.dB (hor r hr) fun b q=>by have:=lr b (rc.2 ⟨r,hr,q⟩);exact⟨k3 b this.2 fun p=>by have:=lA2 b p;omega,auc⟩
 .exact dB r2.row fun b q=>⟨rfl,by have:=lA2 b q;omega⟩
 .intro r hr;exact cj.dB (how r hr) fun b q=>by have:=lw b (rc.2 ⟨r,hr,q⟩);exact⟨rfl,auc⟩
 .show(aO A++(rs.flatMap bZ.bs++(aO A2++ws.flatMap cj.bs))).Nodup;refine rx.2 ⟨dA.1,rx.2 ⟨nr,rx.2 ⟨dA.2.1,nw,fun a ha b hb e=>?_⟩,fun a ha b hb e=>?_⟩,fun a ha b hb e=>?_⟩
  .have:=lA2 a ha;have:=lw b hb;omega
  .rcases qr.1 hb with hb|hb
   .have:=lr a ha;have:=lA2 b hb;omega
   .have:=lr a ha;have:=lw b hb;omega
  .rcases qr.1 hb with hb|hb
   .have:=lA a ha;have:=lr b hb;omega
   .rcases qr.1 hb with hb|hb
    .exact dA.2.2 a ha b hb e
    .have:=lA a ha;have:=lw b hb;omega
 .intro b hb;have hb:b∈aO A++(rs.flatMap bZ.bs++(aO A2++ws.flatMap cj.bs)):=hb;simp only[qr]at hb;rcases hb with q|q|q|q
  .have:=lA b q;omega
  .have:=lr b q;omega
  .have:=lA2 b q;omega
  .have:=lw b q;omega
def acA(w:World)(M0:aY)(i bm:Nat)(ms:List aQ)(m:aQ)(wr wx:World):Prop:=∃A c A2 c2,wr.grownBy wx (some bm)/\cX wx w.heap.size 97 5 aQ.cells M0.Am M0.cm (ms.set i { m with A:=A,c:=c,A2:=A2,c2:=c2 }) /\
 cX wx wr.heap.size 148 2 bZ.cells A c m.reads/\cX wx wr.heap.size 174 3 cj.cells A2 c2 m.writes/\(aO A++aO A2).Nodup/\∀b∈aO A++aO A2,wr.heap.size<=b/\b<wx.heap.size
theorem alM{c:Nat}(h:oB w M0 i ms wr)(hm:ms[i]?=some m)(hA:M0.Am=some ⟨bm,0,none⟩)
  (b1:Below wr.heap.size wr w1) (o1:cX w1 wr.heap.size 148 2 bZ.cells A c m.reads) (l1:∀b∈aO A,wr.heap.size<=b/\b<w1.heap.size)
  (b2:Below w1.heap.size w1 w2) (o2:cX w2 w1.heap.size 174 3 cj.cells A2 c2 m.writes) (l2:∀b∈aO A2,w1.heap.size<=b/\b<w2.heap.size) :
  acA w M0 i bm ms m wr ((w2.setCell ⟨bm,i*5+3,none⟩ (.slice A m.reads.length c)).setCell ⟨bm,i*5+4,none⟩ (.slice A2 m.writes.length c2)):=by
 have hi:=(rg.1 hm).1;have hbm:=h.lt bm (AI _ (by unfold aY.fl;simp[hA,aO]));have s1:=b1.size;have s2:=b2.size;have hsz:((w2.setCell ⟨bm,i*5+3,none⟩ (.slice A m.reads.length c)).setCell ⟨bm,i*5+4,none⟩ (.slice A2 m.writes.length c2)).heap.size=w2.heap.size:=by simp[World.setCell]
 have gs:w2.grownBy ((w2.setCell ⟨bm,i*5+3,none⟩ (.slice A m.reads.length c)).setCell ⟨bm,i*5+4,none⟩ (.slice A2 m.writes.length c2)) (some bm):=pv (px w2 bm _ _) (px _ bm _ _);have hww:=b1.trans (b2.mono s1);refine⟨A,c,A2,c2,pv (EM hww) gs,?_,?_,?_,pw (pA A) (pA A2) (fun b q=>(l1 b q).2) fun b q=>(l2 b q).1,?_⟩
 .have:cX w2 w.heap.size 97 5 aQ.cells M0.Am M0.cm ms:=dB h.row fun x q=>by
   have:x=bm:=by rw[hA]at q;simpa[aO]using q
   subst this;exact⟨hww.block x auc,auc⟩
  have q1:=xk (x':={ m with A:=A,c:=c }) nD this hA hm (show 3<5 by omega) rfl;have q2:=xk (x':={ m with A:=A,c:=c,A2:=A2,c2:=c2 }) nD q1 hA (asE hi) (show 4<5 by omega) rfl
  rwa [List.set_set]at q2
 .exact dB o1 fun y q=>by have:=l1 y q;exact⟨(gs.block y auc (fun e=>by have:=BY e;omega)).trans (b2.block y auc),auc⟩
 .exact dB o2 fun y q=>by have:=l2 y q;exact⟨gs.block y auc (fun e=>by have:=BY e;omega),auc⟩
 .intro b q;rw[hsz];rcases qr.1 q with q|q
  .have:=l1 b q;omega
  .have:=l2 b q;omega
theorem oB.last(h:oB w M0 M0.af.length ms wr)(hg:wr.grownBy w9 (some (w.heap.size+1))):({ M0 with af:=ms }:aY).own w9 w.heap.size:=by
 have tk:ms.take M0.af.length=ms:=by rw[<-h.len,cV]
 have hlt:=h.lt;have hnd:=h.nd;have how:=h.own;rw[tk]at hlt hnd how;have hs:=hg.size;have k:∀b∈M0.fl++ms.flatMap aQ.bs,w9.heap[b]?=wr.heap[b]?/\w.heap.size<=b:=fun b q=>by have:=hlt b q;exact⟨hg.block b this.2 fun e=>by have:=BY e;omega,auc⟩
 have k0:∀b∈M0.fl,w9.heap[b]?=wr.heap[b]?/\w.heap.size<=b:=fun b q=>k b (AI _ q);unfold aY.fl at k0;simp only[qr]at k0;refine⟨dB h.ins fun b q=>k0 b (.inl q),dB h.out fun b q=>k0 b (.inr (.inl q)),dB h.fe fun b q=>k0 b (.inr (.inr (.inl q))),dB h.ga fun b q=>k0 b (.inr (.inr (.inr (.inl q)))),dB h.aT fun b q=>k0 b (.inr (.inr (.inr (.inr (.inl q))))),dB h.and fun b q=>k0 b (.inr (.inr (.inr (.inr (.inr (.inl q)))))),dB h.row fun b q=>k0 b (.inr (.inr (.inr (.inr (.inr (.inr q)))))),fun m hm=>aQ.dB (how m hm) fun b q=>k b (Fd _ (rc.2 ⟨m,hm,q⟩)),hnd,fun b q=>by have:=hlt b q;omega⟩
theorem rQ.first{B:Nat}{c:Nat}(h:cX W B 148 2 bZ.cells A c rs):rQ W B A c rs 0 rs W:=⟨World.grownBy.refl W _,rfl,rfl,rfl,h,(fun r hr=>by cases hr),atN,(fun b hb=>by cases hb)⟩
theorem rR.first{B:Nat}{c:Nat}{rs:List cj}(h:cX W B 174 3 cj.cells A c rs):rR W B A c rs 0 rs W:=⟨World.grownBy.refl W _,rfl,rfl,rfl,h,(fun r hr=>by cases hr),atN,(fun b hb=>by cases hb)⟩
theorem abE{n:Nat}(h:∀x∈aO A,n<=x)(hb:b<n):some b≠A.map Addr.block:=by intro e;have:=h b (by unfold aO;rw[<-e];simp);omega
theorem akJ(m:aQ)(j:Nat)(r:bZ)(w:World)(hok:m.dk w w.heap.size)(hr:m.reads[j]?=some r)(hn:m.reads.length<=100)(hw:m.word<=4000)(hw0:-9223372036854775808<=m.word)(hv1:-1099511627776<=r.var)(hv2:r.var<=1099511627776) :
  Calls Tryz.prog 108 #[m.v,.int .i64 j] w (tS 3 w (ints (cM r.var m.word.toNat))):=by
 have hj:j<m.reads.length:=(rg.1 hr).1;obtain⟨b,off,x,e1,hb,hx,hm,hcs⟩:=hok.rd.elem auc (fun _=>rfl) hj;rw[hr]at hx;injection hx with hx;subst hx;obtain⟨hd0,hd1⟩:=bZ.at_ hcs;obtain⟨hg,hB,hok2,hsz⟩:=am5 m w hok;clear hcs hm hr hok hok2 hd1;obtain⟨base,hbase⟩:∃base,base=w.heap.size:=⟨_,rfl⟩;rw[<-hbase]at hg hB hsz hb;have HD:=Lib.hid (show ∀w',Below base w w'->w'.cell? ⟨b,off+j*2,none⟩=some (.int .i64 r.var)from fun w' h=>by rw[apI h hb,hd0]);have HJ:=Lib.hid hj;clear hd0;have HE:=Lib.hid e1;clear e1;have hd1:decide ((j:Int)<0)=false:=aue
 have hd2:decide (m.reads.length<=j)=false:=by simp;omega
 unfold aQ.v
 go_enter Tryz.func108,Tryz.ntmps108
 go_wp2_with fail
 rw[<-hbase];change Code.wp _ _ _ _ (w.alloc (.cells m.cells.toArray 97));generalize w.alloc (.cells m.cells.toArray 97)=W1 at hg hB hsz |-;have HB:=Lib.hid hB;have HG:=Lib.hid hg;have HBA:=Lib.hid hbase;clear hB hg hbase
 go_loopw [4,17] (fun v i wr=>∃k:Nat,k<=m.word.toNat/\i=.int .i64 k/\wr.ownsRow base 3 1 v (cM r.var k).length (ints (cM r.var k))/\mo 3 base W1 wr) (fun _ i _=>m.word.toNat-(intOf i).toNat)
 case atStart=>exact⟨0,Do _,rfl,by simp[cM,ints];exact World.ownsRow_nil _ _ _ _,mo.refl _ _ _⟩
 case round=>
  obtain⟨k,hk,rfl,hown,hf⟩:=hrel;obtain⟨c0,c1,c2,c3,c4⟩:=(hf.box _ _ _ HG.out auf).mem;have hs:=hf.size;have hd:=HD.out _ (HB.out.trans hf.below);have hl:(cM r.var k).length=k:=by simp[cM]
  by_cases hlt:(k:Int)<m.word
  .rw[HE.out]at c3;rw[hl]at hown;have HOW:=Lib.hid hown;clear hl hown
   go_wp2_with (at_builtin;refine apm _ rfl _ _ 22 rfl base 3 (.int .i64 0) 1 8 Tryz.underlying22 FQ rfl auf _ _ _ rfl HOW.out _ rfl rfl amv auc (by unfold maxLen;omega) auc ?_;intro v1 w1 hown1 hg1 hb1;have HO:=Lib.hid hown1;have HG:=Lib.hid hg1;clear hown1 hg1 hb1)
   go_roundw
   case rel=>
    have hl:(cM r.var k).length=k:=by simp[cM]
    refine⟨k+1,auc,by go_num,?_,hf.app HOW.out auc HG.out⟩;refine Ztf (a:=cM r.var k) (x:=r.var+k) ?_ (Ju _ _);rw[hl];exact HO.out
   case measure=>simp[intOf];omega
  .obtain rfl:k=m.word.toNat:=auc
   go_wp2_with fail
   go_ret
   exact tS.mk (by rw[Zkb]) (HBA.out▸hown) (HBA.out▸HB.out.trans hf.below)
def dS(A:pi):Nat:=(A.map Addr.block).getD 0
def cw(g:Int->Int)(A:pi)(xs:jp):List cQ:=xs.zipIdx.map fun p=>⟨dS A,p.2,p.1,g p.1⟩
def gr(f g:Int->Int)(A:pi)(p:bZ×Nat):List cQ:=⟨dS A,p.2*2,p.1.var,f p.1.var⟩::cw g p.1.A p.1.addr
def j8(g:Int->Int)(A:pi)(p:cj×Nat):List cQ:=⟨dS A,p.2*3,p.1.on,g p.1.on⟩::(cw g p.1.A p.1.addr++cw g p.1.A2 p.1.data)
def dz(f g:Int->Int)(m:aQ):List cQ:=m.reads.zipIdx.flatMap (gr f g m.A)++m.writes.zipIdx.flatMap (j8 g m.A2)
theorem pq(h:α->List β){x:α}(hx:l[k]?=some x):l.flatMap h=(l.take k).flatMap h++(h x++(l.drop (k+1)).flatMap h):=by
 obtain⟨hk,rfl⟩:=rg.1 hx
 conv=>lhs;rw[<-GT k l,ass hk]
 rw[BT,ww]
theorem EP(h:α->List β){x:α}(hx:l[k]?=some x):(l.take (k+1)).flatMap h=(l.take k).flatMap h++h x:=by rw[Pl.cK hx,BT];simp
theorem sO{x:α}(hx:l[k]?=some x):l.zipIdx[k]?=some (x,k):=by rw[List.getElem?_zipIdx,hx];simp
theorem uH(g:Int->Int){B:Nat}{c:Nat}{xs:jp}(h:cX w B 3 1 cI A c xs):n9 g ⟨A.map Addr.block,c,xs⟩=cw g A xs/\mJ.v ⟨A.map Addr.block,c,xs⟩=.slice A xs.length c/\(xs≠[]->A.map Addr.block=some (dS A)):=by
 refine⟨rfl,?_,fun hx=>?_⟩
 .have:=(aaG h).2.2.2;cases A with|none=>rfl|some a=>have e:=this a.block (by simp[aO]);show Value.slice (some ⟨a.block,0,none⟩) xs.length c=_;rw[<-e]
 .obtain⟨b,e,_⟩:=kC h hx;rw[e];rfl
structure sU(w0:World)(B bm off:Nat)(m:aQ):Prop where
 c:∀k u,m.cells[k]?=some u->w0.cell? ⟨bm,off+k,none⟩=some u
 own:m.own w0 0
 lt:∀b∈m.bs,b<B
 bm:bm<B
theorem sU.now{w0:World}{B off:Nat}{us:List fE}(h:sU w0 B bm off m)(hb:Below B (cN id w0 us) W)(hd:∀u∈us,u.1∉m.bs/\u.1≠bm)(hB:B<=W.heap.size):sU W W.heap.size bm off m:=⟨fun k u hu=>sH hb rfl h.bm (fun x hx e=>(hd x hx).2 (OF Addr.block e)) (h.c k u hu),aQ.dB h.own fun b q=>⟨N8 hb (h.lt b q) fun x hx e=>(hd x hx).1 (e▸q),Do _⟩,fun b q=>arm (h.lt b q) hB,arm h.bm hB⟩
theorem sU.dk{B off:Nat}(h:sU w B bm off m):m.dk w w.heap.size:=⟨Sl.own h.own.rd,fun r hr=>by have:=Sl.own (h.own.fq r hr);rw[<-ES]at this;exact this,Sl.own h.own.wr,fun r hr=>by have h1:=Sl.own (h.own.gY r hr).1;have h2:=Sl.own (h.own.gY r hr).2;rw[<-ES]at h1 h2;exact⟨h1,h2⟩⟩
def xy(tq:jp)(m:cC):Prop:=∀r∈m.reads,∀i:Nat,i<m.word.toNat->0<=r.var/\r.var+i<tq.length/\tq.getD (r.var+i).toNat 0=tq.getD r.var.toNat 0+i
section
variable{w0 x:World}{B n b' off c g:Nat}{v:Value}{L r:List cQ}{tq:jp}
theorem anU{p:cQ}(h:fQ w0 B n b' (L++([p]++r)))(hB:B=w0.heap.size)(hs:f8 w0 B g v L x)(hR:Reads w0 B 1 (some ⟨b',off,none⟩) n (tq.map (Value.int .i64)))
  (hn:n<=1048576) (hx:p.x<n) (hy:p.y=tq.getD p.x.toNat 0) {q:Nat}(hq:x.cell? ⟨q,0,none⟩=some (.pointer (some p.ad))) :
  Calls Tryz.prog 151 #[.agg #[.slice (some ⟨b',off,none⟩) n c],.slice (some ⟨q,0,none⟩) 1 1] x fun e w'=>e=.returned (.tuple #[])/\f8 w0 B g v (L++[p]) w':=by
 refine(Fk h hB hs.low hR hn hx hy hq).mono ?_;rintro e w' ⟨rfl,h1,h2⟩;exact⟨rfl,hs.step (fun z hz=>(h.at_ z (by simp at hz;simp[hz])).2.2.2.2) h1 h2⟩
theorem amM{l:List cQ}(h:fQ w0 B n b' (L++(l++r)))(hB:B=w0.heap.size)(hs:f8 w0 B g v L x)(hR:Reads w0 B 1 (some ⟨b',off,none⟩) n (tq.map (Value.int .i64)))
  (d8:∀y∈tq,0<=y/\y<=1000000) (hn:n<=1048576) (hx:∀p∈l,p.x / 2<n/\p.y=az tq p.x) (hm:l.length<=1000) {q:Nat}(hk:k=l.length) (hq:Reads x x.heap.size 1 (some ⟨q,0,none⟩) l.length (l.map fun p=>Value.pointer (some p.ad))) :
  Calls Tryz.prog 152 #[.agg #[.slice (some ⟨b',off,none⟩) n c],.slice (some ⟨q,0,none⟩) k k] x fun e w'=>e=.returned (.tuple #[])/\f8 w0 B g v (L++l) w':=by
 refine(Om h hB hs.low hR d8 hn hx hm hk hq).mono ?_;rintro e w' ⟨rfl,h1,h2⟩;exact⟨rfl,hs.step (fun z hz=>(h.at_ z (by simp[hz])).2.2.2.2) h1 h2⟩
theorem aaO{ls:List (mJ Int)}(h:fQ w0 B n b' (L++(ls.flatMap (n9 (az tq))++r)))(hB:B=w0.heap.size)(hs:f8 w0 B g v L x)(hR:Reads w0 B 1 (some ⟨b',off,none⟩) n (tq.map (Value.int .i64)))
  (d8:∀y∈tq,0<=y/\y<=1000000) (hn:n<=1048576) (hx:∀l∈ls,l.xs.length<=1048576/\(l.xs≠[]->l.A=some l.b)/\∀x∈l.xs,x / 2<n) (hm:ls.length<=1000) {q:Nat}(hk:k=ls.length) (hq:Reads x x.heap.size 1 (some ⟨q,0,none⟩) ls.length (ls.map mJ.v)) :
  Calls Tryz.prog 153 #[.agg #[.slice (some ⟨b',off,none⟩) n c],.slice (some ⟨q,0,none⟩) k k] x fun e w'=>e=.returned (.tuple #[])/\f8 w0 B g v (L++ls.flatMap (n9 (az tq))) w':=by
 refine(aaI h hB hs.low hR d8 hn hx hm hk hq).mono ?_;rintro e w' ⟨rfl,h1,h2⟩;exact⟨rfl,hs.step (fun z hz=>(h.at_ z (by simp only[qr];exact .inr (.inl hz))).2.2.2.2) h1 h2⟩
end
theorem nv{w0 x:World}{B n b' g:Nat}{v:Value}{L r:List cQ}(h:fQ w0 B n b' (L++r))(hs:f8 w0 B g v L x){a:Addr}{l c:Nat}{A':pi}(hb:a.block<B)(hp:a.spot=none)(hc:w0.cell? a=some (.slice A' l c)):x.cell? a=some (.slice A' l c):=by refine sH hs.low hp hb (fun u hu e=>?_) hc;obtain⟨p,hq,rfl⟩:=rt.1 hu;have:=(h.at_ p (AI _ hq)).1;have e:p.ad=a:=e;rw[e,hc]at this;cases this
theorem uq(x:World)(vs:mt)(t:TypeId)(h:∀u∈vs,u.oneCell'=true):Reads (x.alloc (.cells vs.toArray t)).drew (x.alloc (.cells vs.toArray t)).drew.heap.size 1 (some ⟨x.heap.size,0,none⟩) vs.length vs:=by refine⟨aue,fun hp=>⟨_,rfl,by show x.heap.size<(x.alloc _).heap.size;simp,fun k u hk=>?_⟩⟩;show(x.alloc _).cell? _=_;have:=(bD.new x t vs.toArray).cell k;rw[Addr.add_mid,asz];rw[this];simpa using hk
theorem Z8(w:World)(N:aY)(B:Nat)(hN:N.dk w B)(hB:B<=w.heap.size)(hF:Fit N.d) :
  Calls Tryz.prog 41 #[N.v] w fun e w'=>∃M:aY,M.d=N.d/\e=.returned M.v/\Below w.heap.size w w'/\M.own w' w.heap.size:=by
 have hv:N.v=.agg #[.int .i64 N.vars,.slice N.Ai N.ax.length N.ci,.slice N.Al N.ah.length N.cl,.slice N.Ao N.bk.length N.co,.slice N.Ab N.aU.length N.cb,.slice N.Ac N.constraints.length N.cc,.slice N.Am N.af.length N.cm,.slice N.An N.ag.length N.cn]:=rfl;rw[hv]
 go_enter Tryz.func41,Tryz.ntmps41
 go_wp2_with fail
 go_loopw [16] (fun i wr=>∃j:Nat,j<=4/\i=.int .i64 j/\sQ w N j wr) (fun i _=>4-(intOf i).toNat)
 case atStart=>
  refine⟨0,Do _,rfl,?_⟩;have hb0:bD (w.alloc (Obj.cells (qa N N.sd) 27)) w.heap.size 27 (qa N N.sd):=bD.new w _ _;have hs0:(w.alloc (Obj.cells (qa N N.sd) 27)).heap.size=w.heap.size+1:=aue
  have hb1:bD ((w.alloc (Obj.cells (qa N N.sd) 27)).alloc (Obj.cells kL 27)) (w.heap.size+1) 27 kL:=by rw[<-hs0];exact bD.new _ _ _
  refine⟨⟨N.sd,(hb0.alloc _).alloc _,fun k hk=>absurd hk (asn k),fun k _ _=>rfl,atN,fun b hb=>by cases hb⟩,four ?_ ?_ ?_ ?_,hb1.alloc _,(((Below.refl _ w).alloc (ro _) _).alloc aue _).alloc (by simp;omega) _,aue⟩
  all_goals try simp only[lZ,List.getD_cons_zero,List.getD_cons_succ]
  all_goals go_simp
  all_goals rfl
 case round=>
  obtain⟨j,hj,rfl,hst⟩:=hrel;by_cases hlt:j<4
  .obtain⟨H,c1,c2,c3,c4,c5⟩:=hst.ex;have hp:=hst.asa j hlt;have hc:wr.cell? ⟨w.heap.size,lZ j,none⟩=some (.slice (H j).1 (N.jQ j).length (H j).2):=(c1.cell _).trans (am6 N H j hlt);have hz:=c1.frozen (lZ j);have hH:=c3 j (ro _) hlt;have hsw:w.heap.size<=wr.heap.size:=by have:=hst.size;omega
   have hsl:Sl wr w.heap.size 1 (H j).1 (N.jQ j).length (H j).2 (ints (N.jQ j)):=by rw[hH];exact((N.sl4 hN j hlt).more hB).below hst.low
   have hn:(N.jQ j).length<=1048576:=N.ar7 hF j hlt;have HC:=Lib.hid (JP hsw hsl hn);have HS:=Lib.hid hst;have hB1:w.heap.size<wr.heap.size:=by have:=hst.size;omega
   have HX:Hid (∀w1,Below wr.heap.size wr w1->w1.cell? ⟨w.heap.size,lZ j,none⟩=some (.slice (H j).1 (N.jQ j).length (H j).2)/\w1.frozen? ⟨w.heap.size,lZ j,none⟩=false):=fun w1 hb=>⟨(hb.cell hB1).trans hc,(hb.frozen hB1).trans hz⟩;have HJ:Hid (∀(w1:World) (A1:pi) (k1:Nat),Below wr.heap.size wr w1->cX w1 wr.heap.size 3 1 cI A1 k1 (N.jQ j)->(∀b∈aO A1,wr.heap.size<=b/\b<w1.heap.size)->sQ w N (j+1) (w1.setCell ⟨w.heap.size,lZ j,none⟩ (.slice A1 (N.jQ j).length k1))):=fun w1 A1 k1 h1 h2 h3=>hst.next hlt h1 h2 h3;clear hsl hH c1 c2 c3 c4 c5 hst hn;generalize N.jQ j=l at *
   generalize (H j).1=A0 at *
   generalize (H j).2=k0 at *
   generalize lZ j=o at *
   go_wp2_with (refine HC.out.mono ?_;rintro e w1 ⟨A1,k1,rfl,hb1,ho1,hl1⟩;have hx:=(HX.out w1 hb1).1;have hy:=(HX.out w1 hb1).2)
   go_roundw
   case rel=>exact⟨j+1,auc,by go_num,HJ.out _ _ _ hb1 ho1 hl1⟩
   case measure=>simp[intOf];omega
  .obtain rfl:j=4:=auc
   have hsw:w.heap.size<=wr.heap.size:=by have:=hst.size;omega
   have hB1:w.heap.size<wr.heap.size:=by have:=hst.size;omega
   obtain⟨H,c1,_⟩:=hst.ex;have r2:=c1.cell 2;have r6:=c1.cell 6;have r7:=c1.cell 7;simp only[qa,IN,asw,FS]at r2 r6 r7;have z2:=c1.frozen 2;have z6:=c1.frozen 6;have z7:=c1.frozen 7;clear c1;have HS:=Lib.hid hst;have L2:Hid (∀w1,Below wr.heap.size wr w1->Calls Tryz.prog 94 #[.slice N.Al N.ah.length N.cl] w1 (lG w1 78 3 dI.cells N.ah)):=fun w1 hb=>clL (by have:=hb.size;omega) (((hN.aT.more hB).below HS.out.low).below (hb.mono hsw)) (by have h:N.ah.length<=4000:=hF.aT.1;omega);have L7:Hid (∀w1,Below wr.heap.size wr w1->Calls Tryz.prog 95 #[.slice N.An N.ag.length N.cn] w1 (lG w1 113 3 dM.cells N.ag)):=fun w1 hb=>clA (by have:=hb.size;omega) (((hN.and.more hB).below HS.out.low).below (hb.mono hsw)) (by have h:N.ag.length<=4000:=hF.ag.1;omega);have L6:Hid (∀w1,Below wr.heap.size wr w1->Calls Tryz.prog 96 #[.slice N.Am N.af.length N.cm] w1 (lG w1 97 5 aQ.cells N.af)):=fun w1 hb=>clM (by have:=hb.size;omega) (((hN.mem.more hB).below HS.out.low).below (hb.mono hsw)) (by have h:=hF.af.1;rw[show N.d.af.length=N.af.length from aG _]at h;omega);have hbr:Below wr.heap.size wr wr.drew:=(Below.refl _ wr).drew;have HN:=Lib.hid hN;have HF:=Lib.hid hF;clear hst hF hN
   go_upto_region 6 with fail
   go_cut [] (fun wx=>FG w N wx)
   case first=>
    go_region_law (first
     |(go_simp;go_at_call 94;refine(L2.out _ hbr).mono ?_;rintro e wl ⟨Al,cl,rfl,hbl,hol,hll⟩;have hbl2:=hbr.trans (hbl.mono hbr.size);have x6:=(hbl2.cell (p:=⟨w.heap.size,6,none⟩) hB1).trans r6;have x7:=(hbl2.cell (p:=⟨w.heap.size,7,none⟩) hB1).trans r7)
     |(go_simp;go_at_call 95;refine(L7.out _ hbl2).mono ?_;rintro e wn ⟨An,cn,rfl,hbn,hon,hln⟩;have hbn2:=hbl2.trans (hbn.mono hbl2.size);have u6:=(hbn2.cell (p:=⟨w.heap.size,6,none⟩) hB1).trans r6)
     |(go_simp;go_at_call 96;refine(L6.out _ hbn2).mono ?_;rintro e wm ⟨Am,cm,rfl,hbm,hom,hlm⟩;have hbm2:=hbn2.trans (hbm.mono hbn2.size);have s2:=(hbm2.cell (p:=⟨w.heap.size,2,none⟩) hB1).trans r2;have s6:=(hbm2.cell (p:=⟨w.heap.size,6,none⟩) hB1).trans r6;have s7:=(hbm2.cell (p:=⟨w.heap.size,7,none⟩) hB1).trans r7;have t2:=(hbm2.frozen (p:=⟨w.heap.size,2,none⟩) hB1).trans z2;have t6:=(hbm2.frozen (p:=⟨w.heap.size,6,none⟩) hB1).trans z6;have t7:=(hbm2.frozen (p:=⟨w.heap.size,7,none⟩) hB1).trans z7))
    all_goals (go_wp2_with fail;go_meet;exact HS.out.mid hbl2 hbn hbm hol hon hom hll hln hlm)
   case rest=>
   clear L2 L7 L6 hbr r2 r6 r7 z2 z6 z7 HS;obtain⟨M,e1,e2,hI⟩:=hcut.first;have hbx:=hI.box.cell 6;simp only[aY.fs,IN,asw,FS]at hbx;have HI:=Lib.hid hI;have HE1:=Lib.hid e1;have HE2:=Lib.hid e2;clear hI hcut e1 e2
   go_wp2_with fail
   go_loopw [42] (fun i wr=>∃(j:Nat) (ms:List aQ),j<=M.af.length/\i=.int .i64 j/\Hid (oB w M j ms wr)) (fun i _=>M.af.length-(intOf i).toNat)
   case atStart=>exact⟨0,M.af,Do _,rfl,HI⟩
   case round=>
    obtain⟨j,ms,hj,rfl,HI2⟩:=hrel;by_cases hlt:j<M.af.length
    .have hI:=HI2.out;have hml:j<ms.length:=by rw[hI.len];exact hlt
     have hm:ms[j]?=some ms[j]:=bA hml;have hm0:M.af[j]?=some ms[j]:=(Oh hI.dr).symm.trans hm;obtain⟨bm,hA,hbm1,hbm2,hbmf⟩:=kC hI.row (fun e=>by rw[e]at hml;exact asn _ hml);have hmN:ms[j]∈N.af:=by rw[<-HE2.out];exact d5 hm0
     have hok:=HN.out.kA _ hmN;have hfit:=HF.out.af.2 (aQ.d ms[j]) (AT hmN);have hsw2:w.heap.size<=wr.heap.size:=by have:=hI.size;omega
     have hrl:ms[j].reads.length<=100:=by have h:=hfit.kO;rwa [show(aQ.d ms[j]).reads.length=ms[j].reads.length from aG _]at h
     have hwl:ms[j].writes.length<=100:=by have h:=hfit.ph;rwa [show(aQ.d ms[j]).writes.length=ms[j].writes.length from aG _]at h
     have LR:Hid (∀w1,Below wr.heap.size wr w1->Calls Tryz.prog 97 #[.slice ms[j].A ms[j].reads.length ms[j].c] w1 (lG w1 148 2 bZ.cells ms[j].reads)):=fun w1 hb=>clR (by have:=hb.size;omega) (((hok.rd.more hB).below hI.low).below (hb.mono hsw2)) auc;have LW:Hid (∀w1,Below wr.heap.size wr w1->Calls Tryz.prog 98 #[.slice ms[j].A2 ms[j].writes.length ms[j].c2] w1 (lG w1 174 3 cj.cells ms[j].writes)):=fun w1 hb=>clW (by have:=hb.size;omega) (((hok.wr.more hB).below hI.low).below (hb.mono hsw2)) auc;have hbx2:wr.cell? ⟨w.heap.size,6,none⟩=some (.slice (some ⟨bm,0,none⟩) M.af.length M.cm):=by rw[hI.box.cell 6,<-hA];rfl
     have c3:wr.cell? ⟨bm,j*5+3,none⟩=some (.slice ms[j].A ms[j].reads.length ms[j].c):=jR nD hI.row hA hm rfl;have c4:wr.cell? ⟨bm,j*5+4,none⟩=some (.slice ms[j].A2 ms[j].writes.length ms[j].c2):=jR nD hI.row hA hm rfl;have z3:=hbmf (j*5+3);have z4:=hbmf (j*5+4);have hbr:Below wr.heap.size wr wr.drew:=(Below.refl _ wr).drew;have HRT:=Lib.hid hok.fq;have HWT:=Lib.hid hok.gY;have HRF:=Lib.hid hfit.fq;have HWF:=Lib.hid hfit.gY;have HM:=Lib.hid hm;have HA:=Lib.hid hA;have HML:=Lib.hid hml;have HLT:=Lib.hid hlt;have HML2:Hid (M.af.length<=100):=by have h:=HF.out.af.1;rw[show N.d.af.length=N.af.length from aG _,<-HE2.out]at h;exact h
     clear hok hfit hmN hm hm0 hbmf hA hI;generalize ms[j]=m at *
     clear hml
     go_upto_region 11 with fail
     go_cut [] (fun wx=>Hid (acA w M j bm ms m wr wx))
     case first=>
      go_region_law (first
       |(go_simp;go_at_call 97;refine(LR.out _ hbr).mono ?_;rintro e wl ⟨Al,cl,rfl,hbl,hol,hll⟩;have hbl2:=hbr.trans (hbl.mono hbr.size);have x4:=(hbl2.cell (p:=⟨bm,j*5+4,none⟩) hbm2).trans c4)
       |(go_simp;go_at_call 98;refine(LW.out _ hbl2).mono ?_;rintro e wn ⟨An,cn,rfl,hbn,hon,hln⟩;have hbn2:=hbl2.trans (hbn.mono hbl2.size);have u3:=(hbn2.cell (p:=⟨bm,j*5+3,none⟩) hbm2).trans c3;have u4:=(hbn2.cell (p:=⟨bm,j*5+4,none⟩) hbm2).trans c4;have v3:=(hbn2.frozen (p:=⟨bm,j*5+3,none⟩) hbm2).trans z3;have v4:=(hbn2.frozen (p:=⟨bm,j*5+4,none⟩) hbm2).trans z4))
      all_goals (go_wp2_with fail;go_meet;exact alM HI2.out HM.out HA.out hbl2 hol hll hbn hon hln)
     case rest=>
     obtain⟨wo,rfl⟩:∃x,x=wr:=⟨_,rfl⟩;obtain⟨A,c,A2,c2,g1,o1,oR,oW,nd,lt⟩:=hcut.out;have hself:(ms.set j { m with A:=A,c:=c,A2:=A2,c2:=c2 })[j]?=some { m with A:=A,c:=c,A2:=A2,c2:=c2 }:=asE HML.out;have d3:wc.cell? ⟨bm,j*5+3,none⟩=some (.slice A m.reads.length c):=jR nD o1 HA.out hself rfl;have d4:wc.cell? ⟨bm,j*5+4,none⟩=some (.slice A2 m.writes.length c2):=jR nD o1 HA.out hself rfl;have hwr:Below w.heap.size w wo:=HI2.out.low;have hwc:Below w.heap.size w wc:=hwr.grown g1 hsw2 fun k e=>by obtain rfl:=BY e;exact hbm1
     have gs:=g1.size;have lA:∀b∈aO A,wo.heap.size<=b/\b<wc.heap.size:=fun b q=>lt b (AI _ q);have lA2:∀b∈aO A2,wo.heap.size<=b/\b<wc.heap.size:=fun b q=>lt b (Fd _ q);have nA:some bm≠A.map Addr.block:=abE (fun b q=>(lA b q).1) hbm2;have nA2:some bm≠A2.map Addr.block:=abE (fun b q=>(lA2 b q).1) hbm2;have H1:=Lib.hid g1;have H2:=Lib.hid o1;have H3:=Lib.hid oR;have H4:=Lib.hid oW;have H5:=Lib.hid nd;have H6:=Lib.hid lt;have H7:=Lib.hid lA;have H8:=Lib.hid lA2;have H9:=Lib.hid nA;have H10:=Lib.hid nA2;have H11:=Lib.hid hwc;have H12:=Lib.hid d4;clear hcut g1 o1 oR oW nd lt lA lA2 nA nA2 hwc hwr hself c3 c4 z3 z4 d4
     go_wp2_with fail
     go_loopw [70] (fun i wq=>∃(k:Nat) (rs:List bZ),k<=m.reads.length/\i=.int .i64 k/\Hid (rQ wc wo.heap.size A c m.reads k rs wq)) (fun i _=>m.reads.length-(intOf i).toNat)
     case atStart=>exact⟨0,m.reads,Do _,rfl,Lib.hid (rQ.first H3.out)⟩
     case round=>
      obtain⟨wq,rfl⟩:∃x,x=wr:=⟨_,rfl⟩;obtain⟨k,rs,hk,rfl,HR⟩:=hrel;have hR:=HR.out;have q3:wq.cell? ⟨bm,j*5+3,none⟩=some (.slice A m.reads.length c):=hR.g.cell d3 H9.out;have q4:wq.cell? ⟨bm,j*5+4,none⟩=some (.slice A2 m.writes.length c2):=hR.g.cell H12.out H9.out;by_cases hkl:k<m.reads.length
      .have hkr:k<rs.length:=by rw[hR.len];exact hkl
       have hr:rs[k]?=some rs[k]:=bA hkr;have hr0:m.reads[k]?=some rs[k]:=(Oh hR.dr).symm.trans hr;obtain⟨br,rfl,hbr1,hbr2,hbrf⟩:=kC hR.row (fun e=>by rw[e]at hkr;exact asn _ hkr);have hbr3:=H7.out br (by simp[aO]);have cR:wq.cell? ⟨br,k*2+1,none⟩=some (.slice rs[k].A rs[k].addr.length rs[k].c):=jR sX hR.row rfl hr rfl;have zR:=hbrf (k*2+1);have hwq:Below w.heap.size w wq:=H11.out.grown hR.g auc fun x e=>by obtain rfl:=BY e;show w.heap.size<=br;omega
       have gq:=hR.g.size;have hrm:=d5 hr0;have hsq:w.heap.size<=wq.heap.size:=auc
       have LI:Hid (∀w1,Below wq.heap.size wq w1->Calls Tryz.prog 93 #[.slice rs[k].A rs[k].addr.length rs[k].c] w1 (lG w1 3 1 cI rs[k].addr)):=fun w1 hb=>JP (by have:=hb.size;omega) ((((HRT.out _ hrm).more hB).below hwq).below (hb.mono hsq)) (by have:=(HRF.out _ (AT (f:=bZ.d) hrm)).1;have h:rs[k].addr.length<=4000:=this;omega);have hbmq:bm<wq.heap.size:=auc
       have hbq:Below wq.heap.size wq wq.drew:=(Below.refl _ wq).drew;have HK:=Lib.hid hr;have hbrw:=hbr3.2;clear hr0 hrm hwq hbrf hR hr;generalize rs[k]=r at *
       go_wp2_with fail
       go_region_law (first
        |(go_simp;go_at_call 93;refine(LI.out _ hbq).mono ?_;rintro e w1 ⟨A1,c1,rfl,hb1,ho1,hl1⟩;have hb2:=hbq.trans (hb1.mono hbq.size);have x3:=(hb2.cell (p:=⟨bm,j*5+3,none⟩) hbmq).trans q3;have xr:=(hb2.cell (p:=⟨br,k*2+1,none⟩) hbr2).trans cR;have xz:=(hb2.frozen (p:=⟨br,k*2+1,none⟩) hbr2).trans zR))
       all_goals
        go_wp2_with fail
        go_roundw
        case rel=>(repeat apply Exists.intro);exact⟨⟨k+1,_,auc,by go_num,Lib.hid (HR.out.next HK.out rfl hbrw hb2 ho1 hl1)⟩,rfl⟩
        case measure=>simp[intOf];omega
      .obtain rfl:k=m.reads.length:=auc
       have H13:=Lib.hid q3;have hwq:Below w.heap.size w wq:=H11.out.grown hR.g auc fun x e=>by have:=H7.out x (by unfold aO;rw[e];simp);omega
       have gq:=hR.g.size;have H14:=Lib.hid hwq;clear hR q3 hwq
       go_wp2_with fail
       go_loopw [95] (fun i wz=>∃(k:Nat) (ws:List cj),k<=m.writes.length/\i=.int .i64 k/\Hid (rR wq wo.heap.size A2 c2 m.writes k ws wz)) (fun i _=>m.writes.length-(intOf i).toNat)
       case atStart=>refine⟨0,m.writes,Do _,rfl,Lib.hid (rR.first (dB H4.out fun b q=>⟨HR.out.g.block b (H8.out b q).2 ?_,(H8.out b q).1⟩))⟩;intro e;exact(rx.1 H5.out).2.2 b (by unfold aO;rw[<-e];simp) b q rfl
       case round=>
        obtain⟨wz,rfl⟩:∃x,x=wr:=⟨_,rfl⟩;obtain⟨k,ws,hk2,rfl,HW⟩:=hrel;have hW:=HW.out;have q5:wz.cell? ⟨bm,j*5+4,none⟩=some (.slice A2 m.writes.length c2):=hW.g.cell q4 H10.out;by_cases hkl:k<m.writes.length
        .have hkr:k<ws.length:=by rw[hW.len];exact hkl
         have hr:ws[k]?=some ws[k]:=bA hkr;have hr0:m.writes[k]?=some ws[k]:=(Oh hW.dr).symm.trans hr;obtain⟨br,rfl,hbr1,hbr2,hbrf⟩:=kC hW.row (fun e=>by rw[e]at hkr;exact asn _ hkr);have hbr3:=H8.out br (by simp[aO]);have cR:wz.cell? ⟨br,k*3+1,none⟩=some (.slice ws[k].A ws[k].addr.length ws[k].c):=jR ov hW.row rfl hr rfl;have cD:wz.cell? ⟨br,k*3+2,none⟩=some (.slice ws[k].A2 ws[k].data.length ws[k].c2):=jR ov hW.row rfl hr rfl;have zR:=hbrf (k*3+1);have zD:=hbrf (k*3+2);have hwz:Below w.heap.size w wz:=H14.out.grown hW.g auc fun x e=>by obtain rfl:=BY e;show w.heap.size<=br;omega
         have gz:=hW.g.size;have hrm:=d5 hr0;have hsq:w.heap.size<=wz.heap.size:=auc
         have hlen:=HWF.out _ (AT (f:=cj.d) hrm);have LI:Hid (∀w1,Below wz.heap.size wz w1->Calls Tryz.prog 93 #[.slice ws[k].A ws[k].addr.length ws[k].c] w1 (lG w1 3 1 cI ws[k].addr)):=fun w1 hb=>JP (by have:=hb.size;omega) ((((HWT.out _ hrm).1.more hB).below hwz).below (hb.mono hsq)) (by have h:ws[k].addr.length<=4000:=hlen.1;omega);have LD:Hid (∀w1,Below wz.heap.size wz w1->Calls Tryz.prog 93 #[.slice ws[k].A2 ws[k].data.length ws[k].c2] w1 (lG w1 3 1 cI ws[k].data)):=fun w1 hb=>JP (by have:=hb.size;omega) ((((HWT.out _ hrm).2.more hB).below hwz).below (hb.mono hsq)) (by have h:ws[k].data.length<=4000:=hlen.2.1;omega);have hbq:Below wz.heap.size wz wz.drew:=(Below.refl _ wz).drew;have HK:=Lib.hid hr;have hbrw:br<wq.heap.size:=auc
         clear hr0 hrm hwz hbrf hW hr hlen;generalize ws[k]=r at *
         go_wp2_with fail
         go_region_law (first
          |(go_simp;go_at_call 93;refine(LI.out _ hbq).mono ?_;rintro e w1 ⟨A1,c1,rfl,hb1,ho1,hl1⟩;have hb2:=hbq.trans (hb1.mono hbq.size);have x2:=(hb2.cell (p:=⟨br,k*3+2,none⟩) hbr2).trans cD)
          |(go_simp;go_at_call 93;refine(LD.out _ hb2).mono ?_;rintro e w2 ⟨A3,c3,rfl,hb3,ho3,hl3⟩;have hb4:=hb2.trans (hb3.mono hb2.size);have y1:=(hb4.cell (p:=⟨br,k*3+1,none⟩) hbr2).trans cR;have y2:=(hb4.cell (p:=⟨br,k*3+2,none⟩) hbr2).trans cD;have t1:=(hb4.frozen (p:=⟨br,k*3+1,none⟩) hbr2).trans zR;have t2:=(hb4.frozen (p:=⟨br,k*3+2,none⟩) hbr2).trans zD))
         all_goals
          go_wp2_with fail
          go_roundw
          case rel=>(repeat apply Exists.intro);exact⟨⟨k+1,_,auc,by go_num,Lib.hid (HW.out.next HK.out rfl hbrw hb2 ho1 hl1 hb3 ho3 hl3)⟩,rfl⟩
          case measure=>simp[intOf];omega
        .obtain rfl:k=m.writes.length:=auc
         have h1:=HLT.out;have h2:=HML2.out
         go_wp2_with fail
         go_roundw
         case rel=>exact⟨j+1,_,HLT.out,by go_num,Lib.hid (akb HI2.out HM.out HA.out H1.out H2.out H5.out H6.out HR.out HW.out)⟩
         case measure=>simp[intOf];omega
    .obtain rfl:j=M.af.length:=auc
     have hI:=HI2.out;have hB0:=hI.box;have hC0:=hI.res;have b0:=hB0.cell 0;have b1:=hB0.cell 1;have b2:=hB0.cell 2;have b3:=hB0.cell 3;have b4:=hB0.cell 4;have b5:=hB0.cell 5;have b6:=hB0.cell 6;have b7:=hB0.cell 7;have r0:=hC0.cell 0;have r1:=hC0.cell 1;have r2:=hC0.cell 2;have r3:=hC0.cell 3;have r4:=hC0.cell 4;have r5:=hC0.cell 5;have r6:=hC0.cell 6;have r7:=hC0.cell 7;simp only[aY.fs,kL,IN,asw,FS]at b0 b1 b2 b3 b4 b5 b6 b7 r0 r1 r2 r3 r4 r5 r6 r7;have f0:=hC0.frozen 0;have f1:=hC0.frozen 1;have f2:=hC0.frozen 2;have f3:=hC0.frozen 3;have f4:=hC0.frozen 4;have f5:=hC0.frozen 5;have f6:=hC0.frozen 6;have f7:=hC0.frozen 7;clear hI hB0 hC0
     go_wp2_with fail
     have hfin:=(((((((HI2.out.res.gO 0 (.int .i64 M.vars)).gO 1 (.slice M.Ai M.ax.length M.ci)).gO 2 (.slice M.Al M.ah.length M.cl)).gO 3 (.slice M.Ao M.bk.length M.co)).gO 4 (.slice M.Ab M.aU.length M.cb)).gO 5 (.slice M.Ac M.constraints.length M.cc)).gO 6 (.slice M.Am M.af.length M.cm)).gO 7 (.slice M.An M.ag.length M.cn);simp only[kL,atJ,atS,List.set_cons_succ]at hfin;have hsz:(Tryz.prog.info? 27).map (·.size)=some M.fs.size:=aud
     have hvl:({ M with af:=ms }:aY).v=.agg M.fs:=by unfold aY.v aY.fs;rw[show({ M with af:=ms }:aY).af.length=M.af.length from HI2.out.len]
     refine bodyPost_ret (v:=.agg M.fs) (results_cell_row Tryz.results41 _ _ (w.heap.size+1) 27 M.fs (0,0) _ ?_ hfin Tryz.underlying27 rfl hsz) rfl ?_
     .rfl
     refine⟨{ M with af:=ms },?_,by rw[hvl],?_,?_⟩
     .show(⟨M.vars,M.ax,M.ah,M.bk,M.aU,M.constraints,ms.map aQ.d,M.ag⟩:aB)=_;rw[HI2.out.d,<-HE1.out];rfl
     .iterate 8 refine Below.setCell ?_ (Nat.le_succ _) _
      exact HI2.out.low
     .refine HI2.out.last ?_
      iterate 7 refine pv ?_ (px _ _ _ _)
      exact px _ _ _ _
