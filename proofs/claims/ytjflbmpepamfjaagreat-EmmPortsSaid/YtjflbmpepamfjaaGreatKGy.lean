import Derived.Test.YtjflbmpepamfjaaGreatKGf
import Derived.Shelf.Sort.Plain
import Derived.Shelf.Slices.CompactI
import Derived.Lib.OwnBridge
import Derived.Shelf.Lay
import Derived.Lib.Walk
set_option linter.all false
section
namespace Go.Proofs.YtjflbmpepamfjaaGreat
open Go Go.RowKit Go.Maps
set_option maxHeartbeats 4000000
variable{V:Nat}{c:io}
variable{w:World}{C:Nat}{D:Nat->Prop}{cap:Nat}{B:Nat}{g:Nat}{A:lc}
variable{pb:Nat}{pa:Nat}{n:Nat}
open Go.Shelf Go.Sort
set_option maxRecDepth 100000
def afz:Go.Shelf.Ren:=⟨fun|125=>150|128=>203|129=>204|189=>188|215=>104|216=>249|257=>227|294=>243|295=>244|296=>245|297=>246|298=>247|299=>248|300=>250|301=>251|328=>256|329=>229|330=>230|331=>257|332=>258|343=>260|n=>n,fun|0=>0|3=>3|4=>4|5=>5|9=>9|28=>22|46=>177|51=>249|53=>251|131=>42|182=>242|183=>243|218=>265|222=>269|228=>279|229=>280|n=>n,fun|n=>n⟩
theorem afy:Go.Proofs.Lays.n189 Tryz.prog afz:={
 mixed:=aGm
 f125:=Tryz.func150.trans (IT some aGm)
 f128:=Tryz.func203.trans (IT some aGm)
 f129:=Tryz.func204.trans (IT some aGm)
 f189:=Tryz.func188.trans (IT some aGm)
 f215:=Tryz.func104.trans (IT some aGm)
 f216:=Tryz.func249.trans (IT some aGm)
 f257:=Tryz.func227.trans (IT some aGm)
 f294:=Tryz.func243.trans (IT some aGm)
 f295:=Tryz.func244.trans (IT some aGm)
 f296:=Tryz.func245.trans (IT some aGm)
 f297:=Tryz.func246.trans (IT some aGm)
 f298:=Tryz.func247.trans (IT some aGm)
 f299:=Tryz.func248.trans (IT some aGm)
 f300:=Tryz.func250.trans (IT some aGm)
 f301:=Tryz.func251.trans (IT some aGm)
 f328:=Tryz.func256.trans (IT some aGm)
 f329:=Tryz.func229.trans (IT some aGm)
 f330:=Tryz.func230.trans (IT some aGm)
 f331:=Tryz.func257.trans (IT some aGm)
 f332:=Tryz.func258.trans (IT some aGm)
 f343:=Tryz.func260.trans (IT some aGm)
 t0:=Tryz.underlying0
 a0:=Tryz.isAgg0
 z0:=Tryz.sizeOf0
 v0:=Tryz.zeroValue0
 t3:=Tryz.underlying3
 a3:=Tryz.isAgg3
 z3:=Tryz.sizeOf3
 v3:=Tryz.zeroValue3
 t4:=Tryz.underlying4
 a4:=Tryz.isAgg4
 z4:=Tryz.sizeOf4
 v4:=Tryz.zeroValue4
 t5:=Tryz.underlying5
 a5:=Tryz.isAgg5
 z5:=Tryz.sizeOf5
 v5:=Tryz.zeroValue5
 t9:=Tryz.underlying9
 a9:=Tryz.isAgg9
 z9:=Tryz.sizeOf9
 v9:=Tryz.zeroValue9
 t28:=Tryz.underlying22
 a28:=Tryz.isAgg22
 z28:=Tryz.sizeOf22
 v28:=Tryz.zeroValue22
 t46:=Tryz.underlying177
 a46:=Tryz.isAgg177
 z46:=Tryz.sizeOf177
 v46:=Tryz.zeroValue177
 t51:=Tryz.underlying249
 a51:=Tryz.isAgg249
 z51:=Tryz.sizeOf249
 v51:=Tryz.zeroValue249
 t53:=Tryz.underlying251
 a53:=Tryz.isAgg251
 z53:=Tryz.sizeOf251
 v53:=Tryz.zeroValue251
 t131:=Tryz.underlying42
 a131:=Tryz.isAgg42
 z131:=Tryz.sizeOf42
 v131:=Tryz.zeroValue42
 t182:=Tryz.underlying242
 a182:=Tryz.isAgg242
 z182:=Tryz.sizeOf242
 v182:=Tryz.zeroValue242
 t183:=Tryz.underlying243
 a183:=Tryz.isAgg243
 z183:=Tryz.sizeOf243
 v183:=Tryz.zeroValue243
 t218:=Tryz.underlying265
 a218:=Tryz.isAgg265
 z218:=Tryz.sizeOf265
 v218:=Tryz.zeroValue265
 t222:=Tryz.underlying269
 a222:=Tryz.isAgg269
 z222:=Tryz.sizeOf269
 v222:=Tryz.zeroValue269
 t228:=Tryz.underlying279
 a228:=Tryz.isAgg279
 z228:=Tryz.sizeOf279
 v228:=Tryz.zeroValue279
 t229:=Tryz.underlying280
 a229:=Tryz.isAgg280
 z229:=Tryz.sizeOf280
 v229:=Tryz.zeroValue280 }
def afR:Go.Shelf.Ren:=⟨fun|20=>119|n=>n,fun|22=>22|3=>3|0=>0|4=>4|n=>n,fun|n=>n⟩
theorem afQ:Go.Proofs.Lays2.n20 Tryz.prog afR:={
 mixed:=aGm
 f20:=Tryz.func119.trans (IT some aGm)
 t0:=Tryz.underlying0
 a0:=Tryz.isAgg0
 z0:=Tryz.sizeOf0
 v0:=Tryz.zeroValue0
 t3:=Tryz.underlying3
 a3:=Tryz.isAgg3
 z3:=Tryz.sizeOf3
 v3:=Tryz.zeroValue3
 t4:=Tryz.underlying4
 a4:=Tryz.isAgg4
 z4:=Tryz.sizeOf4
 v4:=Tryz.zeroValue4
 t22:=Tryz.underlying22
 a22:=Tryz.isAgg22
 z22:=Tryz.sizeOf22
 v22:=Tryz.zeroValue22
 i3:=ka }
theorem aea(w:World)(os:Array Obj)(row:Option Nat):w.grownBy (grow w os) row:=⟨rfl,rfl,rfl,by simp[grow],fun i hi _=>by simp[grow,aFR hi]⟩
theorem aeA(D:Nat->Prop)(w:World)(os:Array Obj):ak D w (grow w os):=⟨rfl,rfl,rfl,by simp[grow],fun i hi _=>by simp[grow,aFR hi]⟩
variable{b:Nat}
theorem ah3{c:Nat}(L:io)(h:w.ownsRow B 3 1 (.slice (some ⟨b,0,none⟩) n c) n (iv L))(hn:n<=1000) :
  Calls Tryz.prog 188 #[.slice (some ⟨b,0,none⟩) n c] w fun e w'=>e=.returned (.tuple #[])/\∃L':io,L'.Perm L/\w'.ownsRow B 3 1 (.slice (some ⟨b,0,none⟩) n c) n (iv L')/\ak (fun x=>x=b) w w':=by
 obtain⟨g,cap,hv,hB,hlt,hnc,hcm,hl,hH⟩:=Lib.holds_of_ownsRow (enc:=Value.int .i64) (zs:=L) h aGn;injection hv with hv1 hv2 hv3;injection hv1 with hv1;injection hv1 with hv1;subst hv1 hv3;have hs:=Any.slices_Sort_int afy b 0 c L w hH hlt aGl;rw[hl]at hs;refine hs.mono ?_;rintro e w' ⟨rfl,k,os,rfl⟩;refine⟨rfl,L.mergeSort fun x y=>decide (x<=y),List.mergeSort_perm L _,?_,?_⟩
 .have h2:(L.mergeSort fun x y=>decide (x<=y)).length=n:=by rw[List.length_mergeSort];exact hl
  have:=Lib.ownsRow_putRow (q:=k) (ys:=L.mergeSort fun x y=>decide (x<=y)) h h2 (pi n);rw[<-h2,gb,h2]at this;exact this.kept (aea _ os none) (.inr (by simp[Value.ownBlock]))
 .have h1:ak (fun x=>x=b) w (putRow (Value.int .i64) (Sort.ahead w k) b 0 (L.mergeSort fun x y=>decide (x<=y)).toArray):=⟨rfl,rfl,rfl,by simp[putRow,mapBlock,Sort.ahead],fun i hi hn=>by simp[putRow,mapBlock,Sort.ahead,aFM];intro e;exact absurd e.symm hn⟩;exact h1.after (aeA (fun _=>False) _ os) fun _ h=>h.elim
theorem aeP(zs:io):(Lib.compact zs).length<=zs.length:=by unfold Lib.compact Lib.compactUpTo;rw[aR];exact rt (List.length_filter_le _ _) aGn
theorem aeQ{zs:io}{x:Int}(h:x∈Lib.compact zs):x∈zs:=by unfold Lib.compact Lib.compactUpTo at h;obtain⟨j,hj,rfl⟩:=IN.1 h;have:=(List.mem_filter.1 hj).1;have hj:=aFT.1 this;rw[getElem!_pos _ j (by simpa using hj)];simp
theorem aex{c:Nat}(zs:io)(h:w.ownsRow B 3 1 (.slice (some ⟨b,0,none⟩) n c) n (iv zs))(hn:n<=1000) :
  Calls Tryz.prog 119 #[.slice (some ⟨b,0,none⟩) n c] w fun e w'=>∃m d,e=.returned (.slice (some ⟨b,0,none⟩) m c)/\m<=n/\(∀x∈d,x∈zs)/\w'.ownsRow B 3 1 (.slice (some ⟨b,0,none⟩) m c) m (iv d)/\ak (fun x=>x=b) w w':=by
 obtain⟨g,cap,hv,hB,hlt,hnc,hcm,hl,hH⟩:=Lib.holds_of_ownsRow (enc:=Value.int .i64) (zs:=zs) h aGn;injection hv with hv1 hv2 hv3;injection hv1 with hv1;injection hv1 with hv1;subst hv1 hv3;have hs:=Any.slices_Compact_int afQ b 0 c zs w hH aGl aGl;rw[hl]at hs;refine hs.mono ?_;rintro e w' ⟨rfl,q,rfl⟩;have hk:=aeP zs;refine⟨_,Lib.compact zs,rfl,aGl,fun x hx=>aeQ hx,?_,rfl,rfl,rfl,by simp[putRow,mapBlock,Sort.ahead],fun i hi hn=>by simp[putRow,mapBlock,Sort.ahead,aFM];intro e;exact absurd e.symm hn⟩;have:=Lib.ownsRow_putRow (q:=q) (enc:=Value.int .i64) (k:=(Lib.compact zs).length) (ys:=Lib.compact zs++List.replicate (n-(Lib.compact zs).length) 0) h (by simp;omega) aGl;rw[List.take_left]at this;exact this
def Fv(c:io)(n:Nat)(v k:Int):Prop:=(k = -1/\∀i,i<n->c.getD i 0≠v)\/∃j:Nat,j<n/\k=(j:Int)/\c.getD j 0=v/\∀i,i<j->c.getD i 0≠v
theorem Qv(v:Int)(hR:Reads w B 1 A n (iv c))(hn:n<=100000) :
  Calls Tryz.prog 22 #[.slice A n cap,.int .i64 v] w fun e w'=>∃k:Int,e=.returned (.int .i64 k)/\Fv c n v k/\w=w':=by
 go_enter Tryz.func22,Tryz.ntmps22
 go_wp2_with fail
 go_loopw [8] (fun x wr=>∃j:Nat,x=.int .i64 j/\j<=n/\(∀i,i<j->c.getD i 0≠v)/\w=wr) (fun x _=>n-(intOf x).toNat)
 case atStart=>exact⟨0,rfl,aGl,fun i hi=>absurd hi aGl,rfl⟩
 case round=>
  obtain⟨j,rfl,hj,hall,rfl⟩:=hrel;by_cases hlt:j<n
  .obtain⟨b,off,rfl,_,hc⟩:=hR.oU hlt;obtain⟨x,hx⟩:∃x,x=c.getD j 0:=⟨_,rfl⟩;rw[<-hx]at hc;have HX:=Lib.hid hx;have HA:=Lib.hid hall;clear hall hR hx;by_cases he:v=x
   .have he':(v == x)=true:=aFc.2 he;have HE:=Lib.hid he;clear he
    go_wp2_with fail
    go_ret
    exact⟨j,rfl,.inr ⟨j,hlt,rfl,by rw[<-HX.out];exact HE.out.symm,HA.out⟩,rfl⟩
   .have he':(v == x)=false:=pu.2 he;have HE:=Lib.hid he;clear he
    go_wp2_with fail
    go_roundw
    case rel=>
     refine⟨j+1,by go_num,aGl,fun i hi=>?_,trivial⟩;rcases ww i j with h|h
     .exact HA.out i h
     .obtain rfl:i=j:=aGl
      rw[<-HX.out];exact fun e=>HE.out e.symm
    case measure=>simp[intOf];omega
  .have HA:=Lib.hid hall;clear hall hR
   go_wp2_with fail
   go_ret
   exact⟨-1,rfl,.inl ⟨rfl,fun i hi=>HA.out i aGl⟩,rfl⟩
