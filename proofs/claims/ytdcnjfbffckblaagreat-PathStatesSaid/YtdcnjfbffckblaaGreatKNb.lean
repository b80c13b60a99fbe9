import Derived.Test.YtdcnjfbffckblaaGreatKNa
import Derived.Deep.RegionLaw
import Derived.BigRegion
set_option linter.unusedVariables false
set_option linter.unusedSimpArgs false
set_option linter.unnecessarySimpa false
section
namespace Go.Proofs.YtdcnjfbffckblaaGreat
open Go.RowKit Pl
structure ct(e:TypeId)(base:Nat)(w w':World):Prop where
 below:Below base w w'
 box:∀(c:Nat) (t:TypeId) (cs:Array Value),aS w c t cs->t≠e->aS w' c t cs
section
variable{e:TypeId}{base:Nat}{a b c:World}
theorem ct.refl(e:TypeId)(base:Nat)(w:World):ct e base w w:=⟨Below.refl _ _,fun _ _ _ h _=>h⟩
theorem ct.trans(h:ct e base a b)(k:ct e base b c):ct e base a c:=⟨h.below.trans k.below,fun x t cs hb ht=>k.box x t cs (h.box x t cs hb ht) ht⟩
theorem ct.alloc(h:ct e base a b)(hb:base<=b.heap.size)(o:Obj):ct e base a (b.alloc o):=⟨h.below.alloc hb o,fun x t cs hB ht=>(h.box x t cs hB ht).alloc o⟩
theorem ct.drewN(h:ct e base a b)(n:Nat):ct e base a (b.drewN n):=⟨below_drewN h.below n,fun x t cs hB ht=>(h.box x t cs hB ht).drewN n⟩
theorem ct.app{size n:Nat}{v:Value}{xs:List Value}(h:ct e base a b)(own:b.ownsRow base e size v n xs)(hb:base<=b.heap.size)(g:b.grownBy c v.ownBlock):ct e base a c:=
 h.trans ⟨⟨g.os,g.tape,g.output,g.size,fun i hi=>g.block i (by omega) fun e=>by have:=(own.lt i e.symm).1;omega⟩,
  fun x t cs hB ht=>hB.grown g fun e=>sI own hB (fun e=>ht e.symm) e.symm⟩
theorem ct.low(h:Below b.heap.size b c)(hb:base<=b.heap.size):ct e base b c:=⟨h.mono hb,fun x t cs hB ht=>hB.below h hB.lt⟩
theorem ct.size(h:ct e base a b):a.heap.size<=b.heap.size:=h.below.size
end
theorem Zzk{w w':World}{base:Nat}{e:TypeId}{size n:Nat}{v:Value}{xs:List Value}(h:w.ownsRow base e size v n xs)(hb:Below w.heap.size w w'):w'.ownsRow base e size v n xs:=h.kept (Zzm hb none) (by cases v.ownBlock<;>simp)
theorem BI(N:bf)(w:World)(hok:N.bp w w.heap.size):aS (w.alloc (.cells N.fs 27)) w.heap.size 27 N.fs/\Below w.heap.size w (w.alloc (.cells N.fs 27))/\N.bp (w.alloc (.cells N.fs 27)) w.heap.size/\(w.alloc (.cells N.fs 27)).heap.size=w.heap.size+1:=
 have hb:=(Below.refl _ w).alloc (Nat.le_refl _) (.cells N.fs 27)
 ⟨aS.new _ _ _,hb,hok.below hb,by simp⟩
theorem Uw(m:aW)(w:World)(hok:m.bp w w.heap.size):aS (w.alloc (.cells m.cells.toArray 87)) w.heap.size 87 m.cells.toArray/\Below w.heap.size w (w.alloc (.cells m.cells.toArray 87))/\m.bp (w.alloc (.cells m.cells.toArray 87)) w.heap.size/\(w.alloc (.cells m.cells.toArray 87)).heap.size=w.heap.size+1:=
 have hb:=(Below.refl _ w).alloc (Nat.le_refl _) (.cells m.cells.toArray 87)
 ⟨aS.new _ _ _,hb,hok.below hb,by simp⟩
theorem Zsg{P:Program}(W:World){ops:Array Oper}{rest:List Oper}{o:Oper}{a:Act}{Q:Exit->Act->World->Prop}(hgd:o.guard=none)(s x:Operand)(t:TypeId)
  (ho:o.op=.call { callee:=.builtin .append,args:=#[s,x],argTypes:=#[t,t] })
  (base:Nat) (e:TypeId) (z:Value) (size bytes:Nat) (ht:P.underlying t=some (.slice e)) (hi:(P.info? e).map (fun i=>(i.zero,i.size,i.bytes))=some (some z,size,bytes)) (hz:z.cells.size=size) (hsz:0<size)
  (v:Value) (n:Nat) (xs:List Value) (hs:a.eval s=v) (hown:W.ownsRow base e size v n xs)
  (us:List Value) (hus:us.length=size) (hu:∀u∈us,u.oneCell'=true) (m:Nat) (hx:a.eval x=.slice (some ⟨m,0,none⟩) 1 1) (hm:m=W.heap.size) (hn:n<=1000000) (hby:bytes<=1000) (hbase:base<=W.heap.size)
  (h:∀v' w',w'.ownsRow base e size v' (n+1) (xs++us)->W.grownBy w' v.ownBlock->(v'.ownBlock=v.ownBlock\/v'.ownBlock=some (W.heap.size+1))->wpList P ops Q rest (a.put o.dst v') w'):wpList P ops Q (o::rest) a (W.alloc (.cells us.toArray e)):=by
 subst hm;obtain⟨i0,hi0,hz0,hz1,hz2⟩:=info_parts hi;have hr:Reads (W.alloc (.cells us.toArray e)) (W.heap.size+1) size (some ⟨W.heap.size,0,none⟩) 1 us:=by refine⟨by rw[hus];omega,fun _=>⟨_,rfl,by simp,fun j u hj=>QI W us.toArray e j u (by simpa using hj)⟩⟩
 have hbb:(n+1)*bytes<=1000001*1000:=Nat.mul_le_mul (by omega) hby;refine ka _ hgd s x t ho base e i0 z size bytes ht hi0 hz0 hz1 hz2 hz hsz v n xs hs (hown.alloc _) _ _ 1 1 us hx hr hu (by unfold maxLen;omega) (by omega) (by simp;omega) ?_;intro v' w' h2 h3 h4;have hg:W.grownBy w' v.ownBlock:=⟨h3.os,h3.tape,h3.output,Nat.le_trans (by simp) h3.size,fun i hi hne=>(h3.block i (by simp;omega) hne).trans (Below.heap_alloc W _ i hi)⟩;exact h v' w' h2 hg (by simpa using h4)
theorem WK{x:Int}:∀u∈[Value.int .i64 x],u.oneCell'=true:=by intro u hu;simp at hu;subst hu;rfl
theorem aS.mem{w:World}{g:Nat}{m:aW}(h:aS w g 87 m.cells.toArray):w.cell? ⟨g,0,none⟩=some (.int .i64 m.addr)/\w.cell? ⟨g,1,none⟩=some (.int .i64 m.word)/\w.cell? ⟨g,2,none⟩=some (.bool m.any)/\w.cell? ⟨g,3,none⟩=some (.slice m.A m.reads.length m.c)/\w.cell? ⟨g,4,none⟩=some (.slice m.A2 m.writes.length m.c2):=⟨h.cell 0,h.cell 1,h.cell 2,h.cell 3,h.cell 4⟩
set_option maxRecDepth 100000
set_option maxHeartbeats 2000000
theorem Wn(m:aW)(w:World)(hm:m.bp w w.heap.size)(h1:m.reads.length<=4000)(h2:m.writes.length<=4000) :
  Calls Tryz.prog 152 #[m.v] w fun e w'=>e=.returned (.bool (eu m.d))/\Below w.heap.size w w':=by
 have hW:eu m.d=(decide (m.addr<1\/62<m.addr\/m.word<1\/64<m.word)||m.reads.any (fun x=>jr m.d x.d)||m.writes.any (fun x=>iz m.d x.d)):=by unfold eu;rw[show m.d.reads=m.reads.map bS.d from rfl,show m.d.writes=m.writes.map cF.d from rfl,List.any_map,List.any_map];rfl
 have HW:=Lib.hid hW;clear hW;have hm2:m.bp (w.alloc (.cells m.cells.toArray 87)) w.heap.size:=hm.aN fun p hp=>World.cell?_alloc_lt w _ p hp;have HM:=Lib.hid hm2;have hg:=aS.new w 87 m.cells.toArray;have HB:=Lib.hid (show Below w.heap.size w (w.alloc (.cells m.cells.toArray 87))from(Below.refl _ _).alloc (Nat.le_refl _) _);clear hm hm2;unfold aW.v;rcases(show m.addr<1\/(¬m.addr<1/\62<m.addr)\/(¬m.addr<1/\¬62<m.addr/\m.word<1)\/(¬m.addr<1/\¬62<m.addr/\¬m.word<1/\64<m.word)\/(¬m.addr<1/\¬62<m.addr/\¬m.word<1/\¬64<m.word)from by omega)with a1|⟨a1,a2⟩|⟨a1,a2,a3⟩|⟨a1,a2,a3,a4⟩|⟨a1,a2,a3,a4⟩
 iterate 4
  .clear hg
   go_enter Tryz.func152,Tryz.ntmps152
   go_wp2_with fail
   go_ret
   exact⟨by rw[HW.out];rw[bF (by omega)];rfl,(Below.refl _ _).alloc (Nat.le_refl _) _⟩
 .go_enter Tryz.func152,Tryz.ntmps152
  go_wp2_with fail
  obtain⟨g,hgg⟩:∃g,g=w.heap.size:=⟨_,rfl⟩;change Code.wp _ _ _ _ (w.alloc (.cells m.cells.toArray 87));rw[<-hgg]at hg HM |-;generalize w.alloc (.cells m.cells.toArray 87)=W1 at hg HM HB |-;have HGG:=Lib.hid hgg;clear hgg;obtain⟨c0,c1,c2,c3,c4⟩:=hg.mem
  go_loopw [3] (fun i wr=>∃k q:Nat,k<=m.reads.length/\i=.int .i64 k/\(m.reads.take k).any (fun x=>jr m.d x.d)=false/\wr=W1.drewN q) (fun i _=>m.reads.length-(intOf i).toNat)
  case atStart=>exact⟨0,0,Nat.zero_le _,rfl,rfl,rfl⟩
  case round=>
   obtain⟨k,q,hk,rfl,hno,rfl⟩:=hrel;have HNO:=Lib.hid hno;clear hno;by_cases hlt:k<m.reads.length
   .obtain⟨b,off,x,e1,hb,hx,hm,hcs⟩:=HM.out.rd.elem (by omega) (fun _=>rfl) hlt;obtain⟨hc0,hc1⟩:=bS.at_ hcs;have HX:=Lib.hid hx;have HMM:=Lib.hid hm;clear hcs hx hm;rw[e1]at c3;have HE:=Lib.hid e1;clear e1;rcases hp:((x.addr.length:Int) != m.addr)with _|_
    all_goals
     go_wp2_with fail
     go_quiet (fail)
     go_wp2_with fail
    .go_roundw
     case rel=>exact⟨k+1,_,by omega,by go_num,i6 HX.out HNO.out hp,rfl⟩
     case measure=>simp[intOf];omega
    .go_ret
     exact⟨by rw[HW.out,List.any_eq_true.2 ⟨x,HMM.out,hp⟩];simp,below_drewN (below_drewN HB.out _) _⟩
   .have hra:=i7 (show m.reads.length<=k by omega) HNO.out;rw[hra]at HW;clear hra
    go_wp2_with fail
    clear hlt hk
    go_loopw [4] (fun i wr=>∃k q:Nat,k<=m.writes.length/\i=.int .i64 k/\(m.writes.take k).any (fun x=>iz m.d x.d)=false/\wr=W1.drewN q) (fun i _=>m.writes.length-(intOf i).toNat)
    case atStart=>exact⟨0,q,Nat.zero_le _,rfl,rfl,rfl⟩
    case round=>
     clear HNO;obtain⟨k,q,hk,rfl,hno,rfl⟩:=hrel;have HNO:=Lib.hid hno;clear hno;by_cases hlt:k<m.writes.length
     .obtain⟨b,off,x,e1,hb,hx,hm,hcs⟩:=HM.out.wr.elem (by omega) (fun _=>rfl) hlt;obtain⟨hc0,hc1,hc2⟩:=cF.at_ hcs;have HX:=Lib.hid hx;have HMM:=Lib.hid hm;clear hcs hx hm;rw[e1]at c4;have HE:=Lib.hid e1;clear e1;rcases hp:((x.addr.length:Int) != m.addr)with _|_
      .rcases hp2:((x.data.length:Int) != m.word)with _|_
       .have HP:Hid (iz m.d x.d=false):=by show((x.addr.length:Int) != m.addr||(x.data.length:Int) != m.word)=false;rw[hp,hp2];rfl
        go_wp2_with fail
        go_quiet (fail)
        go_wp2_with fail
        go_roundw
        case rel=>exact⟨k+1,_,by omega,by go_num,i6 HX.out HNO.out HP.out,rfl⟩
        case measure=>simp[intOf];omega
       .have HP:Hid (iz m.d x.d=true):=by show((x.addr.length:Int) != m.addr||(x.data.length:Int) != m.word)=true;rw[hp,hp2];rfl
        go_wp2_with fail
        go_quiet (fail)
        go_wp2_with fail
        go_ret
        exact⟨by rw[HW.out,List.any_eq_true.2 ⟨x,HMM.out,HP.out⟩];simp,below_drewN (below_drewN HB.out _) _⟩
      .have HP:Hid (iz m.d x.d=true):=by show((x.addr.length:Int) != m.addr||(x.data.length:Int) != m.word)=true;rw[hp];rfl
       go_wp2_with fail
       go_quiet (fail)
       go_wp2_with fail
       go_ret
       exact⟨by rw[HW.out,List.any_eq_true.2 ⟨x,HMM.out,HP.out⟩];simp,below_drewN (below_drewN HB.out _) _⟩
     .have hwa:=i7 (show m.writes.length<=k by omega) HNO.out;rw[hwa,cw (by omega)]at HW;clear hwa
      go_wp2_with fail
      go_ret
      exact⟨by rw[HW.out];rfl,below_drewN HB.out _⟩
set_option maxHeartbeats 4000000
theorem Zzh(n:bf)(w:World)(hn:n.bp w w.heap.size)(ft:Fit n.d) :
  Calls Tryz.prog 151 #[n.v] w fun e w'=>e=.returned (.bool (hG n.d))/\Below w.heap.size w w':=by
 have hn2:n.bp (w.alloc (.cells n.fs 27)) w.heap.size:=hn.aN fun p hp=>World.cell?_alloc_lt w _ p hp;have HN:=Lib.hid hn2;have HE:Hid (hG n.d=(decide (n.d.vars<0\/2000<n.d.vars\/2000<n.d.aU.length\/2000<n.d.af.length\/2000<n.d.aw.length\/1000<n.d.bB.length+n.d.bC.length+n.d.constraints.length\/4<n.d.aa.length)||n.d.aa.any fu)):=rfl;have hpf:∀x∈n.aa,x.reads.length<=100/\x.writes.length<=100:=fun x hx=>by have h:=ft.aa.2 x.d (List.mem_map_of_mem hx);have h1:=h.pV;have h2:=h.zi;simp only[aW.d,aK]at h1 h2;exact⟨h1,h2⟩
 have HPF:=Lib.hid hpf;have hml:n.aa.length<=100:=by have:=ft.aa.1;simpa[bf.d]using this
 have hpa:n.d.aa.any fu=n.aa.any (fun x=>fu x.d):=by show(n.aa.map aW.d).any fu=_;rw[List.any_map];rfl
 rw[hpa]at HE;have hl1:n.aU.length<=4000:=ft.ins.1;have hl2:n.af.length<=4000:=ft.au.1;have hl3:n.aw.length<=4000:=ft.aw.1;have hl4:n.bB.length<=4000:=ft.out.1;have hl5:n.bC.length<=4000:=ft.bad.1;have hl6:n.constraints.length<=4000:=ft.lI.1;clear hn hn2 hpa hpf ft;obtain⟨z,hz⟩:∃z,z=hG n.d:=⟨_,rfl⟩;rw[<-hz]at HE |-;clear hz;unfold bf.v bf.fs;simp only[bf.d,aK]at HE;rcases(show n.vars<0\/(¬n.vars<0/\2000<n.vars)\/(¬n.vars<0/\¬2000<n.vars/\(1000:Int)<n.bB.length+n.bC.length+n.constraints.length)\/(¬n.vars<0/\¬2000<n.vars/\¬(1000:Int)<n.bB.length+n.bC.length+n.constraints.length/\(4:Int)<n.aa.length)\/(¬n.vars<0/\¬2000<n.vars/\¬(1000:Int)<n.bB.length+n.bC.length+n.constraints.length/\¬(4:Int)<n.aa.length)from by omega)with a1|⟨a1,a2⟩|⟨a1,a2,a3⟩|⟨a1,a2,a3,a4⟩|⟨a1,a2,a3,a4⟩
 iterate 4
  .go_enter Tryz.func151,Tryz.ntmps151
   go_wp2_with fail
   go_ret
   refine⟨mj ?_,(Below.refl _ _).alloc (Nat.le_refl _) _⟩;rw[HE.out,bF (by omega)];rfl
 .have hg:=aS.new w 27 n.fs;have HB:=Lib.hid (show Below w.heap.size w (w.alloc (.cells n.fs 27))from(Below.refl _ _).alloc (Nat.le_refl _) _)
  go_enter Tryz.func151,Tryz.ntmps151
  go_wp2_with fail
  obtain⟨g,hgg⟩:∃g,g=w.heap.size:=⟨_,rfl⟩;change Code.wp _ _ _ _ (w.alloc (.cells n.fs 27));rw[<-hgg]at hg HN |-;generalize w.alloc (.cells n.fs 27)=W1 at hg HN HB |-;have HGG:=Lib.hid hgg;clear hgg;obtain⟨c0,c1,c2,c3,c4,c5,c6,c7⟩:=hg.dU
  go_loopw [3] (fun i wr=>∃k q:Nat,k<=n.aa.length/\i=.int .i64 k/\(n.aa.take k).any (fun x=>fu x.d)=false/\wr=W1.drewN q) (fun i _=>n.aa.length-(intOf i).toNat)
  case atStart=>exact⟨0,0,Nat.zero_le _,rfl,rfl,rfl⟩
  case round=>
   obtain⟨k,q,hk,rfl,hno,rfl⟩:=hrel;have HNO:=Lib.hid hno;clear hno;by_cases hlt:k<n.aa.length
   .obtain⟨b,off,x,e1,hb,hx,hm,hcs⟩:=HN.out.mem.elem (by omega) (fun _=>rfl) hlt;obtain⟨hc0,hc1,hc2,hc3,hc4⟩:=aW.at_ hcs;have hx1:=(HPF.out x hm).1;have hx2:=(HPF.out x hm).2;have HX:=Lib.hid hx;have HMM:=Lib.hid hm;clear hcs hx hm;rw[e1]at c6;have HE1:=Lib.hid e1;clear e1;have hpe:fu x.d=decide (4<x.reads.length\/4<x.writes.length):=by unfold fu aW.d;simp
    have HPE:=Lib.hid hpe;clear hpe;rcases(show(4:Int)<x.reads.length\/(¬(4:Int)<x.reads.length/\(4:Int)<x.writes.length)\/(¬(4:Int)<x.reads.length/\¬(4:Int)<x.writes.length)from by omega)with p1|⟨p1,p2⟩|⟨p1,p2⟩
    iterate 2
     .go_wp2_with fail
      try (go_quiet (fail);go_wp2_with fail)
      go_ret
      refine⟨mj ?_,by repeat (first|exact HB.out|apply below_drewN)⟩;rw[HE.out];exact(Bool.or_eq_true_iff.2 (.inr (List.any_eq_true.2 ⟨x,HMM.out,by rw[HPE.out];simp;omega⟩))).symm
    .go_wp2_with fail
     try (go_quiet (fail);go_wp2_with fail)
     go_roundw
     case rel=>exact⟨k+1,_,by omega,by go_num,i6 HX.out HNO.out (by rw[HPE.out];simp;omega),rfl⟩
     case measure=>simp[intOf];omega
   .have hra:=i7 (show n.aa.length<=k by omega) HNO.out;rw[hra,Bool.or_false]at HE;clear hra;rcases(show(2000:Int)<n.aU.length\/(¬(2000:Int)<n.aU.length/\(2000:Int)<n.af.length)\/(¬(2000:Int)<n.aU.length/\¬(2000:Int)<n.af.length/\(2000:Int)<n.aw.length)\/(¬(2000:Int)<n.aU.length/\¬(2000:Int)<n.af.length/\¬(2000:Int)<n.aw.length)from by omega)with p1|⟨p1,p2⟩|⟨p1,p2,p3⟩|⟨p1,p2,p3⟩
    all_goals
     go_wp2_with fail
     try (go_quiet (fail);go_wp2_with fail)
     go_ret
     refine⟨mj ?_,by repeat (first|exact HB.out|apply below_drewN)⟩;rw[HE.out]
     first|(rw[bF (by omega)];done)|(rw[cw (by omega)];done)|(rw[Bool.eq_iff_iff];simp;omega)
theorem sF(a b:List Int):ints (a++b)=ints a++ints b:=by simp[ints]
theorem pb(a:List Int):(ints a).length=a.length:=by simp[ints]
theorem sR{w:World}{base:Nat}{v:Value}{a:List Int}{x:Int}{b:List Int}(h:w.ownsRow base 3 1 v (a.length+1) (ints a++#[Value.int .i64 x].toList))(e:b=a++[x]):w.ownsRow base 3 1 v b.length (ints b):=by subst e;rw[sF,bA];exact h
theorem yV{w:World}{base:Nat}{v:Value}{a c:List Int}{m:Nat}{b:List Int}(h:w.ownsRow base 3 1 v (a.length+m) (ints a++ints c))(hm:m=c.length)(e:b=a++c):w.ownsRow base 3 1 v b.length (ints b):=by subst e;subst hm;rw[sF,bA];exact h
theorem Xb{base:Nat}{w w':World}(h:Below base w w'){b:Nat}(hb:b<base)(o:Nat):w'.cell? ⟨b,o,none⟩=w.cell? ⟨b,o,none⟩:=h.cell (p:=⟨b,o,none⟩) hb
theorem Wo(m:aW)(j:Nat)(r:bS)(w:World)(hok:m.bp w w.heap.size)(hr:m.reads[j]?=some r)(hn:m.reads.length<=100)(hw:m.word<=4000)(hw0:-9223372036854775808<=m.word)(hv1:-1099511627776<=r.var)(hv2:r.var<=1099511627776) :
  Calls Tryz.prog 159 #[m.v,.int .i64 j] w (km 3 w (ints (cu r.var m.word.toNat))):=by
 have hj:j<m.reads.length:=(List.getElem?_eq_some_iff.1 hr).1;obtain⟨b,off,x,e1,hb,hx,hm,hcs⟩:=hok.rd.elem (by omega) (fun _=>rfl) hj;rw[hr]at hx;injection hx with hx;subst hx;obtain⟨hd0,hd1⟩:=bS.at_ hcs;obtain⟨hg,hB,hok2,hsz⟩:=Uw m w hok;clear hcs hm hr hok hok2 hd1;obtain⟨base,hbase⟩:∃base,base=w.heap.size:=⟨_,rfl⟩;rw[<-hbase]at hg hB hsz hb;have HD:=Lib.hid (show ∀w',Below base w w'->w'.cell? ⟨b,off+j*2,none⟩=some (.int .i64 r.var)from fun w' h=>by rw[Xb h hb,hd0]);have HJ:=Lib.hid hj;clear hd0;have HE:=Lib.hid e1;clear e1;unfold aW.v
 go_enter Tryz.func159,Tryz.ntmps159
 go_wp2_with fail
 rw[<-hbase];change Code.wp _ _ _ _ (w.alloc (.cells m.cells.toArray 87));generalize w.alloc (.cells m.cells.toArray 87)=W1 at hg hB hsz |-;have HB:=Lib.hid hB;have HG:=Lib.hid hg;have HBA:=Lib.hid hbase;clear hB hg hbase
 go_loopw [5,6] (fun v i wr=>∃k:Nat,k<=m.word.toNat/\i=.int .i64 k/\wr.ownsRow base 3 1 v (cu r.var k).length (ints (cu r.var k))/\ct 3 base W1 wr) (fun _ i _=>m.word.toNat-(intOf i).toNat)
 case atStart=>exact⟨0,Nat.zero_le _,rfl,by simp[cu,ints];exact World.ownsRow_nil _ _ _ _,ct.refl _ _ _⟩
 case round=>
  obtain⟨k,hk,rfl,hown,hf⟩:=hrel;obtain⟨c0,c1,c2,c3,c4⟩:=(hf.box _ _ _ HG.out (by decide)).mem;have hs:=hf.size;have hd:=HD.out _ (HB.out.trans hf.below);have hl:(cu r.var k).length=k:=by simp[cu]
  by_cases hlt:(k:Int)<m.word
  .rw[HE.out]at c3;rw[hl]at hown;have HOW:=Lib.hid hown;clear hl hown
   go_wp2_with (at_builtin;refine uE _ rfl _ _ 22 rfl base 3 (.int .i64 0) 1 8 Tryz.underlying22 lP rfl (by decide) _ _ _ rfl HOW.out _ rfl rfl tV (by omega) (by unfold maxLen;omega) (by omega) ?_;intro v1 w1 hown1 hg1 hb1;have HO:=Lib.hid hown1;have HG:=Lib.hid hg1;clear hown1 hg1 hb1)
   go_roundw
   case rel=>
    have hl:(cu r.var k).length=k:=by simp[cu]
    refine⟨k+1,by omega,by go_num,?_,hf.app HOW.out (by omega) HG.out⟩;refine sR (a:=cu r.var k) (x:=r.var+k) ?_ (yv _ _);rw[hl];exact HO.out
   case measure=>simp[intOf];omega
  .obtain rfl:k=m.word.toNat:=by omega
   go_wp2_with fail
   go_ret
   exact km.mk (by rw[pb]) (HBA.out▸hown) (HBA.out▸HB.out.trans hf.below)
theorem VJ{N:bf}{k j:Nat}{m:aW}{r:bS}(h:N.aa[k]?=some m)(h2:m.reads[j]?=some r):v4 N k m j++cu r.var m.word.toNat <+: bV N.d:=by refine List.IsPrefix.trans ?_ (JF h);unfold v4 kW;rw[dn];exact jC (FZ _ _ _ h2)
theorem Um{N:bf}{k j:Nat}{m:aW}{r:bS}(h2:m.reads[j]?=some r):v4 N k m (j+1)=v4 N k m j++cu r.var m.word.toNat:=by unfold v4;rw[nH _ h2,dn]
theorem Zxs(N:bf)(w:World)(hok:N.bp w w.heap.size)(ft:Fit N.d)(hD:(bV N.d).length<=1000000) :
  Calls Tryz.prog 86 #[N.v] w (km 3 w (ints (bV N.d))):=by
 have hl1:N.aU.length<=4000:=ft.ins.1;have hl2:N.af.length<=4000:=ft.au.1;have hl3:N.aw.length<=4000:=ft.aw.1;have hl4:N.aa.length<=100:=by have:=ft.aa.1;simpa[bf.d]using this
 have HMF:=Lib.hid (ft.aa.2);have HD:=Lib.hid hD;clear ft hD;obtain⟨hg,hB,hok2,hsz⟩:=BI N w hok;clear hok;obtain⟨base,hbase⟩:∃base,base=w.heap.size:=⟨_,rfl⟩;rw[<-hbase]at hg hB hsz hok2;obtain⟨i0,hi0,hi1,hi2,hi3⟩:=info_parts lP;have HI0:=Lib.hid hi0;have HI1:=Lib.hid hi1;have HI2:=Lib.hid hi2;have HI3:=Lib.hid hi3;clear hi0 hi1 hi2 hi3;have hown0:=World.ownsRow_made (base:=base) (e:=3) (size:=1) (w.alloc (.cells N.fs 27)) #[] 0 (by rw[hsz];omega) (by simp[maxLen]) rfl;rw[World.size_alloc,<-hbase]at hown0;have hR0:=(hok2.ins.1).alloc (by rw[hsz];omega) (.cells #[] 3);have HOW:=Lib.hid hown0;have HR:=Lib.hid (show Sl ((w.alloc (.cells N.fs 27)).alloc (.cells #[] 3)) base 1 N.Ai N.aU.length N.ci (ints N.aU)from⟨hR0,hok2.ins.2⟩);clear hown0 hR0;have HW2:=Lib.hid (show base<=((w.alloc (.cells N.fs 27)).alloc (.cells #[] 3)).heap.size by simp;omega);unfold bf.v
 go_enter Tryz.func86,Tryz.ntmps86
 unfold bf.fs;rw[hbase]at HOW HR HW2
 go_wp2_with (at_builtin;refine ka _ rfl _ _ 22 rfl w.heap.size 3 i0 (.int .i64 0) 1 8 Tryz.underlying22 HI0.out HI1.out HI2.out HI3.out rfl (by decide) _ _ _ rfl HOW.out _ N.Ai N.aU.length N.ci (ints N.aU) rfl HR.out.1 (ko _) (by unfold maxLen;omega) (by omega) HW2.out ?_;intro v1 w1 hown1 hg1 hbb1;have HO:=Lib.hid hown1;have HG:=Lib.hid hg1;clear hown1 hg1 hbb1)
 have hF1:ct 3 base (w.alloc (.cells N.fs 27)) w1:=((ct.refl _ _ _).alloc (by omega) _).app (by rw[hbase];exact HOW.out) (by rw[hbase];exact HW2.out) HG.out;have hO1:w1.ownsRow base 3 1 v1 (v2 N 0).length (ints (v2 N 0)):=by have:=HO.out;rw[Nat.zero_add,List.nil_append,<-hbase]at this;simpa[v2]using this
 clear HO HG HOW HW2 HR;rw[<-hbase];generalize w.alloc (.cells N.fs 27)=W1 at hg hB hok2 hsz hF1;have HB:=Lib.hid hB;have HG:=Lib.hid hg;have HBA:=Lib.hid hbase;have HOK:=Lib.hid hok2;have HSZ:=Lib.hid hsz;clear hB hg hbase hok2 hsz
 go_loopw [3,4] (fun v i wr=>∃k:Nat,k<=N.af.length/\i=.int .i64 k/\wr.ownsRow base 3 1 v (v2 N k).length (ints (v2 N k))/\ct 3 base W1 wr) (fun _ i _=>N.af.length-(intOf i).toNat)
 case atStart=>exact⟨0,Nat.zero_le _,rfl,hO1,hF1⟩
 case round=>
  clear hO1 hF1;obtain⟨k,hk,rfl,hown,hf⟩:=hrel;obtain⟨c0,c1,c2,c3,c4,c5,c6,c7⟩:=(hf.box _ _ _ HG.out (by decide)).dU;have hs:=hf.size;have hs2:=HSZ.out;have HOW:=Lib.hid hown;clear hown;by_cases hlt:k<N.af.length
  .obtain⟨b,off,x,e1,hb,hx,hm,hcs⟩:=(HOK.out.below hf.below).au.elem (by omega) (fun _=>rfl) hlt;obtain⟨hc0,hc1,hc2⟩:=dI.at_ hcs;have hp:=Nat.lt_of_lt_of_le (pF (Jm hx)) HD.out;have HX:=Lib.hid hx;clear hx hm hcs;rw[e1]at c2;have HE:=Lib.hid e1;clear e1
   go_wp2_with (at_builtin;refine uE _ rfl _ _ 22 rfl base 3 (.int .i64 0) 1 8 Tryz.underlying22 lP rfl (by decide) _ _ _ rfl HOW.out _ rfl rfl tV (by omega) (by unfold maxLen;omega) (by omega) ?_;intro v1 w1 hown1 hg1 hb1;have HO:=Lib.hid hown1;have HG:=Lib.hid hg1;clear hown1 hg1 hb1)
   go_roundw
   case rel=>exact⟨k+1,by omega,by go_num,sR HO.out (AP HX.out),hf.app HOW.out (by omega) HG.out⟩
   case measure=>simp[intOf];omega
  .have hO2:=HOW.out;rw[Lh (by omega)]at hO2;clear HOW
   go_wp2_with fail
   clear hlt hk
   go_loopw [3,5] (fun v i wr=>∃k:Nat,k<=N.aa.length/\i=.int .i64 k/\wr.ownsRow base 3 1 v (v3 N k).length (ints (v3 N k))/\ct 3 base W1 wr) (fun _ i _=>N.aa.length-(intOf i).toNat)
   case atStart=>exact⟨0,Nat.zero_le _,rfl,hO2,hf⟩
   case round=>
    clear hO2 hf c0 c1 c2 c3 c4 c5 c6 c7 hs;obtain⟨k,hk,rfl,hown,hf⟩:=hrel;obtain⟨c0,c1,c2,c3,c4,c5,c6,c7⟩:=(hf.box _ _ _ HG.out (by decide)).dU;have hs:=hf.size;by_cases hlt:k<N.aa.length
    .obtain⟨b,off,m,e1,hb,hx,hm,hcs⟩:=(HOK.out.below hf.below).mem.elem (by omega) (fun _=>rfl) hlt;have hfm:=HMF.out m.d (List.mem_map_of_mem hm);have hrn:m.reads.length<=100:=by have:=hfm.pV;simpa[aW.d]using this
     have HFM:=Lib.hid hfm;have HM:=Lib.hid (HOK.out.mA m hm);have HX:=Lib.hid hx;have HE:=Lib.hid e1;clear hx hm hcs hfm e1;rw[<-Lf (m:=m)]at hown
     go_wp2_with fail
     clear c0 c1 c2 c3 c4 c5 c6 c7
     go_loopw [3,6] (fun v i wr=>∃j:Nat,j<=m.reads.length/\i=.int .i64 j/\wr.ownsRow base 3 1 v (v4 N k m j).length (ints (v4 N k m j))/\ct 3 base W1 wr) (fun _ i _=>m.reads.length-(intOf i).toNat)
     case atStart=>exact⟨0,Nat.zero_le _,rfl,hown,hf⟩
     case round=>
      clear hown hf hs;obtain⟨j,hj,rfl,hown,hf⟩:=hrel;obtain⟨c0,c1,c2,c3,c4,c5,c6,c7⟩:=(hf.box _ _ _ HG.out (by decide)).dU;have hs:=hf.size;obtain⟨b',off',m',e1,_,hx',hm,hcs⟩:=(HOK.out.below hf.below).mem.elem (by omega) (fun _=>rfl) hlt;rw[HX.out]at hx';injection hx' with hx';subst hx';rw[HE.out]at e1;injection e1 with e1;injection e1 with e1 e2;subst e1 e2;obtain⟨hm0,hm1,hm2,hm3,hm4⟩:=aW.at_ hcs;clear hcs hm;rw[HE.out]at c6;have HOW:=Lib.hid hown;clear hown;by_cases hlt2:j<m.reads.length
      .obtain⟨r,hr⟩:∃r,m.reads[j]?=some r:=⟨_,bu hlt2⟩;have hrf:=HFM.out.iP r.d (by show _∈m.reads.map bS.d;exact List.mem_map_of_mem (cK hr));have hrv1:-1099511627776<=r.var:=hrf.2.1;have hrv2:r.var<=1099511627776:=hrf.2.2.1;have hmw1:m.word<=4000:=HFM.out.word.2;have hmw2:-9223372036854775808<=m.word:=HFM.out.word.1.1;have HRR:=Lib.hid hr;clear hrf hr;have hok3:m.bp wr wr.heap.size:=(HM.out.below hf.below).more (by omega);have hp:=Nat.le_trans (List.IsPrefix.length_le (VJ HX.out HRR.out)) HD.out
       go_wp2_with fail
       refine(Wo m j r wr hok3 HRR.out hrn hmw1 hmw2 hrv1 hrv2).mono ?_;rintro e w2 ⟨A2,c2',rfl,g1,g2,hown2,hbl⟩;have HS:=Lib.hid (Sl.own hown2);have HOW2:=Lib.hid (Zzk HOW.out hbl);have hf2:=hf.trans (ct.low hbl (by omega));have hs2:=hbl.size;rw[pb]at g1 |-;rw[pb]at HS;clear hown2 hok3 hbl HOW hf hm0 hm1 hm2 hm3 hm4 c0 c1 c2 c3 c4 c5 c6 c7;rw[bA]at hp
       go_wp2_with (at_builtin;refine ka _ rfl _ _ 22 rfl base 3 i0 (.int .i64 0) 1 8 Tryz.underlying22 HI0.out HI1.out HI2.out HI3.out rfl (by decide) _ _ _ rfl HOW2.out _ A2 (cu r.var m.word.toNat).length c2' (ints (cu r.var m.word.toNat)) rfl (HS.out).1 (ko _) (by unfold maxLen;omega) (by omega) (by omega) ?_;intro v1 w1 hown1 hg1 hbb1;have HO:=Lib.hid hown1;have HG:=Lib.hid hg1;clear hown1 hg1 hbb1)
       go_roundw
       case rel=>exact⟨j+1,by omega,by go_num,yV HO.out rfl (Um HRR.out),hf2.app HOW2.out (by omega) HG.out⟩
       case measure=>simp[intOf];omega
      .have hO3:=HOW.out;rw[Lg HX.out (by omega)]at hO3;clear HOW
       go_wp2_with fail
       go_roundw
       case rel=>exact⟨k+1,by omega,by go_num,hO3,hf⟩
       case measure=>simp[intOf];omega
    .rw[Li (by omega)]at hown
     go_wp2_with fail
     clear hlt hk c0 c1 c2 c3 c4 c5 c6 c7
     go_loopw [3,7] (fun v i wr=>∃k:Nat,k<=N.aw.length/\i=.int .i64 k/\wr.ownsRow base 3 1 v (v6 N k).length (ints (v6 N k))/\ct 3 base W1 wr) (fun _ i _=>N.aw.length-(intOf i).toNat)
     case atStart=>exact⟨0,Nat.zero_le _,rfl,hown,hf⟩
     case round=>
      clear hown hf hs;obtain⟨k,hk,rfl,hown,hf⟩:=hrel;obtain⟨c0,c1,c2,c3,c4,c5,c6,c7⟩:=(hf.box _ _ _ HG.out (by decide)).dU;have hs:=hf.size;have HOW:=Lib.hid hown;clear hown;by_cases hlt:k<N.aw.length
      .obtain⟨b,off,x,e1,hb,hx,hm,hcs⟩:=(HOK.out.below hf.below).and.elem (by omega) (fun _=>rfl) hlt;obtain⟨hc0,hc1,hc2⟩:=ey.at_ hcs;have hp:=Nat.lt_of_lt_of_le (pF (Jn hx)) HD.out;have HX:=Lib.hid hx;clear hx hm hcs;rw[e1]at c7;clear e1
       go_wp2_with (at_builtin;refine uE _ rfl _ _ 22 rfl base 3 (.int .i64 0) 1 8 Tryz.underlying22 lP rfl (by decide) _ _ _ rfl HOW.out _ rfl rfl tV (by omega) (by unfold maxLen;omega) (by omega) ?_;intro v1 w1 hown1 hg1 hb1;have HO:=Lib.hid hown1;have HG:=Lib.hid hg1;clear hown1 hg1 hb1)
       go_roundw
       case rel=>exact⟨k+1,by omega,by go_num,sR HO.out (AO HX.out),hf.app HOW.out (by omega) HG.out⟩
       case measure=>simp[intOf];omega
      .have hO4:=HOW.out;rw[Le (by omega)]at hO4
       go_wp2_with fail
       go_ret
       exact km.mk (by rw[pb]) (HBA.out▸hO4) (HBA.out▸HB.out.trans hf.below)
theorem aS.write{w:World}{g:Nat}{m:cF}(h:aS w g 111 m.cells.toArray):w.cell? ⟨g,0,none⟩=some (.int .i64 m.on)/\w.cell? ⟨g,1,none⟩=some (.slice m.A m.addr.length m.c)/\w.cell? ⟨g,2,none⟩=some (.slice m.A2 m.data.length m.c2):=⟨h.cell 0,h.cell 1,h.cell 2⟩
theorem TY{N:bf}:k1 N 0=[]:=by simp[k1]
theorem Xl{w:World}{base:Nat}{v:Value}{a:List Int}{x y:Int}{b:List Int}(h:w.ownsRow base 3 1 v (a.length+2) (ints a++ints [x,y]))(e:b=a++[x,y]):w.ownsRow base 3 1 v b.length (ints b):=yV (c:=[x,y]) h rfl e
theorem Zwk(N:bf)(w:World)(hok:N.bp w w.heap.size)(ft:Fit N.d)(hD:(cW N.d).length<=1000000) :
  Calls Tryz.prog 154 #[N.v] w (km 3 w (ints (cW N.d))):=by
 have hl2:N.af.length<=4000:=ft.au.1;have hl3:N.aw.length<=4000:=ft.aw.1;have hl4:N.aa.length<=100:=by have:=ft.aa.1;simpa[bf.d]using this
 have HMF:=Lib.hid (ft.aa.2);have HD:=Lib.hid hD;clear ft hD;obtain⟨hg,hB,hok2,hsz⟩:=BI N w hok;clear hok;obtain⟨base,hbase⟩:∃base,base=w.heap.size:=⟨_,rfl⟩;rw[<-hbase]at hg hB hsz hok2;obtain⟨i0,hi0,hi1,hi2,hi3⟩:=info_parts lP;have HI0:=Lib.hid hi0;have HI1:=Lib.hid hi1;have HI2:=Lib.hid hi2;have HI3:=Lib.hid hi3;clear hi0 hi1 hi2 hi3;unfold bf.v
 go_enter Tryz.func154,Tryz.ntmps154
 unfold bf.fs
 go_wp2_with fail
 rw[<-hbase];change Code.wp _ _ _ _ (w.alloc (.cells N.fs 27));generalize w.alloc (.cells N.fs 27)=W1 at hg hB hok2 hsz |-;have HB:=Lib.hid hB;have HG:=Lib.hid hg;have HBA:=Lib.hid hbase;have HOK:=Lib.hid hok2;have HSZ:=Lib.hid hsz;clear hB hg hbase hok2 hsz
 go_loopw [3,4] (fun v i wr=>∃k:Nat,k<=N.af.length/\i=.int .i64 k/\wr.ownsRow base 3 1 v (k1 N k).length (ints (k1 N k))/\ct 3 base W1 wr) (fun _ i _=>N.af.length-(intOf i).toNat)
 case atStart=>exact⟨0,Nat.zero_le _,rfl,by rw[TY];exact World.ownsRow_nil _ _ _ _,ct.refl _ _ _⟩
 case round=>
  obtain⟨k,hk,rfl,hown,hf⟩:=hrel;obtain⟨c0,c1,c2,c3,c4,c5,c6,c7⟩:=(hf.box _ _ _ HG.out (by decide)).dU;have hs:=hf.size;have hs2:=HSZ.out;have HOW:=Lib.hid hown;clear hown;by_cases hlt:k<N.af.length
  .obtain⟨b,off,x,e1,hb,hx,hm,hcs⟩:=(HOK.out.below hf.below).au.elem (by omega) (fun _=>rfl) hlt;obtain⟨hc0,hc1,hc2⟩:=dI.at_ hcs;have hp:=ke (Jb (k:=k)) HD.out;have HX:=Lib.hid hx;clear hx hm hcs;rw[e1]at c2;clear e1
   go_wp2_with (at_builtin;refine uE _ rfl _ _ 22 rfl base 3 (.int .i64 0) 1 8 Tryz.underlying22 lP rfl (by decide) _ _ _ rfl HOW.out _ rfl rfl tV (by omega) (by unfold maxLen;omega) (by omega) ?_;intro v1 w1 hown1 hg1 hb1;have HO:=Lib.hid hown1;have HG:=Lib.hid hg1;clear hown1 hg1 hb1)
   go_roundw
   case rel=>exact⟨k+1,by omega,by go_num,sR HO.out (AZ HX.out),hf.app HOW.out (by omega) HG.out⟩
   case measure=>simp[intOf];omega
  .have hp:=ke (Bs (k:=0)) HD.out;rw[<-um (show N.af.length<=k by omega)]at hp;simp only[bA]at hp;have HS:=Lib.hid ((HOK.out.below hf.below).out);have HF:=Lib.hid hf;clear c4 c5 c6 c7 hf
   go_wp2_with (first|(at_builtin;refine ka _ rfl _ _ 22 rfl base 3 i0 (.int .i64 0) 1 8 Tryz.underlying22 HI0.out HI1.out HI2.out HI3.out rfl (by decide) _ _ _ rfl HOW.out _ N.Ao N.bB.length N.co (ints N.bB) rfl (HS.out).1 (ko _) (by unfold maxLen;omega) (by omega) (by omega) ?_;intro v1 w1 hown1 hg1 hbb1;have HO1:=Lib.hid hown1;have HG1:=Lib.hid hg1;clear hown1 hg1 hbb1;have hf1:=HF.out.app HOW.out (by omega) HG1.out;have hs1:=hf1.size;have c4:=(hf1.box _ _ _ HG.out (by decide)).dU.2.2.2.2.1;have HF1:=Lib.hid hf1;have HS1:=Lib.hid ((HOK.out.below hf1.below).bad);have HOW1:=Lib.hid (yV HO1.out rfl rfl);rw[bA]at HOW1;clear hf1 HO1 HG1)|(at_builtin;refine ka _ rfl _ _ 22 rfl base 3 i0 (.int .i64 0) 1 8 Tryz.underlying22 HI0.out HI1.out HI2.out HI3.out rfl (by decide) _ _ _ rfl HOW1.out _ N.Ab N.bC.length N.cb (ints N.bC) rfl (HS1.out).1 (ko _) (by unfold maxLen;omega) (by omega) (by omega) ?_;intro v2 w2 hown1 hg1 hbb1;have HO2:=Lib.hid hown1;have HG2:=Lib.hid hg1;clear hown1 hg1 hbb1;have hf2:=HF1.out.app HOW1.out (by omega) HG2.out;have hs2:=hf2.size;have c5:=(hf2.box _ _ _ HG.out (by decide)).dU.2.2.2.2.2.1;have HF2:=Lib.hid hf2;have HS2:=Lib.hid ((HOK.out.below hf2.below).lI);have HOW2:=Lib.hid HO2.out;clear hf2)|(at_builtin;refine ka _ rfl _ _ 22 rfl base 3 i0 (.int .i64 0) 1 8 Tryz.underlying22 HI0.out HI1.out HI2.out HI3.out rfl (by decide) _ _ _ rfl HOW2.out _ N.Ac N.constraints.length N.cc (ints N.constraints) rfl (HS2.out).1 (ko _) (by unfold maxLen;omega) (by omega) (by omega) ?_;intro v3 w3 hown1 hg1 hbb1;have HO3:=Lib.hid hown1;have HG3:=Lib.hid hg1;clear hown1 hg1 hbb1))
   have hF3:=HF2.out.app HOW2.out (by omega) HG3.out;have hO3:w3.ownsRow base 3 1 v3 (k2 N 0).length (ints (k2 N 0)):=by rw[<-um (show N.af.length<=k by omega)];have:=HO3.out;simpa only[bA,sF]using this
   clear HO3 HG3 HS2 HOW2 HF2 HG2 HO2 HS1 HOW1 HF1 HS HF HOW hs1 hs2 hs hp c0 c1 c2 c3 c4 c5 hlt hk
   go_loopw [3,5] (fun v i wr=>∃k:Nat,k<=N.aa.length/\i=.int .i64 k/\wr.ownsRow base 3 1 v (k2 N k).length (ints (k2 N k))/\ct 3 base W1 wr) (fun _ i _=>N.aa.length-(intOf i).toNat)
   case atStart=>exact⟨0,Nat.zero_le _,rfl,hO3,hF3⟩
   case round=>
    clear hO3 hF3;obtain⟨k,hk,rfl,hown,hf⟩:=hrel;obtain⟨c0,c1,c2,c3,c4,c5,c6,c7⟩:=(hf.box _ _ _ HG.out (by decide)).dU;have hs:=hf.size;have hs2:=HSZ.out;by_cases hlt:k<N.aa.length
    .obtain⟨b,off,m,e1,hb,hx,hm,hcs⟩:=(HOK.out.below hf.below).mem.elem (by omega) (fun _=>rfl) hlt;obtain⟨hm0,hm1,hm2,hm3,hm4⟩:=aW.at_ hcs;have hfm:=HMF.out m.d (List.mem_map_of_mem hm);have hrn:m.reads.length<=100:=by have:=hfm.pV;simpa[aW.d]using this
     have hwn:m.writes.length<=100:=by have:=hfm.zi;simpa[aW.d]using this
     have HM:=Lib.hid (HOK.out.mA m hm);have HX:=Lib.hid hx;rw[e1]at c6;clear hx hm hcs hfm e1
     go_wp2_with fail
     obtain⟨g,hgg⟩:∃g,g=wr.heap.size:=⟨_,rfl⟩;have hf2:=hf.alloc (show base<=wr.heap.size by omega) (.cells m.cells.toArray 87);have hown2:=hown.alloc (.cells m.cells.toArray 87);have hbk:=aS.new wr 87 m.cells.toArray;rw[<-hgg]at hbk |-;rw[<-LF (m:=m)]at hown2;clear hgg hown hf hm0 hm1 hm2 hm3 hm4 c0 c1 c2 c3 c4 c5 c6 c7;change Code.wp _ _ _ _ (wr.alloc (.cells m.cells.toArray 87));generalize wr.alloc (.cells m.cells.toArray 87)=w3 at hf2 hown2 hbk |-
     go_loopw [3,7] (fun v i wr=>∃j:Nat,j<=m.reads.length/\i=.int .i64 j/\wr.ownsRow base 3 1 v (k3 N k m j).length (ints (k3 N k m j))/\ct 3 base W1 wr/\aS wr g 87 m.cells.toArray) (fun _ i _=>m.reads.length-(intOf i).toNat)
     case atStart=>exact⟨0,Nat.zero_le _,rfl,hown2,hf2,hbk⟩
     case round=>
      clear hown2 hf2 hbk hs;obtain⟨j,hj,rfl,hown,hf,hbk⟩:=hrel;obtain⟨c0,c1,c2,c3,c4⟩:=hbk.mem;have hs:=hf.size;have HOW:=Lib.hid hown;clear hown;by_cases hlt2:j<m.reads.length
      .obtain⟨b2,off2,r,e1,hb2,hx2,hm2,hcs⟩:=(HM.out.below hf.below).rd.elem (by omega) (fun _=>rfl) hlt2;obtain⟨hc0,hc1⟩:=bS.at_ hcs;have HS:=Lib.hid ((HM.out.iP r hm2).below hf.below);have hp:=ke (Jc (j:=j+1) HX.out) HD.out;rw[yZ hx2,bA]at hp;have HX2:=Lib.hid hx2;rw[e1]at c3;clear hx2 hm2 hcs e1
       go_wp2_with (at_builtin;refine ka _ rfl _ _ 22 rfl base 3 i0 (.int .i64 0) 1 8 Tryz.underlying22 HI0.out HI1.out HI2.out HI3.out rfl (by decide) _ _ _ rfl HOW.out _ r.A r.addr.length r.c (ints r.addr) rfl (HS.out).1 (ko _) (by unfold maxLen;omega) (by omega) (by omega) ?_;intro v1 w1 hown1 hg1 hbb1;have HO:=Lib.hid hown1;have HG:=Lib.hid hg1;clear hown1 hg1 hbb1)
       go_roundw
       case rel=>exact⟨j+1,by omega,by go_num,yV HO.out rfl (yZ HX2.out),hf.app HOW.out (by omega) HG.out,(ct.app (ct.refl _ _ _) HOW.out (by omega) HG.out).box _ _ _ hbk (by decide)⟩
       case measure=>simp[intOf];omega
      .have hO3:=HOW.out;rw[LG (by omega)]at hO3;clear HOW
       go_wp2_with fail
       clear hlt2 hj
       go_loopw [3,8] (fun v i wr=>∃j:Nat,j<=m.writes.length/\i=.int .i64 j/\wr.ownsRow base 3 1 v (k4 N k m j).length (ints (k4 N k m j))/\ct 3 base W1 wr/\aS wr g 87 m.cells.toArray) (fun _ i _=>m.writes.length-(intOf i).toNat)
       case atStart=>exact⟨0,Nat.zero_le _,rfl,hO3,hf,hbk⟩
       case round=>
        clear hO3 hf hbk hs c0 c1 c2 c3 c4;obtain⟨j,hj,rfl,hown,hf,hbk⟩:=hrel;obtain⟨c0,c1,c2,c3,c4⟩:=hbk.mem;have hs:=hf.size;have HOW:=Lib.hid hown;clear hown;by_cases hlt2:j<m.writes.length
        .obtain⟨b2,off2,r,e1,hb2,hx2,hm2,hcs⟩:=(HM.out.below hf.below).wr.elem (by omega) (fun _=>rfl) hlt2;obtain⟨hc0,hc1,hc2⟩:=cF.at_ hcs;have HR:=Lib.hid (HM.out.oq r hm2);have hp:=ke (Br (j:=j+1) HX.out) HD.out;rw[yY hx2]at hp;simp only[bA,cx,List.length_nil]at hp;have HX2:=Lib.hid hx2;rw[e1]at c4;clear hx2 hm2 hcs e1;have hf2:=hf.alloc (show base<=wr.heap.size by omega) (.cells r.cells.toArray 111);have HOWa:=Lib.hid (HOW.out.alloc (.cells r.cells.toArray 111));have HBW:=Lib.hid (aS.new wr 111 r.cells.toArray);have HBM:=Lib.hid (hbk.alloc (.cells r.cells.toArray 111));have HSa:=Lib.hid (show base<=(wr.alloc (.cells r.cells.toArray 111)).heap.size by simp;omega);have HF:=Lib.hid hf2;clear hf2 hf hbk
         go_wp2_with (first|(at_builtin;refine Zsg _ rfl _ _ 22 rfl base 3 (.int .i64 0) 1 8 Tryz.underlying22 lP rfl (by decide) _ _ _ rfl HOWa.out [.int .i64 r.on] rfl WK _ rfl (by simp) (by omega) (by omega) HSa.out ?_;intro v1 w1 hown1 hg1 _;have hfa:=ct.app (ct.refl _ _ _) HOWa.out HSa.out hg1;have hf1:=HF.out.trans hfa;have hs1:=hf1.size;have hbw:=hfa.box _ _ _ HBW.out (by decide);obtain⟨d0,d1,d2⟩:=hbw.write;have HBW1:=Lib.hid hbw;have HBM1:=Lib.hid (hfa.box _ _ _ HBM.out (by decide));have HF1:=Lib.hid hf1;have HS1:=Lib.hid ((HR.out.below hf1.below).1);have HOW1:=Lib.hid (sR hown1 rfl);rw[bA,List.length_singleton]at HOW1;clear hf1 hfa hbw hown1 hg1)|(at_builtin;refine ka _ rfl _ _ 22 rfl base 3 i0 (.int .i64 0) 1 8 Tryz.underlying22 HI0.out HI1.out HI2.out HI3.out rfl (by decide) _ _ _ rfl HOW1.out _ r.A r.addr.length r.c (ints r.addr) rfl (HS1.out).1 (ko _) (by unfold maxLen;omega) (by omega) (by omega) ?_;intro v2 w2 hown1 hg1 hbb1;have HO2:=Lib.hid hown1;have HG2:=Lib.hid hg1;clear hown1 hg1 hbb1;have hfa:=ct.app (ct.refl _ _ _) HOW1.out (by omega) HG2.out;have hf2:=HF1.out.trans hfa;have hs2:=hf2.size;have hbw:=hfa.box _ _ _ HBW1.out (by decide);obtain⟨f0,f1,f2⟩:=hbw.write;have HBM2:=Lib.hid (hfa.box _ _ _ HBM1.out (by decide));have HF2:=Lib.hid hf2;have HS2:=Lib.hid ((HR.out.below hf2.below).2);have HOW2:=Lib.hid HO2.out;clear hf2 hfa hbw HO2 HG2)|(at_builtin;refine ka _ rfl _ _ 22 rfl base 3 i0 (.int .i64 0) 1 8 Tryz.underlying22 HI0.out HI1.out HI2.out HI3.out rfl (by decide) _ _ _ rfl HOW2.out _ r.A2 r.data.length r.c2 (ints r.data) rfl (HS2.out).1 (ko _) (by unfold maxLen;omega) (by omega) (by omega) ?_;intro v3 w3 hown1 hg1 hbb1;have HO3:=Lib.hid hown1;have HG3:=Lib.hid hg1;clear hown1 hg1 hbb1))
         go_roundw
         case rel=>
          have hfa:=ct.app (ct.refl _ _ _) HOW2.out (by omega) HG3.out;refine⟨j+1,by omega,by go_num,?_,HF2.out.trans hfa,hfa.box _ _ _ HBM2.out (by decide)⟩;rw[yY HX2.out];have e1:(k4 N k m j++[r.on]++r.addr++r.data).length=(k4 N k m j).length+1+r.addr.length+r.data.length:=by simp only[bA,List.length_singleton]
          have e2:ints (k4 N k m j++[r.on]++r.addr++r.data)=ints (k4 N k m j++[r.on])++ints r.addr++ints r.data:=by rw[sF,sF]
          rw[e1,e2];exact HO3.out
         case measure=>simp[intOf];omega
        .have hO3:=HOW.out;rw[LD HX.out (by omega)]at hO3;clear HOW
         go_wp2_with fail
         go_roundw
         case rel=>exact⟨k+1,by omega,by go_num,hO3,hf⟩
         case measure=>simp[intOf];omega
    .rw[LI (by omega)]at hown
     go_wp2_with fail
     clear hlt hk c0 c1 c2 c3 c4 c5 c6 c7
     go_loopw [3,10] (fun v i wr=>∃k:Nat,k<=N.aw.length/\i=.int .i64 k/\wr.ownsRow base 3 1 v (k5 N k).length (ints (k5 N k))/\ct 3 base W1 wr) (fun _ i _=>N.aw.length-(intOf i).toNat)
     case atStart=>exact⟨0,Nat.zero_le _,rfl,hown,hf⟩
     case round=>
      clear hown hf hs;obtain⟨k,hk,rfl,hown,hf⟩:=hrel;obtain⟨c0,c1,c2,c3,c4,c5,c6,c7⟩:=(hf.box _ _ _ HG.out (by decide)).dU;have hs:=hf.size;have HOW:=Lib.hid hown;clear hown;by_cases hlt:k<N.aw.length
      .obtain⟨b,off,x,e1,hb,hx,hm,hcs⟩:=(HOK.out.below hf.below).and.elem (by omega) (fun _=>rfl) hlt;obtain⟨hc0,hc1,hc2⟩:=ey.at_ hcs;have hp:=ke (Jd (k:=k+1)) HD.out;rw[yX hx]at hp;simp only[bA,cx,List.length_nil]at hp;have HX:=Lib.hid hx;clear hx hm hcs;rw[e1]at c7;clear e1
       go_wp2_with fail
       have HOW3:=Lib.hid (show(wr.drew.alloc (.cells #[.int .i64 x.a,.int .i64 x.b] 3)).ownsRow _ _ _ _ _ _ from World.ownsRow.alloc (w:=wr.drew) HOW.out _);have HS:=Lib.hid (show Sl (wr.drew.alloc (.cells (ints [x.a,x.b]).toArray 3)) _ 1 (some ⟨wr.heap.size,0,none⟩) 2 2 (ints [x.a,x.b])from Bl wr.drew [x.a,x.b] (by simp));have hs9:base<=(wr.drew.alloc (.cells #[.int .i64 x.a,.int .i64 x.b] 3)).heap.size:=by rw[World.size_alloc];show base<=wr.heap.size+1;omega
       have HS9:=Lib.hid hs9;clear hs9
       go_region_law ((refine Zwa _ rfl _ _ 22 rfl base 3 i0 (.int .i64 0) 1 8 Tryz.underlying22 HI0.out HI1.out HI2.out HI3.out rfl (by decide) _ _ _ rfl HOW3.out _ (some ⟨wr.heap.size,0,none⟩) 2 2 (ints [x.a,x.b]) rfl (HS.out).1 (ko _) (by unfold maxLen;omega) (by omega) HS9.out ?_;intro v1 w1 hown1 hg1 hbb1;have HO:=Lib.hid hown1;have HG:=Lib.hid hg1;clear hown1 hg1 hbb1))
       all_goals
        go_wp2_with fail
        go_roundw
        case rel=>exact⟨k+1,by omega,by go_num,Xl HO.out (yX HX.out),ct.app (ct.alloc (b:=wr.drew) (hf.drewN 1) (by show base<=wr.heap.size;omega) _) HOW3.out HS9.out HG.out⟩
        case measure=>simp[intOf];omega
      .have hO4:=HOW.out;rw[LC (by omega)]at hO4
       go_wp2_with fail
       go_ret
       exact km.mk (by rw[pb]) (HBA.out▸hO4) (HBA.out▸HB.out.trans hf.below)
end Go.Proofs.YtdcnjfbffckblaaGreat
end
section
namespace Go.Proofs.YtdcnjfbffckblaaGreat.Pl
structure Nd where
 aF:List Nat
 to:List Nat
def mx(l:List Nat):Nat:=l.foldl max 0
theorem V1(l:List Nat):∀a,a<=l.foldl max a:=by induction l with|nil=>intro a;exact Nat.le_refl _|cons x l ih=>intro a;exact Nat.le_trans (Nat.le_max_left a x) (ih _)
theorem VQ(l:List Nat):∀a x,x∈l->x<=l.foldl max a:=by
 induction l with
 |nil=>intro a x h;cases h
 |cons y l ih=>
  intro a x h;rcases List.mem_cons.1 h with rfl|h
  .exact Nat.le_trans (Nat.le_max_right a x) (V1 l _)
  .exact ih _ x h
theorem Zx2(l:List Nat):∀a,l.foldl max a=a\/l.foldl max a∈l:=by
 induction l with
 |nil=>intro a;exact .inl rfl|cons y l ih=>
  intro a;rcases ih (max a y)with h|h
  .show l.foldl max (max a y)=a\/_;rcases Nat.le_total a y with h2|h2
   .right;rw[List.foldl_cons,h,Nat.max_eq_right h2];simp
   .left;rw[h,Nat.max_eq_left h2]
  .right;rw[List.foldl_cons];exact List.mem_cons_of_mem _ h
theorem Jj{l:List Nat}{x:Nat}(h:x∈l):x<=mx l:=VQ l 0 x h
theorem KK(l:List Nat):mx l=0\/mx l∈l:=Zx2 l 0
theorem JA{l:List Nat}{k:Nat}(h:∀x∈l,x<=k):mx l<=k:=by
 rcases KK l with h1|h1
 .omega
 .exact h _ h1
theorem T5(l:List Nat)(x:Nat):mx (l++[x])=max (mx l) x:=by simp[mx,List.foldl_append]
def dL(N:List Nd):Prop:=∀(i j:Nat) (x y:Nd) (v:Nat),N[i]?=some x->N[j]?=some y->v∈x.to->v∈y.to->i=j
theorem dL.same{N:List Nd}(ap:dL N){x y:Nd}{v:Nat}(hx:x∈N)(hy:y∈N)(h1:v∈x.to)(h2:v∈y.to):x=y:=by obtain⟨i,hi⟩:=List.getElem?_of_mem hx;obtain⟨j,hj⟩:=List.getElem?_of_mem hy;obtain rfl:=ap i j x y v hi hj h1 h2;rw[hi]at hj;injection hj
inductive bX(N:List Nd):Nat->Nat->Prop
 |free (v:Nat) (h:∀x∈N,v∉x.to):bX N v 0
 |node (x:Nd) (v:Nat) (f:Nat->Nat) (hx:x∈N) (hv:v∈x.to) (h:∀u∈x.aF,bX N u (f u)):bX N v (mx (x.aF.map f)+1)
section
variable{N:List Nd}
theorem bX.inv(ap:dL N){v k:Nat}{x:Nd}(h:bX N v k)(hx:x∈N)(hv:v∈x.to):∃f,(∀u∈x.aF,bX N u (f u))/\k=mx (x.aF.map f)+1:=by cases h with|free _ h=>exact absurd hv (h x hx)|node y _ f hy hv2 h=>obtain rfl:=ap.same hy hx hv2 hv;exact⟨f,h,rfl⟩
theorem Qw{l:List Nat}{f g:Nat->Nat}(h:∀u∈l,f u=g u):l.map f=l.map g:=List.map_congr_left h
theorem bX.one(ap:dL N){v k:Nat}(h:bX N v k):∀{k':Nat},bX N v k'->k=k':=by
 induction h with
 |free v h=>intro k' h';cases h' with|free _ _=>rfl|node x _ f hx hv _=>exact absurd hv (h x hx)
 |node x v f hx hv _ ih=>intro k' h';obtain⟨g,hg,rfl⟩:=h'.inv ap hx hv;rw[Qw fun u hu=>ih u hu (hg u hu)]
theorem bX.aF(ap:dL N){v k u:Nat}{x:Nd}(h:bX N v k)(hx:x∈N)(hv:v∈x.to)(hu:u∈x.aF):∃k',k'<k/\bX N u k':=by obtain⟨f,hf,rfl⟩:=h.inv ap hx hv;exact⟨f u,Nat.lt_succ_of_le (Jj (List.mem_map_of_mem hu)),hf u hu⟩
theorem bX.rI{v v' k:Nat}{x:Nd}(ap:dL N)(h:bX N v k)(hx:x∈N)(hv:v∈x.to)(hv':v'∈x.to):bX N v' k:=by obtain⟨f,hf,rfl⟩:=h.inv ap hx hv;exact .node x v' f hx hv' hf
inductive iZ(N:List Nd):Nat->Nat->Prop
 |one (x:Nd) (u v:Nat) (hx:x∈N) (hu:u∈x.to) (hv:v∈x.aF):iZ N u v
 |more (x:Nd) (u v t:Nat) (h:iZ N u v) (hx:x∈N) (hv:v∈x.to) (ht:t∈x.aF):iZ N u t
theorem iZ.lower(ap:dL N){u v:Nat}(h:iZ N u v):∀{k:Nat},bX N u k->∃k',k'<k/\bX N v k':=by induction h with|one x u v hx hu hv=>intro k hk;exact hk.aF ap hx hu hv|more x u v t _ hx hv ht ih=>intro k hk;obtain⟨k1,h1,l1⟩:=ih hk;obtain⟨k2,h2,l2⟩:=l1.aF ap hx hv ht;exact⟨k2,by omega,l2⟩
theorem iZ.none(ap:dL N){v:Nat}(h:iZ N v v)(k:Nat):¬bX N v k:=fun hk=>by obtain⟨k',h1,h2⟩:=h.lower ap hk;have:=hk.one ap h2;omega
theorem Qx:∀(k:Nat) (L:List Nat),(∀j,1<=j->j<=k->j∈L)->k<=L.length:=by
 intro k
 induction k with|zero=>intro L _;exact Nat.zero_le _|succ k ih=>intro L h;have hm:=h (k+1) (by omega) (Nat.le_refl _);have h2:=ih (L.erase (k+1)) (fun j h1 h2=>(List.mem_erase_of_ne (by omega)).2 (h j h1 (by omega)));rw[List.length_erase_of_mem hm]at h2;have:0<L.length:=List.length_pos_of_mem hm;omega
theorem bX.Vg(ap:dL N){v k:Nat}(h:bX N v k):∀j,1<=j->j<=k->∃x∈N,∃u∈x.to,bX N u j:=by
 induction h with
 |free v h=>intro j h1 h2;omega|node x v f hx hv h ih=>
  intro j h1 h2;by_cases e:j=mx (x.aF.map f)+1
  .subst e;exact⟨x,hx,v,hv,.node x v f hx hv h⟩
  .rcases KK (x.aF.map f)with h0|h0
   .omega
   .obtain⟨u,hu,hfu⟩:=List.mem_map.1 h0;exact ih u hu j h1 (by omega)
theorem bX.le(ap:dL N){v k:Nat}(h:bX N v k):k<=N.length:=by
 have hlv:∃lv:Nd->Nat,∀x∈N,∀u∈x.to,∀j,bX N u j->lv x=j:=by refine⟨fun x=>Classical.epsilon fun j=>∃u∈x.to,bX N u j,fun x hx u hu j hj=>?_⟩;obtain⟨u',hu',hj'⟩:=Classical.epsilon_spec (p:=fun j=>∃u∈x.to,bX N u j) ⟨j,u,hu,hj⟩;exact(hj'.rI ap hx hu' hu).one ap hj
 obtain⟨lv,hlv⟩:=hlv;have:=Qx k (N.map lv) (fun j h1 h2=>by obtain⟨x,hx,u,hu,hj⟩:=h.Vg ap j h1 h2;exact List.mem_map.2 ⟨x,hx,hlv x hx u hu j hj⟩);simpa using this
end
def hasB(N:List Nd):Nat->Nat->Bool
 |0,v=>N.all fun x=>!x.to.contains v|f+1,v=>N.all fun x=>!x.to.contains v||x.aF.all (hasB N f)
theorem KL{N:List Nd}(ap:dL N):∀(f v:Nat),hasB N f v=true↔∃k,k<=f/\bX N v k:=by
 intro f
 induction f with
 |zero=>
  intro v;constructor
  .intro h;refine⟨0,Nat.le_refl _,.free v fun x hx hv=>?_⟩;have:=List.all_eq_true.1 h x hx;simp at this;exact this hv
  .rintro⟨k,hk,hl⟩;obtain rfl:k=0:=by omega
   refine List.all_eq_true.2 fun x hx=>?_;simp;intro hv;obtain⟨g,_,h⟩:=hl.inv ap hx hv;omega
 |succ f ih=>
  intro v;constructor
  .intro h;by_cases hfree:∃x∈N,v∈x.to
   .obtain⟨x,hx,hv⟩:=hfree;have:=List.all_eq_true.1 h x hx;simp[hv]at this;have hg:∃g:Nat->Nat,∀u∈x.aF,g u<=f/\bX N u (g u):=by refine⟨fun u=>Classical.epsilon fun k=>k<=f/\bX N u k,fun u hu=>?_⟩;exact Classical.epsilon_spec ((ih u).1 (this u hu))
    obtain⟨g,hg⟩:=hg;refine⟨_,?_,.node x v g hx hv fun u hu=>(hg u hu).2⟩;have:mx (x.aF.map g)<=f:=JA fun y hy=>by obtain⟨u,hu,rfl⟩:=List.mem_map.1 hy;exact(hg u hu).1
    omega
   .exact⟨0,Nat.zero_le _,.free v fun x hx hv=>hfree ⟨x,hx,hv⟩⟩
  .rintro⟨k,hk,hl⟩;refine List.all_eq_true.2 fun x hx=>?_;by_cases hv:v∈x.to
   .simp[hv];intro u hu;obtain⟨k',h1,h2⟩:=hl.aF ap hx hv hu;exact(ih u).2 ⟨k',by omega,h2⟩
   .simp[hv]
def eP(N:List Nd)(V:Nat):Bool:=(List.range (V+1)).all (hasB N N.length)
theorem AL{N:List Nd}(ap:dL N)(V:Nat):eP N V=true↔∀v,v<=V->∃k,bX N v k:=by
 unfold eP;rw[List.all_eq_true];constructor
 .intro h v hv;obtain⟨k,_,hk⟩:=(KL ap _ v).1 (h v (List.mem_range.2 (by omega)));exact⟨k,hk⟩
 .intro h v hv;obtain⟨k,hk⟩:=h v (by have:=List.mem_range.1 hv;omega);exact(KL ap _ v).2 ⟨k,hk.le ap,hk⟩
/- round by round -/
def au(l:List Int)(v:Nat):Int:=l.getD v 0
theorem Lz(l:List Int)(i j:Nat)(x:Int):au (l.set i x) j=if i=j/\j<l.length then x else au l j:=by
 unfold au;rw[dP,List.getElem?_set,dP];by_cases h:i=j
 .subst h;by_cases h2:i<l.length
  .simp[h2]
  .simp[h2]
 .simp[h]
def bQ(l:List Int)(vs:List Nat)(x:Int):List Int:=vs.foldl (fun l v=>l.set v x) l
theorem ig(vs:List Nat)(x:Int):∀l,(bQ l vs x).length=l.length:=by induction vs with|nil=>intro l;rfl|cons v vs ih=>intro l;show(bQ (l.set v x) vs x).length=_;rw[ih,List.length_set]
theorem dy(vs:List Nat)(x:Int):∀(l:List Int) (j:Nat),au (bQ l vs x) j=if j∈vs/\j<l.length then x else au l j:=by
 induction vs with
 |nil=>intro l j;simp[bQ]|cons v vs ih=>
  intro l j;show au (bQ (l.set v x) vs x) j=_;rw[ih,List.length_set,Lz];by_cases h1:j∈vs<;>by_cases h2:j<l.length<;>by_cases h3:v=j<;>simp[h1,h2,h3]
  .intro h;omega
theorem sE(l:List Int)(vs:List Nat)(v:Nat)(x:Int):bQ l (vs++[v]) x=(bQ l vs x).set v x:=by simp[bQ,List.foldl_append]
def dE(out:List Int):List Nat->Int->Int
 |[],n=>n+1|u::us,n=>if au out u<0 then -1 else dE out us (max n (au out u))
theorem JZ{out:List Int}{f:Nat->Nat}:∀{us:List Nat}{n:Nat},(∀u∈us,au out u=(f u:Int))->dE out us n=(((us.map f).foldl max n:Nat):Int)+1:=by
 intro us
 induction us with
 |nil=>intro n _;rfl|cons u us ih=>
  intro n h;have hu:=h u (by simp);rw[dE,if_neg (by omega),hu];have:max (n:Int) (f u:Int)=((max n (f u):Nat):Int):=by omega
  rw[this,ih (fun u' h'=>h u' (by simp[h']))];rfl
theorem T0{out:List Int}{u:Nat}:∀{us:List Nat}{n:Int},u∈us->au out u<0->dE out us n = -1:=by
 intro us
 induction us with
 |nil=>intro n h;cases h
 |cons y us ih=>
  intro n h hu;by_cases hy:au out y<0
  .rw[dE,if_pos hy]
  .rw[dE,if_neg hy];rcases List.mem_cons.1 h with rfl|h
   .exact absurd hu hy
   .exact ih h hu
def fB(out:List Int)(x:Nd):List Int:=bQ out x.to (dE out x.aF 0)
theorem GC(out:List Int)(x:Nd):(fB out x).length=out.length:=ig _ _ _
def fv(N:List Nd)(out:List Int):List Int:=N.foldl fB out
def eO:List Nd->List Int->Nat
 |[],_=>0|x::N,out=>(if dE out x.aF 0<0 then 1 else 0)+eO N (fB out x)
def eV(N:List Nd):Nat->List Int->List Int
 |0,out=>out|r+1,out=>fv N (eV N r out)
structure Told(N:List Nd)(V r:Nat)(out:List Int):Prop where
 len:out.length=V+1
 is:∀v,v<=V->au out v = -1\/∃k:Nat,au out v=(k:Int)/\bX N v k
 up:∀v k,v<=V->k<=r->bX N v k->au out v=(k:Int)
section
variable{N:List Nd}{V r:Nat}
theorem Told.level{out:List Int}(ap:dL N)(ba:∀x∈N,∀u∈x.aF,u<=V)(t:Told N V r out){x:Nd}(hx:x∈N){v:Nat}(hv:v∈x.to) :
  dE out x.aF 0 = -1\/∃k:Nat,dE out x.aF 0=(k:Int)/\bX N v k:=by
 by_cases hu:∃u∈x.aF,au out u<0
 .obtain⟨u,h1,h2⟩:=hu;exact .inl (T0 h1 h2)
 .right;have hg:∀u∈x.aF,au out u=((au out u).toNat:Int)/\bX N u (au out u).toNat:=fun u h=>by
   rcases t.is u (ba x hx u h)with h1|⟨k,h1,h2⟩
   .exact absurd ⟨u,h,by omega⟩ hu
   .rw[h1];exact⟨by simp,by simpa using h2⟩
  refine⟨_,?_,.node x v (fun u=>(au out u).toNat) hx hv fun u h=>(hg u h).2⟩;rw[show(0:Int)=((0:Nat):Int)from rfl,JZ fun u h=>(hg u h).1];rfl
theorem Told.reach{out:List Int}(ap:dL N)(ba:∀x∈N,∀u∈x.aF,u<=V)(t:Told N V r out){x:Nd}(hx:x∈N){v k:Nat}(hv:v∈x.to)(hk:k<=r+1)(hl:bX N v k) :
  dE out x.aF 0=(k:Int):=by
 obtain⟨f,hf,rfl⟩:=hl.inv ap hx hv;have hs:∀u∈x.aF,au out u=(f u:Int):=fun u hu=>t.up u (f u) (ba x hx u hu) (by have:=Jj (List.mem_map_of_mem (f:=f) hu);omega) (hf u hu);rw[show(0:Int)=((0:Nat):Int)from rfl,JZ hs];simp[mx]
theorem Told.step{out:List Int}(ap:dL N)(ba:∀x∈N,∀u∈x.aF,u<=V)(t:Told N V r out){x:Nd}(hx:x∈N):Told N V r (fB out x):=by
 refine⟨by rw[GC,t.len],fun v hv=>?_,fun v k hv hk hl=>?_⟩
 .unfold fB;rw[dy];split
  .rename_i h;exact t.level ap ba hx h.1
  .exact t.is v hv
 .unfold fB;rw[dy];split
  .rename_i h;exact t.reach ap ba hx h.1 (by omega) hl
  .exact t.up v k hv hk hl
theorem Told.part{out:List Int}(ap:dL N)(ba:∀x∈N,∀u∈x.aF,u<=V):∀(M:List Nd) (D:Nat->Prop),(∀x∈M,x∈N)->∀{out:List Int},Told N V r out->(∀v k,v<=V->D v->k<=r+1->bX N v k->au out v=(k:Int)) ->
  Told N V r (M.foldl fB out)/\∀v k,v<=V->(D v\/∃x∈M,v∈x.to)->k<=r+1->bX N v k->au (M.foldl fB out) v=(k:Int):=by
 intro M
 induction M with
 |nil=>intro D _ out t hD;exact⟨t,fun v k hv hd hk hl=>by
   rcases hd with hd|⟨x,hx,_⟩
   .exact hD v k hv hd hk hl
   .cases hx⟩
 |cons x M ih=>
  intro D hM out t hD;have hx:x∈N:=hM x (by simp);obtain⟨h1,h2⟩:=ih (fun v=>D v\/v∈x.to) (fun y hy=>hM y (by simp[hy])) (t.step ap ba hx) (fun v k hv hd hk hl=>by
   unfold fB;rw[dy];split
   .rename_i h;exact t.reach ap ba hx h.1 hk hl
   .rename_i h;rcases hd with hd|hd
    .exact hD v k hv hd hk hl
    .exact absurd ⟨hd,by rw[t.len];omega⟩ h)
  refine⟨h1,fun v k hv hd hk hl=>h2 v k hv ?_ hk hl⟩;rcases hd with hd|⟨y,hy,hvy⟩
  .exact .inl (.inl hd)
  .rcases List.mem_cons.1 hy with rfl|hy
   .exact .inl (.inr hvy)
   .exact .inr ⟨y,hy,hvy⟩
theorem Told.round{out:List Int}(ap:dL N)(ba:∀x∈N,∀u∈x.aF,u<=V)(t:Told N V r out)(h0:∀v k,v<=V->(∀x∈N,v∉x.to)->bX N v k->au out v=(k:Int)):Told N V (r+1) (fv N out):=by
 obtain⟨h1,h2⟩:=Told.part (r:=r) (out:=out) ap ba N (fun v=>∀x∈N,v∉x.to) (fun _ h=>h) t (fun v k hv hd _ hl=>h0 v k hv hd hl);refine⟨h1.len,h1.is,fun v k hv hk hl=>h2 v k hv ?_ hk hl⟩;by_cases h:∃x∈N,v∈x.to
 .exact .inr h
 .exact .inl fun x hx hv=>h ⟨x,hx,hv⟩
theorem Told.free{out:List Int}(ap:dL N)(t:Told N V r out){v k:Nat}(hv:v<=V)(hf:∀x∈N,v∉x.to)(hl:bX N v k):au out v=(k:Int):=by have:=hl.one ap (.free v hf);subst this;exact t.up v 0 hv (Nat.zero_le _) hl
theorem Told.rounds{out:List Int}(ap:dL N)(ba:∀x∈N,∀u∈x.aF,u<=V)(t:Told N V 0 out):∀r,Told N V r (eV N r out)
 |0=>t|r+1=>(Told.rounds ap ba t r).round ap ba fun v k hv hf hl=>(Told.rounds ap ba t r).free ap hv hf hl
def fF(N:List Nd)(V:Nat):List Int:=bQ (List.replicate (V+1) 0) (N.flatMap (·.to)) (-1)
theorem VF(ap:dL N):Told N V 0 (fF N V):=by
 have hl:(List.replicate (V+1) (0:Int)).length=V+1:=by simp
 have hz:∀v,au (List.replicate (V+1) 0) v=0:=fun v=>by unfold au;rw[dP,List.getElem?_replicate];split<;>rfl
 refine⟨by unfold fF;rw[ig,hl],fun v hv=>?_,fun v k hv hk h=>?_⟩
 .unfold fF;rw[dy,hz];split
  .exact .inl rfl
  .rename_i h;exact .inr ⟨0,rfl,.free v fun x hx hvx=>h ⟨List.mem_flatMap.2 ⟨x,hx,hvx⟩,by omega⟩⟩
 .obtain rfl:k=0:=by omega
  unfold fF;rw[dy,hz,if_neg]
  .rfl
  .rintro⟨h1,_⟩;obtain⟨x,hx,hvx⟩:=List.mem_flatMap.1 h1;obtain⟨f,_,h2⟩:=h.inv ap hx hvx;omega
theorem mf{out:List Int}(ap:dL N)(ba:∀x∈N,∀u∈x.aF,u<=V):∀(M:List Nd),(∀x∈M,x∈N)->∀{out:List Int},Told N V r out->(eO M out=0->∀x∈M,∀v∈x.to,∃k,bX N v k)/\((∀x∈M,x.to≠[]/\∀v∈x.to,v<=V/\∃k,k<=r+1/\bX N v k)->eO M out=0):=by
 intro M
 induction M with
 |nil=>intro _ out _;exact⟨fun _ x hx=>(by cases hx),fun _=>rfl⟩
 |cons x M ih=>
  intro hM out t;have hx:x∈N:=hM x (by simp);obtain⟨i1,i2⟩:=ih (fun y hy=>hM y (by simp[hy])) (t.step ap ba hx);constructor
  .intro h y hy v hv;simp only[eO]at h;rcases List.mem_cons.1 hy with rfl|hy
   .rcases t.level ap ba hx hv with h1|⟨k,_,h2⟩
    .rw[if_pos (by omega)]at h;omega
    .exact⟨k,h2⟩
   .exact i1 (by omega) y hy v hv
  .intro h;obtain⟨h1,h2⟩:=h x (by simp);obtain⟨v,vs,hvs⟩:=List.exists_cons_of_ne_nil h1;obtain⟨_,k,hk,hl⟩:=h2 v (by simp[hvs]);have:=t.reach ap ba hx (v:=v) (by simp[hvs]) hk hl;simp only[eO];rw[if_neg (by omega),i2 fun y hy=>h y (by simp[hy])]
theorem Wl(ap:dL N)(ba:∀x∈N,∀u∈x.aF,u<=V)(dT:∀x∈N,x.to≠[]/\∀v∈x.to,v<=V):eO N (eV N N.length (fF N V))=0↔eP N V=true:=by
 obtain⟨h1,h2⟩:=mf (r:=N.length) (out:=fF N V) ap ba N (fun _ h=>h) ((VF ap).rounds ap ba N.length);rw[AL ap];constructor
 .intro h v hv;by_cases hf:∃x∈N,v∈x.to
  .obtain⟨x,hx,hvx⟩:=hf;exact h1 h x hx v hvx
  .exact⟨0,.free v fun x hx hvx=>hf ⟨x,hx,hvx⟩⟩
 .intro h;refine h2 fun x hx=>⟨(dT x hx).1,fun v hv=>⟨(dT x hx).2 v hv,?_⟩⟩;obtain⟨k,hk⟩:=h v ((dT x hx).2 v hv);exact⟨k,Nat.le_succ_of_le (hk.le ap),hk⟩
end
end Go.Proofs.YtdcnjfbffckblaaGreat.Pl
end
section
namespace Go.Proofs.YtdcnjfbffckblaaGreat
open Go.RowKit Pl
theorem TC{V:Nat}{L:List Int}(h:∀v:Nat,1<=v->v<=V->L.contains (v:Int)=true):¬(L.length:Int)<V:=by have:=Qx V (L.map Int.toNat) (fun j h1 h2=>List.mem_map.2 ⟨(j:Int),by simpa using h j h1 h2,by simp⟩);rw[aK]at this;omega
theorem Ua{V v:Nat}{L:List Int}(hf:jS V L)(h1:1<=v)(h2:v<=V)(h:L.contains (v:Int)=false):(L.length:Int)<V:=by
 rcases Nat.lt_or_ge L.length V with h3|h3
 .omega
 .have:=(SS V L hf.1 hf.2).2 h3 v h1 h2;rw[<-List.contains_iff_mem,h]at this;cases this
theorem S2{n:aG}(ft:Fit n):∀x∈bV n,bH x:=by
 intro x hx;unfold bV at hx;rcases List.mem_append.1 hx with hx|hx
 .rcases List.mem_append.1 hx with hx|hx
  .rcases List.mem_append.1 hx with hx|hx
   .exact ft.ins.2 x hx
   .obtain⟨l,hl,rfl⟩:=List.mem_map.1 hx;exact(ft.au.2 l hl).1
  .obtain⟨m,hm,hx⟩:=List.mem_flatMap.1 hx;obtain⟨r,hr,hx⟩:=List.mem_flatMap.1 hx;have hf:=ft.aa.2 m hm;have h1:=(hf.iP r hr).2;have h2:=hf.word.2;unfold cu at hx;obtain⟨i,hi,rfl⟩:=List.mem_map.1 hx;have:=List.mem_range.1 hi;unfold bH;omega
 .obtain⟨l,hl,rfl⟩:=List.mem_map.1 hx;exact(ft.aw.2 l hl).1
theorem Ll{w:World}{g V v:Nat}{pre:List Int}(h:aS w g 4 ((gN V pre).map Value.bool).toArray)(hv:v<=V):w.cell? ⟨g,v,none⟩=some (.bool (pre.contains (v:Int))):=by rw[h.cell v];exact JM hv
set_option maxRecDepth 100000
set_option maxHeartbeats 4000000
theorem Zxr(N:bf)(V:Nat)(w:World)(hV:N.vars=(V:Int))(hV2:V<=2000)(hok:N.bp w w.heap.size)(ft:Fit N.d)(hD:(bV N.d).length<=1000000) :
  Calls Tryz.prog 153 #[N.v] w fun e w'=>e=.returned (.int .i64 (dup V [] (bV N.d)))/\Below w.heap.size w w':=by
 obtain⟨hg,hB,hok2,hsz⟩:=BI N w hok;have HF:=Lib.hid ft;have HDL:=Lib.hid hD;clear ft hD hok;obtain⟨base,hbase⟩:∃base,base=w.heap.size:=⟨_,rfl⟩;rw[<-hbase]at hg hB hsz hok2;have HV:=Lib.hid hV;clear hV;have c0:=hg.dU;unfold bf.v
 go_enter Tryz.func153,Tryz.ntmps153
 unfold bf.fs;clear c0
 go_wp2_with fail
 change Calls _ _ #[N.v] (w.alloc (.cells N.fs 27)) _;rw[<-hbase];generalize w.alloc (.cells N.fs 27)=W1 at hg hB hok2 hsz |-;refine(Zxs N W1 (hok2.more (by omega)) HF.out HDL.out).mono ?_;rintro e w2 ⟨A,c,rfl,h1,h2,hown,hbl⟩;have HB:=Lib.hid (hB.trans (hbl.mono (by omega)));have hg2:=hg.below hbl (by omega);have hs2:=hbl.size;have hSl:=Sl.own hown;obtain⟨L,hL⟩:∃L,L=bV N.d:=⟨_,rfl⟩;rw[<-hL]at hSl HDL h1 |-;rw[pb]at hSl h1 |-;have hln:=HDL.out;have hI:∀x∈L,bH x:=by rw[hL];exact S2 HF.out
 have HI:=Lib.hid hI;have HS:=Lib.hid hSl;have HBA:=Lib.hid hbase;have HL:=Lib.hid hL;have hbg:base<w2.heap.size:=by omega
 have hc0:=hg2.dU.1;rw[HV.out]at hc0;have HG:=Lib.hid hg2;clear hown hbl hg hB hok2 hL hSl hg2 hbase hI HDL
 go_wp2_with (at_make;refine Zw0 _ rfl _ _ 28 rfl 4 (.bool false) 1 Tryz.underlying28 J6 rfl _ _ _ _ (V+1) rfl rfl (by omega) (by omega) (by omega) (by omega) ?_;intro w3 hbk hbl hz;have HZ:=Lib.hid hz;clear hz;have HBK:=Lib.hid hbk;have HBL:=Lib.hid hbl;clear hbk hbl)
 obtain⟨gs,hgs⟩:∃gs,gs=w2.heap.size:=⟨_,rfl⟩;have hb3:=HBK.out;have hB3:=HBL.out;have hS3:=HS.out.below hB3;rw[<-hgs]at hb3 hB3 hS3 hbg |-;have hN3:=(HG.out.below hB3 (by omega));rw[show(List.replicate (V+1) (Value.bool false)).toArray=((gN V (L.take 0)).map Value.bool).toArray from by rw[List.take_zero,JN];simp]at hb3;have HB3:=Lib.hid (HB.out.trans (hB3.mono (by omega)));have HS3:=Lib.hid hS3;have HN3:=Lib.hid hN3;have HGS:=Lib.hid hgs;clear HBK HBL HS HG HB hc0 hB3 hS3 hN3 HZ hsz hgs
 go_loopw [5] (fun i wr=>∃k:Nat,k<=L.length/\i=.int .i64 k/\jS V (L.take k)/\dup V [] L=dup V (L.take k) (L.drop k)/\aS wr gs 4 ((gN V (L.take k)).map Value.bool).toArray/\Below gs w3 wr) (fun i _=>L.length-(intOf i).toNat)
 case atStart=>exact⟨0,Nat.zero_le _,rfl,⟨by simp,by simp⟩,rfl,hb3,Below.refl _ _⟩
 case round=>
  clear hb3;obtain⟨k,hk,rfl,hfine,hdup,hbk,hbl⟩:=hrel;have HFI:=Lib.hid hfine;have HDU:=Lib.hid hdup;clear hfine hdup;have hc0:=(HN3.out.below hbl (by omega)).dU.1;rw[HV.out]at hc0;by_cases hlt:k<L.length
  .obtain⟨b,off,x,e1,hb,hx,hm,hcx⟩:=(HS3.out.below hbl).oF hlt;have hxi:=HI.out x hm;have hx1:=hxi.1;have hx2:=hxi.2;have HX:=Lib.hid hx;have HE:=Lib.hid e1;clear hx hm hxi;rw[e1];clear e1;by_cases hlo:x<1
   .go_wp2_with fail
    go_quiet (fail)
    go_wp2_with fail
    go_ret
    exact⟨jd (by rw[<-HL.out,HDU.out];exact(K7 HX.out (.inl hlo)).symm),by rw[<-HBA.out];exact below_drewN (HB3.out.trans (hbl.mono (by omega))) _⟩
   .by_cases hhi:(V:Int)<x
    .go_wp2_with fail
     go_quiet (fail)
     go_wp2_with fail
     go_ret
     exact⟨jd (by rw[<-HL.out,HDU.out];exact(K7 HX.out (.inr hhi)).symm),by rw[<-HBA.out];exact below_drewN (HB3.out.trans (hbl.mono (by omega))) _⟩
    .obtain⟨v,rfl⟩:=Int.eq_ofNat_of_zero_le (show 0<=x by omega);have hvV:v<=V:=by omega
     have hvV1:v<V+1:=by omega
     have hvV2:(v:Int)<(V:Int)+1:=by omega
     have hcs:=Ll hbk hvV;have hfz:=hbk.frozen v;rcases hsn:(L.take k).contains (v:Int)with _|_
     .rw[hsn]at hcs;have HSN:=Lib.hid hsn;clear hsn
      go_wp2_with fail
      go_quiet (fail)
      go_wp2_with fail
      go_roundw
      case rel=>
       refine⟨k+1,by omega,by go_num,?_,?_,?_,?_⟩
       .rw[cN HX.out];exact HFI.out.snoc (by omega) (by omega) HSN.out
       .rw[HDU.out];exact SY HX.out (by omega) (by omega) HSN.out
       .rw[cN HX.out,<-Qz hvV];exact(hbk.drewN _).nC v _
       .exact(below_drewN hbl _).setCell (p:=⟨gs,v,none⟩) (Nat.le_refl _) _
      case measure=>simp[intOf];omega
     .rw[hsn]at hcs;have HSN:=Lib.hid hsn;clear hsn
      go_wp2_with fail
      go_quiet (fail)
      go_wp2_with fail
      go_ret
      exact⟨jd (by rw[<-HL.out,HDU.out];exact(XF HX.out (by omega) (by omega) HSN.out).symm),by rw[<-HBA.out];exact below_drewN (HB3.out.trans (hbl.mono (by omega))) _⟩
  .have hdup2:=HDU.out;rw[TH (by omega)]at hdup2;have hfi:=HFI.out;rw[List.take_of_length_le (by omega)]at hfi hbk;have HDU2:=Lib.hid hdup2;have HFI2:=Lib.hid hfi;clear hdup2 hfi HFI HDU
   go_wp2_with fail
   clear hlt hk;have HBX:=Lib.hid hbk;have HBB:=Lib.hid (HB3.out.trans (hbl.mono (by omega)));clear hbk hbl
   go_loop [6] (fun i=>∃k:Nat,1<=k/\k<=V+1/\i=.int .i64 k/\(∀v:Nat,1<=v->v<k->L.contains (v:Int)=true)) (fun i=>V+1-(intOf i).toNat)
   case atStart=>exact⟨1,by omega,by omega,rfl,fun v h1 h2=>by omega⟩
   case round=>
    obtain⟨k,hk1,hk2,rfl,hall⟩:=hrel;have HALL:=Lib.hid hall;clear hall;by_cases hlt:k<=V
    .have hcs:=Ll HBX.out hlt;have hvV1:k<V+1:=by omega
     have hvV2:(k:Int)<(V:Int)+1:=by omega
     rcases hsn:L.contains (k:Int)with _|_
     .rw[hsn]at hcs;have HSN:=Lib.hid hsn;clear hsn
      go_wp2_with fail
      go_ret
      exact⟨jd (by rw[<-HL.out,HDU2.out,if_pos (Ua HFI2.out hk1 hlt HSN.out)]),by rw[<-HBA.out];exact HBB.out⟩
     .rw[hsn]at hcs;have HSN:=Lib.hid hsn;clear hsn
      go_wp2_with fail
      go_round
      case rel=>exact⟨k+1,by omega,by omega,by go_num,fun v h1 h2=>by
       by_cases e:v=k
       .subst e;exact HSN.out
       .exact HALL.out v h1 (by omega)⟩
      case measure=>simp[intOf];omega
    .go_wp2_with fail
     go_ret
     exact⟨jd (by rw[<-HL.out,HDU2.out,if_neg (TC fun v h1 h2=>HALL.out v h1 (by omega))]),by rw[<-HBA.out];exact HBB.out⟩
theorem VV(N:bf)(w:World)(hok:N.bp w w.heap.size)(ft:Fit N.d) :
  Calls Tryz.prog 81 #[N.v] w fun e w'=>e=.returned (.int .i64 (ed N.d))/\Below w.heap.size w w':=by
 obtain⟨z,hz⟩:∃z,z=ed N.d:=⟨_,rfl⟩;rw[<-hz];unfold ed at hz;have HZ:=Lib.hid hz;clear hz;have hmw:N.d.aa.any eu=N.aa.any (fun x=>eu x.d):=by show(N.aa.map aW.d).any eu=_;rw[List.any_map];rfl
 rw[hmw]at HZ;clear hmw;change Hid (z=if hG N.d=true then 10 else if(N.aa.any fun x=>eu x.d)=true then 9 else if N.af.any fO=true then 1 else if dup N.vars [] (bV N.d)≠0 then dup N.vars [] (bV N.d)else if(cW N.d).any (iD N.vars)=true then 5 else 0)at HZ;obtain⟨base,hbase⟩:∃base,base=w.heap.size:=⟨_,rfl⟩;have hb0:aS (w.alloc (.cells N.fs 27)) base 27 N.fs:=by rw[hbase];exact aS.new w _ _
 have hB:Below base w (w.alloc (.cells N.fs 27)):=by rw[hbase];exact(Below.refl _ _).alloc (Nat.le_refl _) _
 have hsz:base<(w.alloc (.cells N.fs 27)).heap.size:=by rw[hbase];simp
 rw[<-hbase]at hok;have HOK:=Lib.hid (hok.below hB);have HF:=Lib.hid ft;have HB:=Lib.hid hB;have HB0:=Lib.hid hb0;have HBA:=Lib.hid hbase;clear hok hB;unfold bf.v
 go_enter Tryz.func81,Tryz.ntmps81
 unfold bf.fs
 go_wp2_with fail
 rw[<-hbase];change Calls _ _ #[N.v] (w.alloc (.cells N.fs 27)) _;generalize w.alloc (.cells N.fs 27)=W1 at hb0 hsz HOK HB HB0 |-;clear hbase;refine(Zzh N W1 (HOK.out.more (by omega)) HF.out).mono ?_;rintro e w2 ⟨rfl,hbl⟩;rcases h1:hG N.d with _|_
 .have hs2:=hbl.size;obtain⟨hv0,hv2,hml,hmr⟩:=J3 h1;have HDL:=Lib.hid (QG HF.out hmr hml);have HLL:=Lib.hid (QF HF.out hmr hml);have hml2:N.aa.length<=6:=by simpa[bf.d]using hml
  have hmf:∀x∈N.aa,x.reads.length<=100/\x.writes.length<=100:=fun x hx=>by have h:=hmr x.d (List.mem_map_of_mem hx);simp only[aW.d,aK]at h;exact⟨by omega,by omega⟩
  have HMF:=Lib.hid hmf;change 0<=N.vars at hv0;change N.vars<=2000 at hv2;have hlat:N.af.length<=4000:=HF.out.au.1;have HZ1:=HZ.out;rw[if_neg (by rw[h1];simp)]at HZ1;have HZ2:=Lib.hid HZ1;clear HZ1 HZ h1 hml hmr hmf;have HOK2:=Lib.hid (HOK.out.below (hbl.mono (by omega)));have HB2:=Lib.hid (HB.out.trans (hbl.mono (by omega)));have HB02:=Lib.hid (HB0.out.below hbl (by omega));clear HOK HB HB0 hb0 hbl
  go_wp2_with fail
  go_loopw [3] (fun i wr=>∃k:Nat,k<=N.aa.length/\i=.int .i64 k/\(N.aa.take k).any (fun x=>eu x.d)=false/\Below w2.heap.size w2 wr) (fun i _=>N.aa.length-(intOf i).toNat)
  case atStart=>exact⟨0,Nat.zero_le _,rfl,rfl,Below.refl _ _⟩
  case round=>
   obtain⟨k,hk,rfl,hno,hbl⟩:=hrel;have HNO:=Lib.hid hno;clear hno;have hs3:=hbl.size;obtain⟨c0,c1,c2,c3,c4,c5,c6,c7⟩:=(HB02.out.below hbl (by omega)).dU;by_cases hlt:k<N.aa.length
   .obtain⟨b,off,x,e1,hb,hx,hm,hcs⟩:=((HOK2.out.more (B':=w2.heap.size) (by omega)).below hbl).mem.elem (by omega) (fun _=>rfl) hlt;obtain⟨hc0,hc1,hc2,hc3,hc4⟩:=aW.at_ hcs;have hx1:=(HMF.out x hm).1;have hx2:=(HMF.out x hm).2;have HXO:=Lib.hid ((((HOK2.out.mA x hm).more (B':=w2.heap.size) (by omega)).below hbl).more (B':=wr.heap.size) (by omega));have HX:=Lib.hid hx;have HMM:=Lib.hid hm;rw[e1]at c6;clear hcs hx hm e1
    go_wp2_with fail
    change Calls _ _ #[x.v] wr _;refine(Wn x wr HXO.out (by omega) (by omega)).mono ?_;rintro e w3 ⟨rfl,hbl2⟩;clear hc0 hc1 hc2 hc3 hc4 c0 c1 c2 c3 c4 c5 c6 c7;rcases hp:eu x.d with _|_
    .have HP:=Lib.hid hp;clear hp
     go_wp2_with fail
     go_roundw
     case rel=>exact⟨k+1,by omega,by go_num,i6 HX.out HNO.out HP.out,hbl.trans (hbl2.mono hs3)⟩
     case measure=>simp[intOf];omega
    .have HP:=Lib.hid hp;clear hp
     go_wp2_with fail
     go_ret
     exact⟨jd (by rw[HZ2.out,if_pos (List.any_eq_true.2 ⟨x,HMM.out,HP.out⟩)]),by rw[<-HBA.out];exact HB2.out.trans ((hbl.trans (hbl2.mono hs3)).mono (by omega))⟩
   .have hra:=i7 (show N.aa.length<=k by omega) HNO.out;have HZ1:=HZ2.out;rw[if_neg (by rw[hra];simp)]at HZ1;have HZ3:=Lib.hid HZ1;clear HZ1 HZ2 hra HNO
    go_wp2_with fail
    clear hlt hk;have HOK3:=Lib.hid (HOK2.out.below (hbl.mono (by omega)));have HB3:=Lib.hid (HB2.out.trans (hbl.mono (by omega)));have HB03:=Lib.hid (HB02.out.below hbl (by omega));clear HOK2 HB2 HB02 hbl
    go_loop [4] (fun i=>∃k:Nat,k<=N.af.length/\i=.int .i64 k/\(N.af.take k).any fO=false) (fun i=>N.af.length-(intOf i).toNat)
    case atStart=>exact⟨0,Nat.zero_le _,rfl,rfl⟩
    case round=>
     obtain⟨k,hk,rfl,hno⟩:=hrel;have HNO:=Lib.hid hno;clear hno;by_cases hlt:k<N.af.length
     .obtain⟨b,off,x,e1,hb,hx,hm,hcs⟩:=HOK3.out.au.elem (by omega) (fun _=>rfl) hlt;obtain⟨hc0,hc1,hc2⟩:=dI.at_ hcs;have HX:=Lib.hid hx;have HMM:=Lib.hid hm;rw[e1]at c2;clear hcs hx hm e1;rcases(show x.init<0\/(¬x.init<0/\2<x.init)\/(¬x.init<0/\¬2<x.init)from by omega)with p1|⟨p1,p2⟩|⟨p1,p2⟩
      iterate 2
       .have HP:=Lib.hid (show fO x=true by unfold fO;simp;omega)
        go_wp2_with fail
        go_ret
        exact⟨jd (by rw[HZ3.out,if_pos (List.any_eq_true.2 ⟨x,HMM.out,HP.out⟩)]),by rw[<-HBA.out];exact HB3.out⟩
      .have HP:=Lib.hid (show fO x=false by unfold fO;simp;omega)
       go_wp2_with fail
       go_round
       case rel=>exact⟨k+1,by omega,by go_num,i6 HX.out HNO.out HP.out⟩
       case measure=>simp[intOf];omega
     .have hra:=i7 (show N.af.length<=k by omega) HNO.out;have HZ1:=HZ3.out;rw[if_neg (by rw[hra];simp)]at HZ1;have HZ4:=Lib.hid HZ1;clear HZ1 HZ3 hra HNO;obtain⟨V,hV⟩:=Int.eq_ofNat_of_zero_le hv0;rw[hV]at HZ4;have HV:=Lib.hid hV;clear hV
      go_wp2_with fail
      change Calls _ _ #[N.v] wr _;refine(Zxr N V wr HV.out (by have:=HV.out;omega) (HOK3.out.more (by omega)) HF.out HDL.out).mono ?_;rintro e w5 ⟨rfl,hbl⟩;have hs5:=hbl.size;clear c0 c1 c2 c3 c4 c5 c6 c7;obtain⟨c0,c1,c2,c3,c4,c5,c6,c7⟩:=(HB03.out.below hbl (by omega)).dU;have HOK5:=Lib.hid (HOK3.out.below (hbl.mono (by omega)));have HB5:=Lib.hid (HB3.out.trans (hbl.mono (by omega)));have HB05:=Lib.hid (HB03.out.below hbl (by omega));clear HOK3 HB3 HB03 hbl;obtain⟨dd,hdd⟩:∃dd,dd=dup V [] (bV N.d):=⟨_,rfl⟩;rw[<-hdd]at HZ4 |-;clear hdd;by_cases hd0:dd=0
      .subst hd0;rw[if_neg (by simp)]at HZ4
       go_wp2_with fail
       change Calls _ _ #[N.v] w5 _;refine(Zwk N w5 (HOK5.out.more (by omega)) HF.out HLL.out).mono ?_;rintro e w6 ⟨A,c,rfl,h61,h62,hown,hbl⟩;have hs6:=hbl.size;obtain⟨L,hL⟩:∃L,L=cW N.d:=⟨_,rfl⟩;have hI:∀x∈L,bH x:=by rw[hL];exact KV HF.out
       have hln:L.length<=1000000:=by rw[hL];exact HLL.out
       rw[<-hL]at HZ4 hown;have eln:(ints (cW N.d)).length=L.length:=by rw[hL];simp[ints]
       rw[eln]at h61 |-;have eln2:(ints L).length=L.length:=by simp[ints]
       rw[eln2]at hown;have hSl:=Sl.own hown;have hc0:=(HB05.out.below hbl (by omega)).dU.1;have HB6:=Lib.hid (HB5.out.trans (hbl.mono (by omega)));rw[HV.out]at hc0;have hVb:(V:Int)<=2000:=by have:=HV.out;omega
       clear hL eln eln2 hown hbl HB05 HOK5 HB5 c0 c1 c2 c3 c4 c5 c6 c7;have HI:=Lib.hid hI;clear hI
       go_wp2_with fail
       go_loopw [7] (fun i wr=>∃k q:Nat,k<=L.length/\i=.int .i64 k/\(L.take k).any (iD V)=false/\wr=w6.drewN q) (fun i _=>L.length-(intOf i).toNat)
       case atStart=>exact⟨0,0,Nat.zero_le _,rfl,rfl,rfl⟩
       case round=>
        obtain⟨k,q,hk,rfl,hno,rfl⟩:=hrel;have HNO:=Lib.hid hno;clear hno;by_cases hlt:k<L.length
        .obtain⟨b,off,x,e1,hb,hx,hm,hcx⟩:=hSl.oF hlt;have hxi:=HI.out x hm;have hx1:=hxi.1;have hx2:=hxi.2;have HX:=Lib.hid hx;have HM:=Lib.hid hm;clear hx hm hxi;rw[e1];clear e1;by_cases hx0:x<0
         .go_wp2_with fail
          go_quiet (fail)
          go_wp2_with fail
          go_ret
          exact⟨jd (by rw[HZ4.out,if_pos (List.any_eq_true.2 ⟨x,HM.out,by unfold iD;simp;omega⟩)]),by rw[<-HBA.out];exact below_drewN (below_drewN HB6.out _) _⟩
         .by_cases hx3:2*(V:Int)+1<x
          .have ew1:IntKind.i64.wrap (2*(V:Int))=2*(V:Int):=IntWalk.i64_in _ (by omega);have ew2:IntKind.i64.wrap (2*(V:Int)+1)=2*(V:Int)+1:=IntWalk.i64_in _ (by omega)
           go_wp2_with fail
           go_quiet (fail)
           go_wp2_with fail
           clear ew1 ew2
           go_ret
           exact⟨jd (by rw[HZ4.out,if_pos (List.any_eq_true.2 ⟨x,HM.out,by unfold iD;simp;omega⟩)]),by rw[<-HBA.out];exact below_drewN (below_drewN HB6.out _) _⟩
          .have ew1:IntKind.i64.wrap (2*(V:Int))=2*(V:Int):=IntWalk.i64_in _ (by omega);have ew2:IntKind.i64.wrap (2*(V:Int)+1)=2*(V:Int)+1:=IntWalk.i64_in _ (by omega)
           go_wp2_with fail
           go_quiet (fail)
           go_wp2_with fail
           clear ew1 ew2
           go_roundw
           case rel=>exact⟨k+1,_,by omega,by go_num,i6 HX.out HNO.out (by unfold iD;simp;omega),rfl⟩
           case measure=>simp[intOf];omega
        .go_wp2_with fail
         go_ret
         exact⟨jd (by rw[HZ4.out,i7 (by omega) HNO.out];rfl),by rw[<-HBA.out];exact below_drewN HB6.out _⟩
      .have hd1:(dd != 0)=true:=by simpa using hd0
       go_wp2_with fail
       go_ret
       exact⟨jd (by rw[HZ4.out,if_pos hd0]),by rw[<-HBA.out];exact HB5.out⟩
 .go_wp2_with fail
  go_ret
  exact⟨jd (by rw[HZ.out,if_pos h1]),by rw[<-HBA.out];exact HB.out.trans (hbl.mono (by omega))⟩
