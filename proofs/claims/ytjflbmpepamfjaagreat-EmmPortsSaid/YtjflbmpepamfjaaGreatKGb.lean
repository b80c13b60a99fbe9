import Derived.Test.YtjflbmpepamfjaaGreatKGa
import Derived.Deep.RegionLaw
set_option linter.all false
section
namespace Go.Proofs.YtjflbmpepamfjaaGreat
open Go Go.RowKit
def iv(l:io):kw:=l.map (Value.int .i64)
theorem fX(l:io):(iv l).length=l.length:=by simp[iv]
theorem rF(l:io)(k:Nat)(h:k<l.length):(iv l)[k]?=some (.int .i64 (l.getD k 0)):=GY .i64 l k h
theorem ahu(l:io)(k:Nat)(x:Int):iv (l.set k x)=(iv l).set k (.int .i64 x):=by simp[iv,List.map_set]
theorem oO(l m:io):iv (l++m)=iv l++iv m:=by simp[iv]
theorem FH(l:io):∀u∈iv l,u.oneCell'=true:=by intro u hu;obtain⟨x,_,rfl⟩:=IN.1 hu;rfl
variable{ops:Array Oper}{Q:Exit->Act->World->Prop}{a:Act}{o:Oper}{P:Program}
theorem oM(W:World){rest:List Oper}(hgd:o.guard=none)(s x:Operand)(t:TypeId)
  (ho:o.op=.call { callee:=.builtin .append,args:=#[s,x],argTypes:=#[t,t] })
  (base:Nat) (e:TypeId) (z:Value) (bytes:Nat) (ht:P.underlying t=some (.slice e)) (hi:(P.info? e).map (fun i=>(i.zero,i.size,i.bytes))=some (some z,1,bytes)) (hz:z.cells.size=1) (hby:bytes<=1000)
  (v:Value) (n:Nat) (xs:kw) (hs:a.eval s=v) (hown:W.ownsRow base e 1 v n xs)
  (u:Value) (hu:u.oneCell'=true) (q:Nat) (hx:a.eval x=.slice (some ⟨q,0,none⟩) 1 1) (hq:q=W.heap.size) (hn:n<=1048576) (hbase:base<=W.heap.size)
  (h:∀v' w',w'.ownsRow base e 1 v' (n+1) (xs++[u])->W.grownBy w' v.ownBlock->(v'.ownBlock=v.ownBlock\/v'.ownBlock=some (W.heap.size+1))->wpList P ops Q rest (a.put o.dst v') w'):wpList P ops Q (o::rest) a (W.alloc (.cells #[u] e)):=by
 subst hq;obtain⟨i0,hi0,hz0,hz1,hz2⟩:=info_parts hi;have hr:Reads (W.alloc (.cells #[u] e)) (W.heap.size+1) 1 (some ⟨W.heap.size,0,none⟩) 1 [u]:=by have:=(af.new W e #[u]).reads (xs:=[u]);simpa using this
 have hbb:(n+1)*bytes<=1048577*1000:=Nat.mul_le_mul aGl hby;refine xN _ hgd s x t ho base e i0 z 1 bytes ht hi0 hz0 hz1 hz2 hz aGl v n xs hs (hown.alloc _) _ _ 1 1 [u] hx hr (by intro y hy;simp at hy;subst hy;exact hu) (by unfold maxLen;omega) aGl (by simp;omega) ?_;intro v' w' h2 h3 h4;have hg:W.grownBy w' v.ownBlock:=⟨h3.os,h3.tape,h3.output,rt aGn h3.size,fun i hi hne=>(h3.block i (by simp;omega) hne).trans (Below.heap_alloc W _ i hi)⟩;exact h v' w' h2 hg (by simpa using h4)
theorem zw(W:World){K:Act->World->Prop}{E:Prop}(hgd:o.guard=none)(s x:Operand)(t:TypeId)
  (ho:o.op=.call { callee:=.builtin .append,args:=#[s,x],argTypes:=#[t,t] })
  (base:Nat) (e:TypeId) (z:Value) (bytes:Nat) (ht:P.underlying t=some (.slice e)) (hi:(P.info? e).map (fun i=>(i.zero,i.size,i.bytes))=some (some z,1,bytes)) (hz:z.cells.size=1) (hby:bytes<=1000)
  (v:Value) (n:Nat) (xs:kw) (hs:a.eval s=v) (hown:W.ownsRow base e 1 v n xs)
  (u:Value) (hu:u.oneCell'=true) (q:Nat) (hx:a.eval x=.slice (some ⟨q,0,none⟩) 1 1) (hq:q=W.heap.size) (hn:n<=1048576) (hbase:base<=W.heap.size)
  (h:∀v' w',w'.ownsRow base e 1 v' (n+1) (xs++[u])->W.grownBy w' v.ownBlock->(v'.ownBlock=v.ownBlock\/v'.ownBlock=some (W.heap.size+1))->K (a.put o.dst v') w') :
  if Region.wanted o (yielded ops a.tmps)=true then Oper.wp P o a (W.alloc (.cells #[u] e)) K Q else E:=by
 subst hq;obtain⟨i0,hi0,hz0,hz1,hz2⟩:=info_parts hi;have hr:Reads (W.alloc (.cells #[u] e)) (W.heap.size+1) 1 (some ⟨W.heap.size,0,none⟩) 1 [u]:=by have:=(af.new W e #[u]).reads (xs:=[u]);simpa using this
 have hbb:(n+1)*bytes<=1048577*1000:=Nat.mul_le_mul aGl hby;refine Zwa _ hgd s x t ho base e i0 z 1 bytes ht hi0 hz0 hz1 hz2 hz aGl v n xs hs (hown.alloc _) _ _ 1 1 [u] hx hr (by intro y hy;simp at hy;subst hy;exact hu) (by unfold maxLen;omega) aGl (by simp;omega) ?_;intro v' w' h2 h3 h4;have hg:W.grownBy w' v.ownBlock:=⟨h3.os,h3.tape,h3.output,rt aGn h3.size,fun i hi hne=>(h3.block i (by simp;omega) hne).trans (Below.heap_alloc W _ i hi)⟩;exact h v' w' h2 hg (by simpa using h4)
def bK(V l:Int):Bool:=decide (l=0)||decide (V<0)||decide (V<l)||decide (l < -V)
def eW(V:Int)(c:io):Bool:=c.all fun l=>!(bK V l)
theorem afv{w:World}{g:Nat}(l V:Int)(hv:-1000000<=V/\V<=1000000)(hg:w.cell? ⟨g,0,none⟩=some (.int .i64 V)) :
  Calls Tryz.prog 116 #[.int .i64 l,.pointer (some ⟨g,0,none⟩)] w fun e w'=>e=.returned (.bool (bK V l))/\w=w':=by
 have hn:=IntWalk.i64_in (-V) ⟨aGl,aGl⟩
 go_enter Tryz.func116,Tryz.ntmps116
 go_wp2
 all_goals go_ret
 all_goals refine⟨lG ?_,rfl⟩
 all_goals unfold bK
 all_goals grind
set_option maxHeartbeats 800000
variable{u:Value}{c:io}{cap:Nat}{n:Nat}{B:Nat}{bad:Int->Bool}{A:lc}
theorem agk{w:World}(hcon:∀i,i<n->Calls Tryz.prog 116 #[.int .i64 (c.getD i 0),u] w fun e w'=>e=.returned (.bool (bad (c.getD i 0)))/\w=w')(hR:Reads w B 1 A n (iv c))(hn:n<=1000) :
  Calls Tryz.prog 143 #[.slice A n cap,.func (.func 116) #[] #[u]] w fun e w'=>∃k:Int,e=.returned (.int .i64 k)/\(decide (0<=k)=c.any bad)/\w=w':=by
 have hl:c.length=n:=by have:=hR.1;rw[fX]at this;omega
 go_enter Tryz.func143,Tryz.ntmps143
 go_wp2_with fail
 go_loopw [8] (fun x wr=>∃j:Nat,x=.int .i64 j/\j<=n/\(∀i,i<j->bad (c.getD i 0)=false)/\w=wr) (fun x _=>n-(intOf x).toNat)
 case atStart=>exact⟨0,rfl,aGl,fun i hi=>absurd hi aGl,rfl⟩
 case round=>
  obtain⟨j,rfl,hj,hall,rfl⟩:=hrel;by_cases hlt:j<n
  .obtain⟨b,off,rfl,_,hc⟩:=hR.oU hlt;have hcj:=hcon j hlt;obtain⟨x,hx⟩:∃x,x=c.getD j 0:=⟨_,rfl⟩;rw[<-hx]at hc hcj;have HX:=Lib.hid hx;have HA:=Lib.hid hall;have HL:=Lib.hid hl;clear hall hR hl hcon hx;rcases ho:bad x with _|_
   .rw[ho]at hcj;have HO:=Lib.hid ho;clear ho
    go_wp2_with fail
    refine hcj.mono ?_;rintro e w' ⟨rfl,rfl⟩
    go_wp2_with fail
    go_roundw
    case rel=>
     refine⟨j+1,by go_num,aGl,fun i hi=>?_,trivial⟩;rcases ww i j with h|h
     .exact HA.out i h
     .obtain rfl:i=j:=aGl
      rw[<-HX.out];exact HO.out
    case measure=>simp[intOf];omega
   .rw[ho]at hcj;have HO:=Lib.hid ho;clear ho
    go_wp2_with fail
    refine hcj.mono ?_;rintro e w' ⟨rfl,rfl⟩
    go_wp2_with fail
    go_ret
    refine⟨j,rfl,?_,rfl⟩;rw[show decide ((0:Int)<=(j:Int))=true by simp];refine(aEQ.2 ⟨x,?_,HO.out⟩).symm;rw[HX.out,fq,bF (by rw[HL.out];exact hlt)];exact EQ _
  .have HR:Hid (c.any bad=false):=by
    have:c.any bad=false:=aFn.2 fun x hx=>by obtain⟨i,hi,rfl⟩:=aFV hx;have:=hall i aGl;rw[fq,bF hi]at this;simpa using this
    exact this
   clear hall hR hl hcon
   go_wp2_with fail
   go_ret
   exact⟨-1,rfl,by rw[HR.out];rfl,rfl⟩
theorem aeo{w:World}(hcon:∀i,i<n->Calls Tryz.prog 116 #[.int .i64 (c.getD i 0),u] w fun e w'=>e=.returned (.bool (bad (c.getD i 0)))/\w=w')(hR:Reads w B 1 A n (iv c))(hn:n<=1000) :
  Calls Tryz.prog 105 #[.slice A n cap,.func (.func 116) #[] #[u]] w fun e w'=>e=.returned (.bool (c.any bad))/\w=w':=by
 have hf:=agk (cap:=cap) hcon hR hn;clear hR hcon
 go_enter Tryz.func105,Tryz.ntmps105
 go_wp2_with fail
 refine hf.mono ?_;rintro e w' ⟨k,rfl,hk,rfl⟩;have HK:=Lib.hid hk;clear hk
 go_wp2_with fail
 go_ret
 exact⟨lG HK.out,rfl⟩
theorem aeu(V:Int)(c:io):c.any (bK V) = !(eW V c):=by
 unfold eW
 induction c with|nil=>rfl|cons x l ih=>rw[List.any_cons,List.all_cons,ih];cases bK V x<;>simp
theorem agG{w:World}(V:Int)(hv:-1000000<=V/\V<=1000000)(hR:Reads w B 1 A n (iv c))(hB:B<=w.heap.size)(hn:n<=1000) :
  Calls Tryz.prog 89 #[.slice A n cap,.int .i64 V] w fun e w'=>e=.returned (.bool (eW V c))/\Below w.heap.size w w':=by
 have hR2:=hR.alloc hB (.cells #[.int .i64 V] 3);have hb:=(af.new w 3 #[.int .i64 V]).cell 0;have hf:=aeo (cap:=cap) (bad:=bK V) (fun i _=>afv (c.getD i 0) V hv hb) hR2 hn;rw[aeu]at hf;have hw:=(Below.refl _ w).alloc (pi _) (.cells #[.int .i64 V] 3);clear hR hR2 hb
 go_enter Tryz.func89,Tryz.ntmps89
 go_wp2_with fail
 refine hf.mono ?_;rintro e w' ⟨rfl,rfl⟩
 go_wp2_with fail
 go_ret
 exact⟨lG aGn,hw⟩
theorem P8(w:World)(A:lc)(n c B:Nat)(xs:io)(hR:Reads w B 1 A n (iv xs))(hB:B<=w.heap.size)(hn:n<=1048576) :
  Calls Tryz.prog 64 #[.slice A n c] w fun e w'=>∃v',e=.returned v'/\Below w.heap.size w w'/\w'.ownsRow w.heap.size 3 1 v' n (iv xs):=by
 rcases A with _|ad
 .have hn0:n=0:=by
   rcases If n with h|h
   .exact h
   .obtain⟨_,h,_⟩:=hR.2 h;cases h
  subst hn0;have hx:xs=[]:=ut (by have:=hR.1;simpa[iv]using this);subst hx;have hs:=fun W=>Lib.run_eql_slice_nil (P:=Tryz.prog) W 22 3 none 0 c 0 0 Tryz.underlying22
  go_enter Tryz.func64,Tryz.ntmps64
  go_wp2
  go_ret
  exact⟨_,rfl,Below.refl _ _,World.ownsRow_nil _ _ _ _⟩
 .have hs:=fun W=>Lib.run_eql_slice_nil (P:=Tryz.prog) W 22 3 (some ad) n c 0 0 Tryz.underlying22;obtain⟨i0,hi0,hz0,hz1,hz2⟩:=info_parts ka;have hown:=World.ownsRow_made (base:=w.heap.size) (e:=3) (size:=1) w #[] 0 (pi _) (by simp[maxLen]) rfl;have hR2:=hR.alloc hB (.cells #[] 3);have H1:=Lib.hid hi0;have H2:=Lib.hid hz0;have H3:=Lib.hid hz1;have H4:=Lib.hid hz2;clear hi0 hz0 hz1 hz2
  go_enter Tryz.func64,Tryz.ntmps64
  go_wp2_with (at_builtin;refine xN _ rfl _ _ 22 rfl w.heap.size 3 i0 (.int .i64 0) 1 8 Tryz.underlying22 H1.out H2.out H3.out H4.out rfl aGo _ 0 [] rfl hown B (some ad) n c (iv xs) rfl hR2 (FH xs) (by unfold maxLen;omega) aGl aGn ?_;intro v1 w1 hown1 hg1 hat1)
  go_ret
  rw[aFm,Nm]at hown1;refine⟨_,rfl,((Below.refl _ w).alloc (pi _) (.cells #[] 3)).grown hg1 aGn ?_,hown1⟩;intro k hk;injection hk with hk;exact Nat.le_of_eq hk
structure FCl(w:World)(V:Nat)(D:Nat->Prop)(p:Value×io):Prop where
 own:w.ownsRow 0 3 1 p.1 p.2.length (iv p.2)
 cJ:∀b,p.1.ownBlock=some b->D b
 right:eW (V:Int) p.2=true
 ve:p.2.length<=1000
structure FD(w:World)(f V:Nat)(cs:List (Value×io))(D:Nat->Prop)(rv:Value):Prop where
 bx:af w f 167 #[.int .i64 V,rv]
 row:w.ownsRow 0 22 1 rv cs.length (cs.map (·.1))
 hV:V<=65536
 hf:D f
 dr:∀b,rv.ownBlock=some b->D b
 cl:∀p∈cs,FCl w V D p
 ve:cs.length<=1000000
variable{w':World}
theorem FD.an{w:World}{f V:Nat}{cs:List (Value×io)}{D D':Nat->Prop}{rv:Value}(h:FD w f V cs D rv)(hf:ak D' w w')(hd:∀b,D b->¬D' b):FD w' f V cs D rv:=⟨hf.cC h.bx (hd _ h.hf),hf.own h.row (fun b hb=>hd b (h.dr b hb)),h.hV,h.hf,h.dr,fun p hp=>⟨hf.own (h.cl p hp).own (fun b hb=>hd b ((h.cl p hp).cJ b hb)),(h.cl p hp).cJ,(h.cl p hp).right,(h.cl p hp).ve⟩,h.ve⟩
theorem FD.below{w:World}{f V:Nat}{cs:List (Value×io)}{D:Nat->Prop}{rv:Value}(h:FD w f V cs D rv)(hb:Below w.heap.size w w'):FD w' f V cs D rv:=h.an (D':=fun _=>False) (.cR hb) (fun _ _ h=>h)
theorem FD.drew{w:World}{f V:Nat}{cs:List (Value×io)}{D:Nat->Prop}{rv:Value}(h:FD w f V cs D rv):FD w.drew f V cs D rv:=h.an (D':=fun _=>False) (ak.refl _ _).drew (fun _ _ h=>h)
theorem aek{V V':Nat}(h:V<=V')(hc:eW (V:Int) c=true):eW (V':Int) c=true:=by unfold eW at hc |-;rw[aEY]at hc |-;intro x hx;have:=hc x hx;simp[bK]at this |-;omega
theorem ag5(w:World)(V:Nat)(hV:V<=65536):Calls Tryz.prog 70 #[.int .i64 V] w fun e w'=>e=.returned (.pointer (some ⟨w.heap.size,0,none⟩))/\FD w' w.heap.size V [] (fun b=>w.heap.size<=b) (.slice none 0 0)/\Below w.heap.size w w':=by
 go_enter Tryz.func70,Tryz.ntmps70
 go_wp2_with fail
 go_ret
 exact⟨rfl,⟨af.new _ _ _,World.ownsRow_nil _ _ _ _,hV,pi _,(fun b hb=>by cases hb),(fun p hp=>by cases hp),aGn⟩,(Below.refl _ w).alloc (pi _) _⟩
section
variable{w:World}{f V:Nat}{cs:List (Value×io)}{D:Nat->Prop}{rv:Value}
theorem P9(h:FD w f V cs D rv):Calls Tryz.prog 46 #[.pointer (some ⟨f,0,none⟩)] w fun e w'=>e=.returned (.int .i64 V)/\w=w':=by
 have c0:=h.bx.cell 0;clear h
 go_enter Tryz.func46,Tryz.ntmps46
 go_wp2_with fail
 go_ret
 exact⟨rfl,rfl⟩
theorem FD.Zx(h:FD w f V cs D rv)(hn:V<=n)(hn2:n<=65536):FD (w.setCell ⟨f,0,none⟩ (.int .i64 n)) f n cs D rv:=⟨h.bx.dL 0 _,jR h.row (dZ h.row h.bx aGo),hn2,h.hf,h.dr,(fun p hp=>⟨jR (h.cl p hp).own (dZ (h.cl p hp).own h.bx aGo),(h.cl p hp).cJ,aek hn (h.cl p hp).right,(h.cl p hp).ve⟩),h.ve⟩
theorem afT(n:Nat)(h:FD w f V cs D rv)(hn:n<=65536):Calls Tryz.prog 72 #[.pointer (some ⟨f,0,none⟩),.int .i64 n] w fun e w'=>e=.returned (.int .i64 0)/\FD w' f (max V n) cs D rv/\ak D w w':=by
 have c0:=h.bx.cell 0;have f0:=h.bx.frozen 0;have HH:=Lib.hid h;clear h;by_cases hlt:V<n
 all_goals (
  go_enter Tryz.func72,Tryz.ntmps72
  go_wp2_with fail
  go_ret)
 .rw[show max V n=n by omega];exact⟨rfl,HH.out.Zx aGl hn,(ak.refl _ _).setCell HH.out.hf⟩
 .rw[show max V n=V by omega];exact⟨rfl,HH.out.Zx (pi _) HH.out.hV,(ak.refl _ _).setCell HH.out.hf⟩
end
theorem ak.trans{D:Nat->Prop}{a b c:World}(h:ak D a b)(k:ak D b c):ak D a c:=⟨k.os.trans h.os,k.tape.trans h.tape,k.output.trans h.output,rt h.size k.size,fun i hi hn=>(k.block i (ro hi h.size) hn).trans (h.block i hi hn)⟩
theorem Qd{w:World}{b1 b2 s1 s2 n1 n2:Nat}{e1 e2:TypeId}{v1 v2:Value}{xs1 xs2:kw}(h1:w.ownsRow b1 e1 s1 v1 n1 xs1)(h2:w.ownsRow b2 e2 s2 v2 n2 xs2)(hne:e1≠e2):∀b,v1.ownBlock=some b->¬v2.ownBlock=some b:=by
 intro b hb hb2;rcases h2.2 with hn|⟨g,cap,cur,rfl,_,hg,_⟩
 .rw[hn.1]at hb2;cases hb2
 .injection hb2 with hb2;subst hb2;exact dZ h1 (show af w g e2 cur from hg) hne hb
variable{v:Value}
theorem FD.added{w w3:World}{f V:Nat}{cs:List (Value×io)}{D:Nat->Prop}{rv rv':Value}(h:FD w f V cs D rv)(hD:∀b,D b->b<B)
  (ho:w.ownsRow B 3 1 v c.length (iv c)) (hr:eW (V:Int) c=true) (hn:c.length<=1000) (hcs:cs.length<1000000)
  (ho3:w3.ownsRow 0 22 1 rv' (cs.length+1) (cs.map (·.1)++[v])) (hg:w.grownBy w3 rv.ownBlock) (hat:∀b,rv'.ownBlock=some b->D b\/B<=b) :
  FD (w3.setCell ⟨f,1,none⟩ rv') f V (cs++[(v,c)]) (fun b=>D b\/(B<=b/\b<w3.heap.size)) rv':=by
 have hF:ak (fun b=>rv.ownBlock=some b) w w3:=(ak.refl _ w).grown hg fun b hb=>hb;have hbx:af w3 f 167 #[.int .i64 V,rv]:=hF.cC h.bx (dZ h.row h.bx aGo);refine⟨hbx.dL 1 _,by simpa using jR ho3 (dZ ho3 hbx aGo),h.hV,.inl h.hf,fun b hb=>(hat b hb).imp id fun hx=>⟨hx,(ho3.lt b hb).2⟩,fun p hp=>?_,by simp;omega⟩;have key:∀q:Value×io,w.ownsRow 0 3 1 q.1 q.2.length (iv q.2)->(w3.setCell ⟨f,1,none⟩ rv').ownsRow 0 3 1 q.1 q.2.length (iv q.2):=fun q hq=>by have:=hF.own hq (Qd hq h.row aGo);exact jR this (dZ this hbx aGo)
 rcases At.1 hp with hp|hp
 .exact⟨key p (h.cl p hp).own,fun b hb=>.inl ((h.cl p hp).cJ b hb),(h.cl p hp).right,(h.cl p hp).ve⟩
 .obtain rfl:=OF.1 hp;refine⟨key (v,c) ⟨ho.1,?_⟩,fun b hb=>.inr ⟨(ho.lt b hb).1,ro (ho.lt b hb).2 hg.size⟩,hr,hn⟩;rcases ho.2 with hx|⟨g,cap,cur,e,hb,r⟩
  .exact .inl hx
  .exact .inr ⟨g,cap,cur,e,AI _,r⟩
theorem aer:(Tryz.prog.info? 22).map (fun i=>(i.zero,i.size,i.bytes))=some (some (.slice none 0 0),1,24):=aGm
set_option maxHeartbeats 1000000
theorem FB{w:World}{f V B0:Nat}{cs:List (Value×io)}{D:Nat->Prop}{rv:Value}(h:FD w f V cs D rv)(hcs:cs.length<1000000)(hD:∀b,D b->b<w.heap.size)(hR:Reads w B0 1 A n (iv c))(hB0:B0<=w.heap.size)(hn:n<=1000)(hr:eW (V:Int) c=true) :
  Calls Tryz.prog 71 #[.pointer (some ⟨f,0,none⟩),.slice A n cap] w fun e w'=>e=.returned (.int .i64 0)/\(∃v D' rv',FD w' f V (cs++[(v,c)]) D' rv'/\(∀b,D' b->D b\/w.heap.size<=b)/\∀b,D' b->b<w'.heap.size)/\ak D w w':=by
 have h1:=agG (cap:=cap) (V:Int) ⟨aGl,by have:=h.hV;omega⟩ hR hB0 hn;have hr':=hr;rw[hr]at h1;have c0:=h.bx.cell 0;have HH:=Lib.hid h;have HR:=Lib.hid hR;clear h hR hr
 go_enter Tryz.func71,Tryz.ntmps71
 go_wp2_with fail
 refine h1.mono ?_;rintro e w1 ⟨rfl,hb1⟩;have hh1:=HH.out.below hb1;have hR1:=HR.out.below (hb1.mono hB0);have e1:=hh1.bx.cell 1;have hcl:=P8 w1.drew A n cap B0 c hR1.drew (by have:=hb1.size;show B0<=w1.heap.size;omega) aGl;have HH1:=Lib.hid hh1;have HCL:=Lib.hid hcl;have HB1:=Lib.hid hb1;clear hh1 hR1 hcl hb1 c0 h1
 go_wp2_with fail
 have hnc:c.length=n:=by have:=HR.out.1;rw[fX]at this;omega
 have hrow1:=HH1.out.row;obtain⟨A0,c0',rfl,_,_,_⟩:=eo hrow1;have HROW:=Lib.hid hrow1;clear hrow1
 go_region_law (first
  |(go_simp;go_at_call 64;refine HCL.out.mono ?_;rintro e w2 ⟨v2,rfl,hb2,ho2⟩;obtain⟨A2,cp2,rfl,_,_,_⟩:=eo ho2;have hx2:=HH1.out.drew.below hb2;have g1:=hx2.bx.cell 1;have g1b:=(hx2.bx.alloc (Obj.cells #[Value.slice A2 n cp2] 22)).cell 1;have HX2:=Lib.hid hx2;have HB2:=Lib.hid hb2;have HO2:=Lib.hid ho2;clear hx2 hb2 ho2)
  |(refine zw w2 rfl _ _ 99 rfl 0 22 (.slice none 0 0) 24 Tryz.underlying99 aer rfl aGl (.slice A0 cs.length c0') cs.length (cs.map (·.1)) rfl HX2.out.row (.slice A2 n cp2) rfl _ rfl rfl aGl (AI _) ?_;intro v3 w3 hown3 hg3 hat3;have hx3:=((ak.refl _ w2).grown hg3 (D:=fun b=>(Value.slice A0 cs.length c0').ownBlock=some b) fun b hb=>hb).cC HX2.out.bx (dZ HX2.out.row HX2.out.bx aGo);have d1:=hx3.cell 1;have f1:=hx3.frozen 1;obtain⟨A3,cp3,rfl,_,_,_⟩:=eo hown3;have HX3:=Lib.hid hx3;have HG3:=Lib.hid hg3;have HO3:=Lib.hid hown3;have HAT:=Lib.hid hat3;clear hx3 hg3 hown3 hat3))
 all_goals (
  go_wp2_with fail
  go_ret
  have hs1:=HB1.out.size;have hs2:w1.heap.size<=w2.heap.size:=HB2.out.size;subst hnc;have hat:∀b,(Value.slice A3 (cs.length+1) cp3).ownBlock=some b->D b\/w1.heap.size<=b:=by
   intro b hb;rcases HAT.out with e|e
   .exact .inl (HX2.out.dr b (by rw[<-e];exact hb))
   .rw[hb]at e;injection e with e;right;omega
  exact⟨rfl,⟨_,_,_,FD.added (B:=w1.heap.size) HX2.out (fun b hb=>by have:=hD b hb;omega) HO2.out hr' hn hcs HO3.out HG3.out hat,fun b hb=>hb.imp id fun h=>aGl,fun b hb=>hb.elim (fun hx=>by have:=hD b hx;have:=HG3.out.size;simp[World.setCell];omega) fun hx=>by simpa[World.setCell]using hx.2⟩,
   ((ak.cR HB1.out).drew.trans ((ak.cR HB2.out).trans ((ak.refl _ w2).grown HG3.out fun b hb=>HX2.out.dr b hb))).setCell HH1.out.hf⟩)
theorem P3{w:World}{B':Nat}{e:TypeId}{xs:kw}(h:w.ownsRow B e 1 v n xs)(hB:B'<=B):w.ownsRow B' e 1 v n xs:=by
 refine⟨h.1,?_⟩;rcases h.2 with hx|⟨g,cap,cur,e,hb,r⟩
 .exact .inl hx
 .exact .inr ⟨g,cap,cur,e,rt hB hb,r⟩
