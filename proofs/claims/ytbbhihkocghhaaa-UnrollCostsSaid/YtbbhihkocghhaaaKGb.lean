import Derived.Test.YtbbhihkocghhaaaKGa
import Derived.Deep.RegionLaw
set_option linter.all false
section
namespace Go.Proofs.Ytbbhihkocghhaaa
open Go Go.RowKit
def iv(l:io):kw:=l.map (Value.int .i64)
theorem vg(l:io):(iv l).length=l.length:=by simp[iv]
theorem U3(l:io):∀u∈iv l,u.oneCell'=true:=by intro u hu;obtain⟨x,_,rfl⟩:=IN.1 hu;rfl
variable{Q:Exit->Act->World->Prop}{P:Program}{ops:Array Oper}{o:Oper}{a:Act}
theorem R9(W:World){rest:List Oper}(hgd:o.guard=none)(s x:Operand)(t:TypeId)
  (ho:o.op=.call { callee:=.builtin .append,args:=#[s,x],argTypes:=#[t,t] })
  (base:Nat) (e:TypeId) (z:Value) (bytes:Nat) (ht:P.underlying t=some (.slice e)) (hi:(P.info? e).map (fun i=>(i.zero,i.size,i.bytes))=some (some z,1,bytes)) (hz:z.cells.size=1) (hby:bytes<=1000)
  (v:Value) (n:Nat) (xs:kw) (hs:a.eval s=v) (hown:W.ownsRow base e 1 v n xs)
  (u:Value) (hu:u.oneCell'=true) (q:Nat) (hx:a.eval x=.slice (some ⟨q,0,none⟩) 1 1) (hq:q=W.heap.size) (hn:n<=1048576) (hbase:base<=W.heap.size)
  (h:∀v' w',w'.ownsRow base e 1 v' (n+1) (xs++[u])->W.grownBy w' v.ownBlock->(v'.ownBlock=v.ownBlock\/v'.ownBlock=some (W.heap.size+1))->wpList P ops Q rest (a.put o.dst v') w'):wpList P ops Q (o::rest) a (W.alloc (.cells #[u] e)):=by
 subst hq;obtain⟨i0,hi0,hz0,hz1,hz2⟩:=info_parts hi;have hr:Reads (W.alloc (.cells #[u] e)) (W.heap.size+1) 1 (some ⟨W.heap.size,0,none⟩) 1 [u]:=by have:=(av.new W e #[u]).reads (xs:=[u]);simpa using this
 have hbb:(n+1)*bytes<=1048577*1000:=abZ acs hby;refine yO _ hgd s x t ho base e i0 z 1 bytes ht hi0 hz0 hz1 hz2 hz acs v n xs hs (hown.alloc _) _ _ 1 1 [u] hx hr (by intro y hy;simp at hy;subst hy;exact hu) (by unfold maxLen;omega) acs (by simp;omega) ?_;intro v' w' h2 h3 h4;have hg:W.grownBy w' v.ownBlock:=⟨h3.os,h3.tape,h3.output,pp acv h3.size,fun i hi hne=>(h3.block i (by simp;omega) hne).trans (Below.heap_alloc W _ i hi)⟩;exact h v' w' h2 hg (by simpa using h4)
theorem Sc(W:World){K:Act->World->Prop}{E:Prop}(hgd:o.guard=none)(s x:Operand)(t:TypeId)
  (ho:o.op=.call { callee:=.builtin .append,args:=#[s,x],argTypes:=#[t,t] })
  (base:Nat) (e:TypeId) (z:Value) (bytes:Nat) (ht:P.underlying t=some (.slice e)) (hi:(P.info? e).map (fun i=>(i.zero,i.size,i.bytes))=some (some z,1,bytes)) (hz:z.cells.size=1) (hby:bytes<=1000)
  (v:Value) (n:Nat) (xs:kw) (hs:a.eval s=v) (hown:W.ownsRow base e 1 v n xs)
  (u:Value) (hu:u.oneCell'=true) (q:Nat) (hx:a.eval x=.slice (some ⟨q,0,none⟩) 1 1) (hq:q=W.heap.size) (hn:n<=1048576) (hbase:base<=W.heap.size)
  (h:∀v' w',w'.ownsRow base e 1 v' (n+1) (xs++[u])->W.grownBy w' v.ownBlock->(v'.ownBlock=v.ownBlock\/v'.ownBlock=some (W.heap.size+1))->K (a.put o.dst v') w') :
  if Region.wanted o (yielded ops a.tmps)=true then Oper.wp P o a (W.alloc (.cells #[u] e)) K Q else E:=by
 subst hq;obtain⟨i0,hi0,hz0,hz1,hz2⟩:=info_parts hi;have hr:Reads (W.alloc (.cells #[u] e)) (W.heap.size+1) 1 (some ⟨W.heap.size,0,none⟩) 1 [u]:=by have:=(av.new W e #[u]).reads (xs:=[u]);simpa using this
 have hbb:(n+1)*bytes<=1048577*1000:=abZ acs hby;refine Zwa _ hgd s x t ho base e i0 z 1 bytes ht hi0 hz0 hz1 hz2 hz acs v n xs hs (hown.alloc _) _ _ 1 1 [u] hx hr (by intro y hy;simp at hy;subst hy;exact hu) (by unfold maxLen;omega) acs (by simp;omega) ?_;intro v' w' h2 h3 h4;have hg:W.grownBy w' v.ownBlock:=⟨h3.os,h3.tape,h3.output,pp acv h3.size,fun i hi hne=>(h3.block i (by simp;omega) hne).trans (Below.heap_alloc W _ i hi)⟩;exact h v' w' h2 hg (by simpa using h4)
def fu(V l:Int):Bool:=decide (l=0)||decide (V<0)||decide (V<l)||decide (l < -V)
def iJ(V:Int)(c:io):Bool:=c.all fun l=>!(fu V l)
theorem Tq{w:World}{g:Nat}(l V:Int)(hv:-1000000<=V/\V<=1000000)(hg:w.cell? ⟨g,0,none⟩=some (.int .i64 V)) :
  Calls Try.prog 70 #[.int .i64 l,.pointer (some ⟨g,0,none⟩)] w fun e w'=>e=.returned (.bool (fu V l))/\w=w':=by
 have hn:=IntWalk.i64_in (-V) ⟨acs,acs⟩
 go_enter Try.func70,Try.ntmps70
 go_wp2
 all_goals go_ret
 all_goals refine⟨lK ?_,rfl⟩
 all_goals unfold fu
 all_goals grind
set_option maxHeartbeats 800000
variable{A:lc}{u:Value}{cap:Nat}{n:Nat}{c:io}{B:Nat}{bad:Int->Bool}
theorem Ua{w:World}(hcon:∀i,i<n->Calls Try.prog 70 #[.int .i64 (c.getD i 0),u] w fun e w'=>e=.returned (.bool (bad (c.getD i 0)))/\w=w')(hR:Reads w B 1 A n (iv c))(hn:n<=1000) :
  Calls Try.prog 84 #[.slice A n cap,.func (.func 70) #[] #[u]] w fun e w'=>∃k:Int,e=.returned (.int .i64 k)/\(decide (0<=k)=c.any bad)/\w=w':=by
 have hl:c.length=n:=by have:=hR.1;rw[vg]at this;omega
 go_enter Try.func84,Try.ntmps84
 go_wp2_with fail
 go_loopw [8] (fun x wr=>∃j:Nat,x=.int .i64 j/\j<=n/\(∀i,i<j->bad (c.getD i 0)=false)/\w=wr) (fun x _=>n-(intOf x).toNat)
 case atStart=>exact⟨0,rfl,acs,fun i hi=>absurd hi acs,rfl⟩
 case round=>
  obtain⟨j,rfl,hj,hall,rfl⟩:=hrel;by_cases hlt:j<n
  .obtain⟨b,off,rfl,_,hc⟩:=hR.pE hlt;have hcj:=hcon j hlt;obtain⟨x,hx⟩:∃x,x=c.getD j 0:=⟨_,rfl⟩;rw[<-hx]at hc hcj;have HX:=Lib.hid hx;have HA:=Lib.hid hall;have HL:=Lib.hid hl;clear hall hR hl hcon hx;rcases ho:bad x with _|_
   .rw[ho]at hcj;have HO:=Lib.hid ho;clear ho
    go_wp2_with fail
    refine hcj.mono ?_;rintro e w' ⟨rfl,rfl⟩
    go_wp2_with fail
    go_roundw
    case rel=>
     refine⟨j+1,by go_num,acs,fun i hi=>?_,trivial⟩;rcases rt i j with h|h
     .exact HA.out i h
     .obtain rfl:i=j:=acs
      rw[<-HX.out];exact HO.out
    case measure=>simp[intOf];omega
   .rw[ho]at hcj;have HO:=Lib.hid ho;clear ho
    go_wp2_with fail
    refine hcj.mono ?_;rintro e w' ⟨rfl,rfl⟩
    go_wp2_with fail
    go_ret
    refine⟨j,rfl,?_,rfl⟩;rw[show decide ((0:Int)<=(j:Int))=true by simp];refine(abf.2 ⟨x,?_,HO.out⟩).symm;rw[HX.out,gC,bF (by rw[HL.out];exact hlt)];exact AT _
  .have HR:Hid (c.any bad=false):=by
    have:c.any bad=false:=acl.2 fun x hx=>by obtain⟨i,hi,rfl⟩:=List.getElem_of_mem hx;have:=hall i acs;rw[gC,bF hi]at this;simpa using this
    exact this
   clear hall hR hl hcon
   go_wp2_with fail
   go_ret
   exact⟨-1,rfl,by rw[HR.out];rfl,rfl⟩
theorem Sr{w:World}(hcon:∀i,i<n->Calls Try.prog 70 #[.int .i64 (c.getD i 0),u] w fun e w'=>e=.returned (.bool (bad (c.getD i 0)))/\w=w')(hR:Reads w B 1 A n (iv c))(hn:n<=1000) :
  Calls Try.prog 69 #[.slice A n cap,.func (.func 70) #[] #[u]] w fun e w'=>e=.returned (.bool (c.any bad))/\w=w':=by
 have hf:=Ua (cap:=cap) hcon hR hn;clear hR hcon
 go_enter Try.func69,Try.ntmps69
 go_wp2_with fail
 refine hf.mono ?_;rintro e w' ⟨k,rfl,hk,rfl⟩;have HK:=Lib.hid hk;clear hk
 go_wp2_with fail
 go_ret
 exact⟨lK HK.out,rfl⟩
theorem Sv(V:Int)(c:io):c.any (fu V) = !(iJ V c):=by
 unfold iJ
 induction c with|nil=>rfl|cons x l ih=>rw[List.any_cons,List.all_cons,ih];cases fu V x<;>simp
theorem Uq{w:World}(V:Int)(hv:-1000000<=V/\V<=1000000)(hR:Reads w B 1 A n (iv c))(hB:B<=w.heap.size)(hn:n<=1000) :
  Calls Try.prog 54 #[.slice A n cap,.int .i64 V] w fun e w'=>e=.returned (.bool (iJ V c))/\Below w.heap.size w w':=by
 have hR2:=hR.alloc hB (.cells #[.int .i64 V] 3);have hb:=(av.new w 3 #[.int .i64 V]).cell 0;have hf:=Sr (cap:=cap) (bad:=fu V) (fun i _=>Tq (c.getD i 0) V hv hb) hR2 hn;rw[Sv]at hf;have hw:=(Below.refl _ w).alloc (ol _) (.cells #[.int .i64 V] 3);clear hR hR2 hb
 go_enter Try.func54,Try.ntmps54
 go_wp2_with fail
 refine hf.mono ?_;rintro e w' ⟨rfl,rfl⟩
 go_wp2_with fail
 go_ret
 exact⟨lK acv,hw⟩
theorem Jr(w:World)(A:lc)(n c B:Nat)(xs:io)(hR:Reads w B 1 A n (iv xs))(hB:B<=w.heap.size)(hn:n<=1048576) :
  Calls Try.prog 48 #[.slice A n c] w fun e w'=>∃v',e=.returned v'/\Below w.heap.size w w'/\w'.ownsRow w.heap.size 3 1 v' n (iv xs):=by
 rcases A with _|ad
 .have hn0:n=0:=by
   rcases If n with h|h
   .exact h
   .obtain⟨_,h,_⟩:=hR.2 h;cases h
  subst hn0;have hx:xs=[]:=ro (by have:=hR.1;simpa[iv]using this);subst hx;have hs:=fun W=>Lib.run_eql_slice_nil (P:=Try.prog) W 22 3 none 0 c 0 0 Try.underlying22
  go_enter Try.func48,Try.ntmps48
  go_wp2
  go_ret
  exact⟨_,rfl,Below.refl _ _,World.ownsRow_nil _ _ _ _⟩
 .have hs:=fun W=>Lib.run_eql_slice_nil (P:=Try.prog) W 22 3 (some ad) n c 0 0 Try.underlying22;obtain⟨i0,hi0,hz0,hz1,hz2⟩:=info_parts Ca;have hown:=World.ownsRow_made (base:=w.heap.size) (e:=3) (size:=1) w #[] 0 (ol _) (by simp[maxLen]) rfl;have hR2:=hR.alloc hB (.cells #[] 3);have H1:=Lib.hid hi0;have H2:=Lib.hid hz0;have H3:=Lib.hid hz1;have H4:=Lib.hid hz2;clear hi0 hz0 hz1 hz2
  go_enter Try.func48,Try.ntmps48
  go_wp2_with (at_builtin;refine yO _ rfl _ _ 22 rfl w.heap.size 3 i0 (.int .i64 0) 1 8 Try.underlying22 H1.out H2.out H3.out H4.out rfl acw _ 0 [] rfl hown B (some ad) n c (iv xs) rfl hR2 (U3 xs) (by unfold maxLen;omega) acs acv ?_;intro v1 w1 hown1 hg1 hat1)
  go_ret
  rw[acg,LT]at hown1;refine⟨_,rfl,((Below.refl _ w).alloc (ol _) (.cells #[] 3)).grown hg1 acv ?_,hown1⟩;intro k hk;injection hk with hk;exact Nat.le_of_eq hk
structure FCl(w:World)(V:Nat)(D:Nat->Prop)(p:Value×io):Prop where
 own:w.ownsRow 0 3 1 p.1 p.2.length (iv p.2)
 cr:∀b,p.1.ownBlock=some b->D b
 right:iJ (V:Int) p.2=true
 mT:p.2.length<=1000
structure FD(w:World)(f V:Nat)(cs:List (Value×io))(D:Nat->Prop)(rv:Value):Prop where
 bx:av w f 63 #[.int .i64 V,rv]
 row:w.ownsRow 0 22 1 rv cs.length (cs.map (·.1))
 hV:V<=65536
 hf:D f
 dr:∀b,rv.ownBlock=some b->D b
 cl:∀p∈cs,FCl w V D p
 mT:cs.length<=1000000
variable{w':World}
theorem FD.ax{w:World}{f V:Nat}{cs:List (Value×io)}{D D':Nat->Prop}{rv:Value}(h:FD w f V cs D rv)(hf:aU D' w w')(hd:∀b,D b->¬D' b):FD w' f V cs D rv:=⟨hf.fD h.bx (hd _ h.hf),hf.own h.row (fun b hb=>hd b (h.dr b hb)),h.hV,h.hf,h.dr,fun p hp=>⟨hf.own (h.cl p hp).own (fun b hb=>hd b ((h.cl p hp).cr b hb)),(h.cl p hp).cr,(h.cl p hp).right,(h.cl p hp).mT⟩,h.mT⟩
theorem FD.below{w:World}{f V:Nat}{cs:List (Value×io)}{D:Nat->Prop}{rv:Value}(h:FD w f V cs D rv)(hb:Below w.heap.size w w'):FD w' f V cs D rv:=h.ax (D':=fun _=>False) (.gj hb) (fun _ _ h=>h)
theorem FD.drewN{w:World}{f V:Nat}{cs:List (Value×io)}{D:Nat->Prop}{rv:Value}(h:FD w f V cs D rv)(q:Nat):FD (w.drewN q) f V cs D rv:=h.ax (D':=fun _=>False) ((aU.refl _ _).drewN q) (fun _ _ h=>h)
theorem FD.drew{w:World}{f V:Nat}{cs:List (Value×io)}{D:Nat->Prop}{rv:Value}(h:FD w f V cs D rv):FD w.drew f V cs D rv:=h.ax (D':=fun _=>False) (aU.refl _ _).drew (fun _ _ h=>h)
theorem Sm{V V':Nat}(h:V<=V')(hc:iJ (V:Int) c=true):iJ (V':Int) c=true:=by unfold iJ at hc |-;rw[abs]at hc |-;intro x hx;have:=hc x hx;simp[fu]at this |-;omega
theorem JH(w:World)(V:Nat)(hV:V<=65536):Calls Try.prog 24 #[.int .i64 V] w fun e w'=>e=.returned (.pointer (some ⟨w.heap.size,0,none⟩))/\FD w' w.heap.size V [] (fun b=>w.heap.size<=b) (.slice none 0 0)/\Below w.heap.size w w':=by
 go_enter Try.func24,Try.ntmps24
 go_wp2_with fail
 go_ret
 exact⟨rfl,⟨av.new _ _ _,World.ownsRow_nil _ _ _ _,hV,ol _,(fun b hb=>by cases hb),(fun p hp=>by cases hp),acv⟩,(Below.refl _ w).alloc (ol _) _⟩
section
variable{w:World}{f V:Nat}{cs:List (Value×io)}{D:Nat->Prop}{rv:Value}
theorem qV(h:FD w f V cs D rv):Calls Try.prog 10 #[.pointer (some ⟨f,0,none⟩)] w fun e w'=>e=.returned (.int .i64 V)/\w=w':=by
 have c0:=h.bx.cell 0;clear h
 go_enter Try.func10,Try.ntmps10
 go_wp2_with fail
 go_ret
 exact⟨rfl,rfl⟩
theorem JF(h:FD w f V cs D rv):Calls Try.prog 27 #[.pointer (some ⟨f,0,none⟩)] w fun e w'=>e=.returned rv/\w=w':=by
 have c1:=h.bx.cell 1;clear h
 go_enter Try.func27,Try.ntmps27
 go_wp2_with fail
 go_ret
 exact⟨rfl,rfl⟩
theorem JG(h:FD w f V cs D rv):Calls Try.prog 11 #[.pointer (some ⟨f,0,none⟩)] w fun e w'=>e=.returned (.int .i64 cs.length)/\w=w':=by
 have h1:=JF h;obtain⟨A,c,rfl,_,_,_⟩:=iT h.row;clear h
 go_enter Try.func11,Try.ntmps11
 go_wp2_with fail
 refine h1.mono ?_;rintro e w' ⟨rfl,rfl⟩
 go_wp2_with fail
 go_ret
 exact⟨rfl,rfl⟩
theorem FD.Pz(h:FD w f V cs D rv)(hn:V<=n)(hn2:n<=65536):FD (w.setCell ⟨f,0,none⟩ (.int .i64 n)) f n cs D rv:=⟨h.bx.kF 0 _,n9 h.row (i7 h.row h.bx acw),hn2,h.hf,h.dr,(fun p hp=>⟨n9 (h.cl p hp).own (i7 (h.cl p hp).own h.bx acw),(h.cl p hp).cr,Sm hn (h.cl p hp).right,(h.cl p hp).mT⟩),h.mT⟩
theorem TN(n:Nat)(h:FD w f V cs D rv)(hn:n<=65536):Calls Try.prog 71 #[.pointer (some ⟨f,0,none⟩),.int .i64 n] w fun e w'=>e=.returned (.int .i64 0)/\FD w' f (max V n) cs D rv/\aU D w w':=by
 have c0:=h.bx.cell 0;have f0:=h.bx.frozen 0;have HH:=Lib.hid h;clear h;by_cases hlt:V<n
 all_goals (
  go_enter Try.func71,Try.ntmps71
  go_wp2_with fail
  go_ret)
 .rw[show max V n=n by omega];exact⟨rfl,HH.out.Pz acs hn,(aU.refl _ _).setCell HH.out.hf⟩
 .rw[show max V n=V by omega];exact⟨rfl,HH.out.Pz (ol _) HH.out.hV,(aU.refl _ _).setCell HH.out.hf⟩
end
theorem aU.trans{D:Nat->Prop}{a b c:World}(h:aU D a b)(k:aU D b c):aU D a c:=⟨k.os.trans h.os,k.tape.trans h.tape,k.output.trans h.output,pp h.size k.size,fun i hi hn=>(k.block i (rg hi h.size) hn).trans (h.block i hi hn)⟩
theorem AM{w:World}{b1 b2 s1 s2 n1 n2:Nat}{e1 e2:TypeId}{v1 v2:Value}{xs1 xs2:kw}(h1:w.ownsRow b1 e1 s1 v1 n1 xs1)(h2:w.ownsRow b2 e2 s2 v2 n2 xs2)(hne:e1≠e2):∀b,v1.ownBlock=some b->¬v2.ownBlock=some b:=by
 intro b hb hb2;rcases h2.2 with hn|⟨g,cap,cur,rfl,_,hg,_⟩
 .rw[hn.1]at hb2;cases hb2
 .injection hb2 with hb2;subst hb2;exact i7 h1 (show av w g e2 cur from hg) hne hb
variable{v:Value}
theorem FD.added{w w3:World}{f V:Nat}{cs:List (Value×io)}{D:Nat->Prop}{rv rv':Value}(h:FD w f V cs D rv)(hD:∀b,D b->b<B)
  (ho:w.ownsRow B 3 1 v c.length (iv c)) (hr:iJ (V:Int) c=true) (hn:c.length<=1000) (hcs:cs.length<1000000)
  (ho3:w3.ownsRow 0 22 1 rv' (cs.length+1) (cs.map (·.1)++[v])) (hg:w.grownBy w3 rv.ownBlock) (hat:∀b,rv'.ownBlock=some b->D b\/B<=b) :
  FD (w3.setCell ⟨f,1,none⟩ rv') f V (cs++[(v,c)]) (fun b=>D b\/(B<=b/\b<w3.heap.size)) rv':=by
 have hF:aU (fun b=>rv.ownBlock=some b) w w3:=(aU.refl _ w).grown hg fun b hb=>hb;have hbx:av w3 f 63 #[.int .i64 V,rv]:=hF.fD h.bx (i7 h.row h.bx acw);refine⟨hbx.kF 1 _,by simpa using n9 ho3 (i7 ho3 hbx acw),h.hV,.inl h.hf,fun b hb=>(hat b hb).imp id fun hx=>⟨hx,(ho3.lt b hb).2⟩,fun p hp=>?_,by simp;omega⟩;have key:∀q:Value×io,w.ownsRow 0 3 1 q.1 q.2.length (iv q.2)->(w3.setCell ⟨f,1,none⟩ rv').ownsRow 0 3 1 q.1 q.2.length (iv q.2):=fun q hq=>by have:=hF.own hq (AM hq h.row acw);exact n9 this (i7 this hbx acw)
 rcases AC.1 hp with hp|hp
 .exact⟨key p (h.cl p hp).own,fun b hb=>.inl ((h.cl p hp).cr b hb),(h.cl p hp).right,(h.cl p hp).mT⟩
 .obtain rfl:=abS.1 hp;refine⟨key (v,c) ⟨ho.1,?_⟩,fun b hb=>.inr ⟨(ho.lt b hb).1,rg (ho.lt b hb).2 hg.size⟩,hr,hn⟩;rcases ho.2 with hx|⟨g,cap,cur,e,hb,r⟩
  .exact .inl hx
  .exact .inr ⟨g,cap,cur,e,Fn _,r⟩
theorem Jc:(Try.prog.info? 22).map (fun i=>(i.zero,i.size,i.bytes))=some (some (.slice none 0 0),1,24):=acu
set_option maxHeartbeats 1000000
theorem AO{w:World}{f V B0:Nat}{cs:List (Value×io)}{D:Nat->Prop}{rv:Value}(h:FD w f V cs D rv)(hcs:cs.length<1000000)(hD:∀b,D b->b<w.heap.size)(hR:Reads w B0 1 A n (iv c))(hB0:B0<=w.heap.size)(hn:n<=1000)(hr:iJ (V:Int) c=true) :
  Calls Try.prog 26 #[.pointer (some ⟨f,0,none⟩),.slice A n cap] w fun e w'=>e=.returned (.int .i64 0)/\(∃v D' rv',FD w' f V (cs++[(v,c)]) D' rv'/\(∀b,D' b->D b\/w.heap.size<=b)/\∀b,D' b->b<w'.heap.size)/\aU D w w':=by
 have h1:=Uq (cap:=cap) (V:Int) ⟨acs,by have:=h.hV;omega⟩ hR hB0 hn;have hr':=hr;rw[hr]at h1;have c0:=h.bx.cell 0;have HH:=Lib.hid h;have HR:=Lib.hid hR;clear h hR hr
 go_enter Try.func26,Try.ntmps26
 go_wp2_with fail
 refine h1.mono ?_;rintro e w1 ⟨rfl,hb1⟩;have hh1:=HH.out.below hb1;have hR1:=HR.out.below (hb1.mono hB0);have e1:=hh1.bx.cell 1;have hcl:=Jr w1.drew A n cap B0 c hR1.drew (by have:=hb1.size;show B0<=w1.heap.size;omega) acs;have HH1:=Lib.hid hh1;have HCL:=Lib.hid hcl;have HB1:=Lib.hid hb1;clear hh1 hR1 hcl hb1 c0 h1
 go_wp2_with fail
 have hnc:c.length=n:=by have:=HR.out.1;rw[vg]at this;omega
 have hrow1:=HH1.out.row;obtain⟨A0,c0',rfl,_,_,_⟩:=iT hrow1;have HROW:=Lib.hid hrow1;clear hrow1
 go_region_law (first
  |(go_simp;go_at_call 48;refine HCL.out.mono ?_;rintro e w2 ⟨v2,rfl,hb2,ho2⟩;obtain⟨A2,cp2,rfl,_,_,_⟩:=iT ho2;have hx2:=HH1.out.drew.below hb2;have g1:=hx2.bx.cell 1;have g1b:=(hx2.bx.alloc (Obj.cells #[Value.slice A2 n cp2] 22)).cell 1;have HX2:=Lib.hid hx2;have HB2:=Lib.hid hb2;have HO2:=Lib.hid ho2;clear hx2 hb2 ho2)
  |(refine Sc w2 rfl _ _ 59 rfl 0 22 (.slice none 0 0) 24 Try.underlying59 Jc rfl acs (.slice A0 cs.length c0') cs.length (cs.map (·.1)) rfl HX2.out.row (.slice A2 n cp2) rfl _ rfl rfl acs (Fn _) ?_;intro v3 w3 hown3 hg3 hat3;have hx3:=((aU.refl _ w2).grown hg3 (D:=fun b=>(Value.slice A0 cs.length c0').ownBlock=some b) fun b hb=>hb).fD HX2.out.bx (i7 HX2.out.row HX2.out.bx acw);have d1:=hx3.cell 1;have f1:=hx3.frozen 1;obtain⟨A3,cp3,rfl,_,_,_⟩:=iT hown3;have HX3:=Lib.hid hx3;have HG3:=Lib.hid hg3;have HO3:=Lib.hid hown3;have HAT:=Lib.hid hat3;clear hx3 hg3 hown3 hat3))
 all_goals (
  go_wp2_with fail
  go_ret
  have hs1:=HB1.out.size;have hs2:w1.heap.size<=w2.heap.size:=HB2.out.size;subst hnc;have hat:∀b,(Value.slice A3 (cs.length+1) cp3).ownBlock=some b->D b\/w1.heap.size<=b:=by
   intro b hb;rcases HAT.out with e|e
   .exact .inl (HX2.out.dr b (by rw[<-e];exact hb))
   .rw[hb]at e;injection e with e;right;omega
  exact⟨rfl,⟨_,_,_,FD.added (B:=w1.heap.size) HX2.out (fun b hb=>by have:=hD b hb;omega) HO2.out hr' hn hcs HO3.out HG3.out hat,fun b hb=>hb.imp id fun h=>acs,fun b hb=>hb.elim (fun hx=>by have:=hD b hx;have:=HG3.out.size;simp[World.setCell];omega) fun hx=>by simpa[World.setCell]using hx.2⟩,
   ((aU.gj HB1.out).drew.trans ((aU.gj HB2.out).trans ((aU.refl _ w2).grown HG3.out fun b hb=>HX2.out.dr b hb))).setCell HH1.out.hf⟩)
variable{xs:kw}{e:TypeId}
theorem JZ{w:World}{m c:Nat}(h:w.ownsRow B e 1 (.slice A m c) n xs){k:Nat}(hk:k<n):∃g,A=some ⟨g,0,none⟩/\w.cell? ⟨g,k,none⟩=xs[k]?/\k<xs.length/\g<w.heap.size:=by
 have hl:k<xs.length:=by have:=h.1;omega
 obtain⟨g,cap,hv,_,hlt⟩:=h.form acs;have hA:A=some ⟨g,0,none⟩:=by injection hv
 subst hA;refine⟨g,rfl,?_,hl,hlt⟩;have:=h.cells (g:=g) rfl k xs[k] (bF hl);rw[bF hl,<-this];unfold Addr.add;split
 .rename_i h0;subst h0;rfl
 .simp
def ji(w:World)(B:Nat)(vs:kw)(cs:List io):Prop:=vs.length=cs.length/\∀(i:Nat) (v:Value) (c:io),vs[i]?=some v->cs[i]?=some c->w.ownsRow B 3 1 v c.length (iv c)
variable{vs:kw}
theorem ji.ax{w:World}{cs:List io}{D:Nat->Prop}(h:ji w B vs cs)(hf:aU D w w')(hd:∀v∈vs,∀b,v.ownBlock=some b->¬D b):ji w' B vs cs:=⟨h.1,fun i v c hv hc=>hf.own (h.2 i v c hv hc) (hd v (d8 hv))⟩
theorem ji.below{w:World}{cs:List io}(h:ji w B vs cs)(hb:Below w.heap.size w w'):ji w' B vs cs:=h.ax (D:=fun _=>False) (.gj hb) (fun _ _ _ _ h=>h)
theorem ji.grown{w:World}{B1:Nat}{us:kw}{cs:List io}{rv:Value}(h:ji w B vs cs)(ho:w.ownsRow B1 22 1 rv n us)(hg:w.grownBy w' rv.ownBlock):ji w' B vs cs:=h.ax (D:=fun b=>rv.ownBlock=some b) ((aU.refl _ w).grown hg fun b hb=>hb) (fun v hv b hb=>by obtain⟨i,hi⟩:=List.mem_iff_getElem?.1 hv;obtain⟨c,hc⟩:∃c,cs[i]?=some c:=⟨cs[i]'(by have:=(wn.1 hi).1;have:=h.1;omega),bF _⟩;exact AM (h.2 i v c hi hc) ho acw b hb)
theorem ji.snoc{w:World}{cs:List io}(h:ji w B vs cs)(ho:w.ownsRow B 3 1 v c.length (iv c)):ji w B (vs++[v]) (cs++[c]):=by
 refine⟨by simp[h.1],fun i v' c' hv hc=>?_⟩;rw[List.getElem?_append]at hv hc;rw[<-h.1]at hc;split at hv
 .rename_i hi;rw[ut hi]at hc;exact h.2 i v' c' hv hc
 .rename_i hi;rw[qr hi]at hc;rcases hj:i-vs.length with _|j
  .rw[hj]at hv hc;simp at hv hc;subst hv;subst hc;exact ho
  .rw[hj]at hv;simp at hv
theorem Tm{w:World}{B':Nat}(h:w.ownsRow B e 1 v n xs)(hB:B'<=B):w.ownsRow B' e 1 v n xs:=by
 refine⟨h.1,?_⟩;rcases h.2 with hx|⟨g,cap,cur,e,hb,r⟩
 .exact .inl hx
 .exact .inr ⟨g,cap,cur,e,pp hB hb,r⟩
theorem Sp{w:World}{f V:Nat}{cs:List (Value×io)}{D:Nat->Prop}{rv:Value}(h:FD w f V cs D rv) :
  Calls Try.prog 25 #[.pointer (some ⟨f,0,none⟩)] w fun e w'=>∃out vs,e=.returned out/\w'.ownsRow w.heap.size 22 1 out cs.length vs/\ji w' w.heap.size vs (cs.map (·.2))/\Below w.heap.size w w':=by
 have h1:=JF h;obtain⟨A0,c0,rfl,hc0,_,_⟩:=iT h.row;have HH:=Lib.hid h;have hfew:=h.mT;obtain⟨n,hn⟩:∃n,n=cs.length:=⟨_,rfl⟩;rw[<-hn]at h1 hfew hc0 |-;have HN:=Lib.hid hn;clear h hn
 go_enter Try.func25,Try.ntmps25
 go_wp2_with fail
 refine h1.mono ?_;rintro e w' ⟨rfl,rfl⟩
 go_wp2_with fail
 go_loopw [2,8] (fun out i wr=>∃(k:Nat) (vs:kw),k<=n/\i=.int .i64 k/\wr.ownsRow w.heap.size 22 1 out k vs/\ji wr w.heap.size vs ((cs.map (·.2)).take k)/\Below w.heap.size w wr) (fun _ i _=>n-(intOf i).toNat)
 case atStart=>exact⟨0,[],Fn _,rfl,World.ownsRow_nil _ _ _ _,⟨acv,fun i v c hv=>by simp at hv⟩,Below.refl _ _⟩
 case round=>
  obtain⟨k,vs,hk,rfl,hown,hcl,hbel⟩:=hrel;by_cases hlt:k<n
  .have hx:=HH.out.below hbel;obtain⟨g,rfl,hcell,hkl,_⟩:=JZ hx.row (k:=k) (by rw[<-HN.out];exact hlt);have hkc:k<cs.length:=by rw[<-HN.out];exact hlt
   have hC:=hx.cl cs[k] (AT hkc);rw[dx,bF hkc,abI]at hcell;have hck:(cs.map (·.2))[k]?=some cs[k].2:=by rw[dx,bF hkc];rfl
   have htk:(cs.map (·.2)).take (k+1)=(cs.map (·.2)).take k++[cs[k].2]:=by rw[List.take_add_one,hck];rfl
   generalize cs[k]=p at hC hcell htk;obtain⟨v0,c⟩:=p;have hcf:=hC.mT;have hco:=hC.own;dsimp only at hco hcell htk hcf;clear hC;obtain⟨A2,c2,rfl,_,_,hR2⟩:=iT hco;have HT:=Lib.hid htk;have HR2:=Lib.hid hR2;have HCL:=Lib.hid hcl;have HO:=Lib.hid hown;have HB:=Lib.hid hbel;clear hcl hown hbel hco hR2 htk hck hx hkl;obtain⟨Ao,co,rfl,_,_,_⟩:=iT HO.out
   go_wp2_with fail
   refine(Jr wr A2 c.length c2 wr.heap.size c HR2.out (ol _) acs).mono ?_;rintro e w2 ⟨v2,rfl,hb2,ho2⟩;obtain⟨A3,cp3,rfl,_,_,_⟩:=iT ho2;have hown2:=HO.out.kept (w':=w2) (row:=none) ⟨hb2.os,hb2.tape,hb2.output,hb2.size,fun i hi _=>hb2.block i hi⟩ (by rcases Value.ownBlock _ with _|k';exact .inl rfl;exact .inr acv);have HB2:=Lib.hid hb2;have HO2:=Lib.hid ho2;have HOW:=Lib.hid hown2;clear hb2 ho2 hown2
   go_wp2_with (at_builtin;refine R9 w2 rfl _ _ 59 rfl w.heap.size 22 (.slice none 0 0) 24 Try.underlying59 Jc rfl acs (.slice Ao k co) k vs rfl HOW.out (.slice A3 c.length cp3) rfl _ rfl rfl acs (pp HB.out.size HB2.out.size) ?_;intro v3 w3 hown3 hg3 hat3;have HG3:=Lib.hid hg3;have HO3:=Lib.hid hown3;clear hg3 hown3 hat3)
   .go_roundw
    case rel=>
     have hs:=HB.out.size;have hf3:aU (fun b=>(Value.slice Ao k co).ownBlock=some b) w2 w3:=(aU.refl _ w2).grown HG3.out fun b hb=>hb;refine⟨k+1,vs++[.slice A3 c.length cp3],acs,by go_num,HO3.out,?_,?_⟩
     .rw[HT.out];refine ji.snoc (((HCL.out.below (w':=w2) HB2.out)).grown HOW.out HG3.out) ?_;exact Tm (hf3.own HO2.out (AM HO2.out HOW.out acw)) hs
     .refine((HB.out.trans (HB2.out.mono hs)).grown HG3.out (pp hs HB2.out.size) fun b hb=>(HO.out.lt b hb).1)
    case measure=>simp[intOf];omega
  .obtain rfl:k=n:=acs
   rw[By (by simp[HN.out])]at hcl;have HCL:=Lib.hid hcl;have HO:=Lib.hid hown;have HB:=Lib.hid hbel;clear hcl hown hbel
   go_wp2_with fail
   go_ret
   exact⟨_,vs,rfl,HO.out,HCL.out,HB.out⟩
