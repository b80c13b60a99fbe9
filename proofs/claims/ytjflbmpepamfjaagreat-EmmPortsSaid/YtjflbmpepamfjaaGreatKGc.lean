import Derived.Test.YtjflbmpepamfjaaGreatKGb
import Derived.Maps.OwnSet
import Derived.DeepKeys4
import Derived.StillTailTactics
set_option linter.all false
section
namespace Go.Proofs.YtjflbmpepamfjaaGreat
open Go Go.RowKit Go.Maps
theorem rG:Keyed Tryz.prog 147:=Keyed.of_law (deep_law_laid laidOut (m:=2) aGl (Pi aGm) aGm aGm)
theorem aes(d:Nat)(k a b c:Int)(s:ByteArray)(hk:(Lit.int .i64 k).wf=true)(ha:(Lit.int .i64 a).wf=true)(hb:(Lit.int .i64 b).wf=true)(hc:(Lit.int .i64 c).wf=true)(hs:s.size<=maxLen) :
  Tryz.prog.keyLits (d+2) 147 [.int .i64 k,.int .i64 a,.int .i64 b,.int .i64 c,.string s]=some [.int .i64 k,.int .i64 a,.int .i64 b,.int .i64 c,.string s.data.toList]:=by
 have h2:Tryz.prog.cellsOf 147=5:=aGm
 have h3:Tryz.prog.cellsOf 3=1:=aGm
 have h4:Tryz.prog.cellsOf 9=1:=aGm
 simp[Program.keyLits,Tryz.underlying147,Tryz.underlying3,Tryz.underlying9,h2,h3,h4,hk,ha,hb,hc,hs]
theorem F6(k a b c:Int)(s:ByteArray)(hk:(Lit.int .i64 k).wf=true)(ha:(Lit.int .i64 a).wf=true)(hb:(Lit.int .i64 b).wf=true)(hc:(Lit.int .i64 c).wf=true)(hs:s.size<=maxLen) :
  ∃l,keyOf Tryz.prog 147 (.agg #[.int .i64 k,.int .i64 a,.int .i64 b,.int .i64 c,.string s])=some l:=by
 have h1:Tryz.prog.keyType 147=true:=aGm
 have h2:Tryz.prog.cellsOf 147=5:=aGm
 unfold keyOf;rw[Tryz.underlying147];simp[h1,Value.formed,Tryz.underlying147,h2,Value.cells];exact⟨_,_,aes _ k a b c s hk ha hb hc hs,rfl⟩
variable{H:Type}{w':World}
theorem ak.map{D:Nat->Prop}{w:World}{k:TypeId}{R:Value->Option (DataW H×List MemPlace)}{b n:Nat}{M:DataW H}(h:ak D w w')(hm:w.ownsMap Tryz.prog k R b n M)(hn:¬D b):w'.ownsMap Tryz.prog k R b n M:=by have hlt:=hm.lt;obtain⟨es,clock,hb,r⟩:=hm;exact⟨es,clock,(h.block b hlt hn).trans hb,r⟩
variable{D':Nat->Prop}
theorem ak.mono{D:Nat->Prop}{w:World}(h:ak D w w')(hd:∀b,D b->D' b):ak D' w w':=⟨h.os,h.tape,h.output,h.size,fun b hb hn=>h.block b hb fun hx=>hn (hd b hx)⟩
abbrev pg(w:World)(m n:Nat)(M:DataW Unit):Prop:=w.ownsMap Tryz.prog 147 (plainElem Tryz.prog 3) m n M
structure GB(w:World)(g V:Nat)(cs:List (Value×io))(D:Nat->Prop)(f m:Nat)(rv:Value)(Df:Nat->Prop)(n:Nat)(M:DataW Unit):Prop where
 bx:af w g 141 #[.pointer (some ⟨f,0,none⟩),.map (some m),.bool false]
 fm:FD w f V cs Df rv
 mp:pg w m n M
 hn:n<=V
 sub:∀b,Df b->D b
 ng:¬Df g
 nm:¬Df m
 dg:D g
 dm:D m
 lt:∀b,D b->b<w.heap.size
 mb:∀kl c,DataW.atKey M kl (.lit (.int .i64 0))=.lit (.int .i64 c)->0<=c/\c<=(V:Int)
def GD(w:World)(g V C:Nat)(D:Nat->Prop):Prop:=∃cs f m rv Df n M,GB w g V cs D f m rv Df n M/\cs.length=C
theorem GB.an{w:World}{g V:Nat}{cs:List (Value×io)}{D:Nat->Prop}{f m:Nat}{rv:Value}{Df:Nat->Prop}{n:Nat}{M:DataW Unit}(h:GB w g V cs D f m rv Df n M)(hf:ak D' w w')(hd:∀b,D b->¬D' b):GB w' g V cs D f m rv Df n M:=⟨hf.cC h.bx (hd _ h.dg),h.fm.an hf fun b hb=>hd b (h.sub b hb),hf.map h.mp (hd _ h.dm),h.hn,h.sub,h.ng,h.nm,h.dg,h.dm,fun b hb=>ro (h.lt b hb) hf.size,h.mb⟩
theorem GD.an{w:World}{g V C:Nat}{D:Nat->Prop}(h:GD w g V C D)(hf:ak D' w w')(hd:∀b,D b->¬D' b):GD w' g V C D:=by obtain⟨cs,f,m,rv,Df,n,M,h,e⟩:=h;exact⟨cs,f,m,rv,Df,n,M,h.an hf hd,e⟩
theorem GD.below{w:World}{g V C:Nat}{D:Nat->Prop}(h:GD w g V C D)(hb:Below w.heap.size w w'):GD w' g V C D:=h.an (D':=fun _=>False) (.cR hb) (fun _ _ h=>h)
theorem GB.below{w:World}{g V:Nat}{cs:List (Value×io)}{D:Nat->Prop}{f m:Nat}{rv:Value}{Df:Nat->Prop}{n:Nat}{M:DataW Unit}(h:GB w g V cs D f m rv Df n M)(hb:Below w.heap.size w w'):GB w' g V cs D f m rv Df n M:=h.an (D':=fun _=>False) (.cR hb) (fun _ _ h=>h)
theorem GB.drew{w:World}{g V:Nat}{cs:List (Value×io)}{D:Nat->Prop}{f m:Nat}{rv:Value}{Df:Nat->Prop}{n:Nat}{M:DataW Unit}(h:GB w g V cs D f m rv Df n M):GB w.drew g V cs D f m rv Df n M:=h.an (D':=fun _=>False) (ak.refl _ _).drew (fun _ _ h=>h)
theorem GB.ne{w:World}{g V:Nat}{cs:List (Value×io)}{D:Nat->Prop}{f m:Nat}{rv:Value}{Df:Nat->Prop}{n:Nat}{M:DataW Unit}(h:GB w g V cs D f m rv Df n M):g≠m:=by rintro rfl;obtain⟨es,clock,hb,_⟩:=h.mp;have:=h.bx;unfold af at this;rw[hb]at this;cases this
theorem GB.form{w:World}{g V V':Nat}{cs cs':List (Value×io)}{D:Nat->Prop}{f m:Nat}{rv rv':Value}{Df Df':Nat->Prop}{n:Nat}{M:DataW Unit}(h:GB w g V cs D f m rv Df n M)(hf:FD w' f V' cs' Df' rv')(hfr:ak Df w w')(hV:V<=V')(hd:∀b,Df' b->Df b\/w.heap.size<=b)(hlt:∀b,Df' b->b<w'.heap.size) :
  GB w' g V' cs' (fun b=>D b\/Df' b) f m rv' Df' n M:=
 ⟨hfr.cC h.bx h.ng,hf,hfr.map h.mp h.nm,rt h.hn hV,fun b hb=>.inr hb,fun hb=>(hd _ hb).elim h.ng fun h2=>by have:=h.bx.lt;omega,fun hb=>(hd _ hb).elim h.nm fun h2=>by have:=h.mp.lt;omega,.inl h.dg,.inl h.dm,fun b hb=>hb.elim (fun hx=>ro (h.lt b hx) hfr.size) (hlt b),fun kl c e=>⟨(h.mb kl c e).1,Int.le_trans (h.mb kl c e).2 aGl⟩⟩
set_option maxHeartbeats 800000
variable{u:Value}{c:io}{cap:Nat}{B:Nat}{bad:Int->Bool}{A:lc}
theorem agj{w:World}{n:Nat}(hcon:∀i,i<n->Calls Tryz.prog 106 #[.int .i64 (c.getD i 0),u] w fun e w'=>e=.returned (.bool (bad (c.getD i 0)))/\w=w')(hR:Reads w B 1 A n (iv c))(hn:n<=1000) :
  Calls Tryz.prog 143 #[.slice A n cap,.func (.func 106) #[] #[u]] w fun e w'=>∃k:Int,e=.returned (.int .i64 k)/\(decide (0<=k)=c.any bad)/\w=w':=by
 have hl:c.length=n:=by have:=hR.1;rw[fX]at this;omega
 go_enter Tryz.func143,Tryz.ntmps143
 go_wp2_with fail
 go_loopw [8] (fun x wr=>∃j:Nat,x=.int .i64 j/\j<=n/\(∀i,i<j->bad (c.getD i 0)=false)/\w=wr) (fun x _=>n-(intOf x).toNat)
 case atStart=>exact⟨0,rfl,aGl,fun i hi=>absurd hi aGl,rfl⟩
 case round=>
  obtain⟨j,rfl,hj,hall,rfl⟩:=hrel;by_cases hlt:j<n
  .obtain⟨b,off,rfl,_,hc⟩:=hR.oU hlt;have hcj:=hcon j hlt;obtain⟨x,hx⟩:∃x,x=c.getD j 0:=⟨_,rfl⟩;rw[<-hx]at hc hcj;have HX:=Lib.hid hx;have HA:=Lib.hid hall;have HL:=Lib.hid hl;clear hall hR hl hcon hx;rcases ho:bad x with _|_
   .rw[ho]at hcj;have HO:=Lib.hid ho;clear ho
    go_wp2_with fail
    refine hcj.mono ?_;rintro e w' ⟨rfl,rfl⟩
    go_wp2_with fail
    go_roundw
    case rel=>
     refine⟨j+1,by go_num,aGl,fun i hi=>?_,trivial⟩;rcases ww i j with h|h
     .exact HA.out i h
     .obtain rfl:i=j:=aGl
      rw[<-HX.out];exact HO.out
    case measure=>simp[intOf];omega
   .rw[ho]at hcj;have HO:=Lib.hid ho;clear ho
    go_wp2_with fail
    refine hcj.mono ?_;rintro e w' ⟨rfl,rfl⟩
    go_wp2_with fail
    go_ret
    refine⟨j,rfl,?_,rfl⟩;rw[show decide ((0:Int)<=(j:Int))=true by simp];refine(aEQ.2 ⟨x,?_,HO.out⟩).symm;rw[HX.out,fq,bF (by rw[HL.out];exact hlt)];exact EQ _
  .have HR:Hid (c.any bad=false):=by
    have:c.any bad=false:=aFn.2 fun x hx=>by obtain⟨i,hi,rfl⟩:=aFV hx;have:=hall i aGl;rw[fq,bF hi]at this;simpa using this
    exact this
   clear hall hR hl hcon
   go_wp2_with fail
   go_ret
   exact⟨-1,rfl,by rw[HR.out];rfl,rfl⟩
theorem aen{w:World}{n:Nat}(hcon:∀i,i<n->Calls Tryz.prog 106 #[.int .i64 (c.getD i 0),u] w fun e w'=>e=.returned (.bool (bad (c.getD i 0)))/\w=w')(hR:Reads w B 1 A n (iv c))(hn:n<=1000) :
  Calls Tryz.prog 105 #[.slice A n cap,.func (.func 106) #[] #[u]] w fun e w'=>e=.returned (.bool (c.any bad))/\w=w':=by
 have hf:=agj (cap:=cap) hcon hR hn;clear hR hcon
 go_enter Tryz.func105,Tryz.ntmps105
 go_wp2_with fail
 refine hf.mono ?_;rintro e w' ⟨k,rfl,hk,rfl⟩;have HK:=Lib.hid hk;clear hk
 go_wp2_with fail
 go_ret
 exact⟨lG HK.out,rfl⟩
section
variable{w:World}{g V:Nat}{cs:List (Value×io)}{D:Nat->Prop}{f m:Nat}{rv:Value}{Df:Nat->Prop}{n:Nat}{M:DataW Unit}
theorem ahp(h:GB w g V cs D f m rv Df n M):Calls Tryz.prog 76 #[.pointer (some ⟨g,0,none⟩)] w fun e w'=>e=.returned (.int .i64 1)/\w=w':=by
 have c2:=h.bx.cell 2;clear h
 go_enter Tryz.func76,Tryz.ntmps76
 go_wp2_with fail
 go_ret
 exact⟨rfl,rfl⟩
theorem ahm(h:GB w g V cs D f m rv Df n M):Calls Tryz.prog 35 #[.pointer (some ⟨g,0,none⟩)] w fun e w'=>e=.returned (.bool false)/\w=w':=by
 have c2:=h.bx.cell 2;clear h
 go_enter Tryz.func35,Tryz.ntmps35
 go_wp2_with fail
 go_ret
 exact⟨rfl,rfl⟩
theorem Fx(h:GB w g V cs D f m rv Df n M)(hV:V<65536):Calls Tryz.prog 33 #[.pointer (some ⟨g,0,none⟩)] w fun e w'=>e=.returned (.int .i64 ((V+1:Nat):Int))/\GB w' g (V+1) cs D f m rv Df n M/\ak Df w w':=by
 have c0:=h.bx.cell 0;have c2:=h.bx.cell 2;have h1:=P9 h.fm;have h2:=afT (V+1) h.fm aGl;rw[show max V (V+1)=V+1 by omega]at h2;have HH:=Lib.hid h;clear h
 go_enter Tryz.func33,Tryz.ntmps33
 go_wp2_with fail
 refine h1.mono ?_;rintro e w' ⟨rfl,rfl⟩
 go_wp2_with fail
 refine h2.mono ?_;rintro e w' ⟨rfl,hf,hfr⟩;have HF:=Lib.hid hf;have HR:=Lib.hid hfr;clear hf hfr h1 h2
 go_wp2_with fail
 go_ret
 have:=HH.out.form HF.out HR.out aGl (fun b hb=>.inl hb) (fun b hb=>ro (HH.out.lt b (HH.out.sub b hb)) HR.out.size);exact⟨rfl,⟨this.bx,this.fm,this.mp,this.hn,HH.out.sub,this.ng,this.nm,HH.out.dg,HH.out.dm,fun b hb=>ro (HH.out.lt b hb) HR.out.size,this.mb⟩,HR.out⟩
end
def gg(V:Nat)(x:Int):Bool:=decide (x=0)||decide ((V:Int)<x)||decide ((V:Int) < -x)
section
variable{w:World}{g V:Nat}{cs:List (Value×io)}{D:Nat->Prop}{f m:Nat}{rv:Value}{Df:Nat->Prop}{n:Nat}{M:DataW Unit}
theorem age{p:Nat}(x:Int)(hx:-65536<=x/\x<=65536)(h:GB w g V cs D f m rv Df n M)(hp:w.cell? ⟨p,0,none⟩=some (.pointer (some ⟨g,0,none⟩))) :
  Calls Tryz.prog 106 #[.int .i64 x,.pointer (some ⟨p,0,none⟩)] w fun e w'=>e=.returned (.bool (gg V x))/\w=w':=by
 have c0:=h.bx.cell 0;have h1:=P9 h.fm;have hV:=h.fm.hV;clear h;have hn:=IntWalk.i64_in (-x) ⟨aGl,aGl⟩;by_cases h0:x=0
 .subst h0
  go_enter Tryz.func106,Tryz.ntmps106
  go_wp2_with fail
  go_ret
  exact⟨rfl,rfl⟩
 .have h0':(x == 0)=false:=pu.2 h0;have hs:(-x == x)=false:=pu.2 aGl;rcases(show(x < -x/\(V:Int) < -x)\/(x < -x/\-x<=(V:Int))\/(-x<x/\(V:Int)<x)\/(-x<x/\x<=(V:Int)) by omega)with⟨h1',h2'⟩|⟨h1',h2'⟩|⟨h1',h2'⟩|⟨h1',h2'⟩
  all_goals (
   have HO:=Lib.hid (show gg V x=_ from by unfold gg;rw[show decide (x=0)=false by simpa using h0,aGa]);have hm:=aFL.2 (aFe h1');clear h0
   go_enter Tryz.func106,Tryz.ntmps106
   go_wp2_with fail
   refine h1.mono ?_;rintro e w' ⟨rfl,rfl⟩
   go_wp2_with fail
   go_ret
   refine⟨lG ?_,rfl⟩;rw[HO.out];simp
   try omega)
theorem tF{k:Nat}(h:GB w g V cs D f m rv Df n M)(hR:Reads w B 1 A k (iv c))(hB:B<=w.heap.size)(hk:k<=1000)(hc:∀i,i<k->-65536<=c.getD i 0/\c.getD i 0<=65536) :
  Calls Tryz.prog 77 #[.pointer (some ⟨g,0,none⟩),.slice A k cap] w fun e w'=>e=.returned (.bool (!(c.any (gg V))))/\Below w.heap.size w w':=by
 have hw:=(Below.refl _ w).alloc (pi _) (.cells #[.pointer (some ⟨g,0,none⟩)] 62);have h2:=h.below hw;have hb:=(af.new w 62 #[.pointer (some ⟨g,0,none⟩)]).cell 0;have c2:=h2.bx.cell 2;have hR2:=hR.alloc hB (.cells #[.pointer (some ⟨g,0,none⟩)] 62);have hf:=aen (cap:=cap) (bad:=gg V) (fun i hi=>age (c.getD i 0) (hc i hi) h2 hb) hR2 hk;clear h h2 hR hR2
 go_enter Tryz.func77,Tryz.ntmps77
 go_wp2_with fail
 refine hf.mono ?_;rintro e w' ⟨rfl,rfl⟩
 go_wp2_with fail
 go_ret
 exact⟨rfl,hw⟩
theorem QV{p k:Nat}(h:GB w g V cs D f m rv Df n M)(hp:w.cell? ⟨p,0,none⟩=some (.pointer (some ⟨g,0,none⟩)))(hcs:cs.length<1000000)(hR:Reads w B 1 A k (iv c))(hB:B<=w.heap.size)(hk:k<=1000)(hr:eW (V:Int) c=true) :
  Calls Tryz.prog 107 #[.slice A k cap,.pointer (some ⟨p,0,none⟩)] w fun e w'=>e=.returned (.tuple #[])/\(∃v D' rv' Df',GB w' g V (cs++[(v,c)]) D' f m rv' Df' n M/\∀b,D' b->D b\/w.heap.size<=b)/\ak Df w w':=by
 have c0:=h.bx.cell 0;have h1:=FB (cap:=cap) h.fm hcs (fun b hb=>h.lt b (h.sub b hb)) hR hB hk hr;have HH:=Lib.hid h;clear h hR
 go_enter Tryz.func107,Tryz.ntmps107
 go_wp2_with fail
 refine h1.mono ?_;rintro e w' ⟨rfl,⟨v,D',rv',hf,hd,hlt⟩,hfr⟩;have HF:=Lib.hid hf;have HR:=Lib.hid hfr;have HD:=Lib.hid hd;have HLT:=Lib.hid hlt;clear hf hfr h1 hd hlt
 go_wp2_with fail
 have hlt:∀b,D' b->b<w'.heap.size:=HLT.out;exact⟨rfl,.tuple #[],results_none rfl _ _ _,rfl,⟨v,_,rv',D',HH.out.form HF.out HR.out (pi _) HD.out hlt,fun b hb=>hb.elim .inl fun hx=>(HD.out b hx).imp (HH.out.sub b) id⟩,HR.out⟩
end
variable{p:Nat}
theorem ak.after{D D1:Nat->Prop}{a b c:World}(h:ak D a b)(k:ak D1 b c)(hd:∀x,D1 x->D x\/a.heap.size<=x):ak D a c:=⟨k.os.trans h.os,k.tape.trans h.tape,k.output.trans h.output,rt h.size k.size,fun i hi hn=>(k.block i (ro hi h.size) (fun hx=>(hd i hx).elim hn fun h2=>aGl)).trans (h.block i hi hn)⟩
def fp(w:World)(g V C m:Nat)(D:Nat->Prop)(n:Nat)(M:DataW Unit):Prop:=∃cs f rv Df,GB w g V cs D f m rv Df n M/\cs.length=C
theorem fp.below{w:World}{g V C m:Nat}{D:Nat->Prop}{n:Nat}{M:DataW Unit}(h:fp w g V C m D n M)(hb:Below w.heap.size w w'):fp w' g V C m D n M:=by obtain⟨cs,f,rv,Df,h,e⟩:=h;exact⟨cs,f,rv,Df,h.below hb,e⟩
theorem fp.gd{w:World}{g V C m:Nat}{D:Nat->Prop}{n:Nat}{M:DataW Unit}(h:fp w g V C m D n M):GD w g V C D:=by obtain⟨cs,f,rv,Df,h,e⟩:=h;exact⟨cs,f,m,rv,Df,n,M,h,e⟩
section
variable{w:World}{g V C m:Nat}{D:Nat->Prop}{n:Nat}{M:DataW Unit}
theorem qi(c:io)(h:fp w g V C m D n M)(hp:w.cell? ⟨p,0,none⟩=some (.pointer (some ⟨g,0,none⟩)))(hpl:p<w.heap.size)(hC:C<1000000)(hk:c.length<=1000)(hr:eW (V:Int) c=true) :
  Calls Tryz.prog 107 #[.slice (some ⟨w.heap.size,0,none⟩) c.length c.length,.pointer (some ⟨p,0,none⟩)] (w.alloc (.cells (iv c).toArray 3)) fun e w'=>e=.returned (.tuple #[])/\(∃D',fp w' g V (C+1) m D' n M/\∀b,D' b->D b\/w.heap.size<=b)/\ak D w w':=by
 obtain⟨cs,f,rv,Df,h,rfl⟩:=h;have hw:=(Below.refl _ w).alloc (pi _) (.cells (iv c).toArray 3);have h2:=h.below hw;have hp2:(w.alloc (.cells (iv c).toArray 3)).cell? ⟨p,0,none⟩=some (.pointer (some ⟨g,0,none⟩)):=(hw.cell (p:=⟨p,0,none⟩) hpl).trans hp;have hR:Reads (w.alloc (.cells (iv c).toArray 3)) (w.heap.size+1) 1 (some ⟨w.heap.size,0,none⟩) c.length (iv c):=by have:=(af.new w 3 (iv c).toArray).reads (xs:=iv c);simpa[fX]using this
 refine(QV (cap:=c.length) h2 hp2 hC hR aGn hk hr).mono ?_;rintro e w' ⟨rfl,⟨v,D',rv',Df',hg,hd⟩,hf⟩;refine⟨rfl,⟨D',⟨_,f,rv',Df',hg,aGn⟩,fun b hb=>(hd b hb).imp id fun hx=>?_⟩,(ak.cR hw).trans (hf.mono fun b hb=>h2.sub b hb)⟩;simp at hx;omega
end
set_option maxHeartbeats 1000000
variable{pb:Nat}{pa:Nat}
theorem ahl{w:World}{g V C m:Nat}{D:Nat->Prop}{n:Nat}{M:DataW Unit}(a b:Int)(h:fp w g V C m D n M)(hp:w.cell? ⟨p,0,none⟩=some (.pointer (some ⟨g,0,none⟩)))(ha:w.cell? ⟨pa,0,none⟩=some (.int .i64 a))(hb:w.cell? ⟨pb,0,none⟩=some (.int .i64 b))
  (hp1:p<w.heap.size/\¬D p) (ha1:pa<w.heap.size/\¬D pa) (hb1:pb<w.heap.size/\¬D pb) (hC:C<999990) (hV:1<=V/\V<=65536) (hoa:bK (V:Int) a=false) (hob:bK (V:Int) b=false) :
  Calls Tryz.prog 79 #[.int .i64 V,.func (.func 107) #[] #[.pointer (some ⟨p,0,none⟩)],.pointer (some ⟨pa,0,none⟩),.pointer (some ⟨pb,0,none⟩)] w fun e w'=>e=.returned (.tuple #[])/\(∃D',fp w' g V (C+3) m D' n M/\∀b,D' b->D b\/w.heap.size<=b)/\ak D w w':=by
 have hra:-65536<=a/\a<=65536:=by simp[bK]at hoa;omega
 have hrb:-65536<=b/\b<=65536:=by simp[bK]at hob;omega
 have r1:eW (V:Int) [-(V:Int),a]=true:=by simp[eW,hoa];simp[bK];omega
 have r2:eW (V:Int) [-(V:Int),b]=true:=by simp[eW,hob];simp[bK];omega
 have r3:eW (V:Int) [(V:Int),-a,-b]=true:=by simp[bK]at hoa hob;simp[eW,bK];omega
 have n1:=IntWalk.i64_in (-(V:Int)) ⟨aGl,aGl⟩;have n2:=IntWalk.i64_in (-a) ⟨aGl,aGl⟩;have n3:=IntWalk.i64_in (-b) ⟨aGl,aGl⟩;have c1:=qi [-(V:Int),a] h hp hp1.1 aGl aGn r1;have R2:=Lib.hid r2;have R3:=Lib.hid r3;clear r1 r2 r3 hoa hob
 go_enter Tryz.func79,Tryz.ntmps79
 go_wp2_with fail
 refine c1.mono ?_;rintro e w1 ⟨rfl,⟨D1,g1,d1⟩,f1⟩;have hs1:=f1.size;have hp2:=(f1.cell (p:=⟨p,0,none⟩) hp1.1 hp1.2).trans hp;have ha2:=(f1.cell (p:=⟨pa,0,none⟩) ha1.1 ha1.2).trans ha;have hb2:=(f1.cell (p:=⟨pb,0,none⟩) hb1.1 hb1.2).trans hb;have c2:=qi [-(V:Int),b] g1 hp2 aGl aGl aGn R2.out;have D1':=Lib.hid d1;have F1:=Lib.hid f1;clear c1 d1 f1 g1
 go_wp2_with fail
 refine c2.mono ?_;rintro e w2 ⟨rfl,⟨D2,g2,d2⟩,f2⟩;have hs2:=f2.size;have hp3:=(f2.cell (p:=⟨p,0,none⟩) (ro hp1.1 hs1) (fun hx=>(D1'.out _ hx).elim hp1.2 fun hy=>Or _ (ro hp1.1 hy))).trans hp2;have ha3:=(f2.cell (p:=⟨pa,0,none⟩) (ro ha1.1 hs1) (fun hx=>(D1'.out _ hx).elim ha1.2 fun hy=>Or _ (ro ha1.1 hy))).trans ha2;have hb3:=(f2.cell (p:=⟨pb,0,none⟩) (ro hb1.1 hs1) (fun hx=>(D1'.out _ hx).elim hb1.2 fun hy=>Or _ (ro hb1.1 hy))).trans hb2;have c3:=qi [(V:Int),-a,-b] g2 hp3 aGl aGl aGn R3.out;have D2':=Lib.hid d2;have F2:=Lib.hid f2;clear c2 d2 f2 g2 hp2 ha2 hb2
 go_wp2_with fail
 refine c3.mono ?_;rintro e w3 ⟨rfl,⟨D3,g3,d3⟩,f3⟩;have D3':=Lib.hid d3;have F3:=Lib.hid f3;have G3:=Lib.hid g3;clear c3 d3 f3 g3
 go_wp2_with fail
 have e2:∀b,D2 b->D b\/w.heap.size<=b:=fun b hb=>(D2'.out b hb).elim (D1'.out b) fun hx=>.inr aGl;have e3:∀b,D3 b->D b\/w.heap.size<=b:=fun b hb=>(D3'.out b hb).elim (e2 b) fun hx=>.inr aGl;exact⟨rfl,.tuple #[],results_none rfl _ _ _,rfl,⟨D3,G3.out,e3⟩,(F1.out.after F2.out D1'.out).after F3.out e2⟩
variable{x:Int}
theorem rC(h:-65536<=x/\x<=65536):(Lit.int .i64 x).wf=true:=by
 have h1:IntKind.i64.min = -9223372036854775808:=aGo
 have h2:IntKind.i64.max=9223372036854775807:=aGo
 simp only[Lit.wf,h1,h2,aFf,In];omega
theorem vm{c c':Int}(h:(DataW.lit (.int .i64 c):DataW H)=.lit (.int .i64 c')):c=c':=by cases h;rfl
theorem Fs{w:World}{m n:Nat}{M:DataW Unit}(h:pg w m n M){key:Value}{kl:Lit}(hk:keyOf Tryz.prog 147 key=some kl) :
  ∃c:Int,DataW.atKey M kl (.lit (.int .i64 0))=.lit (.int .i64 c)/\∀W:World,pg W m n M->(Instr.lookup 139 (.map (some m)) key true).run Tryz.prog W=.ok (.tuple #[.int .i64 c,.bool (Maps.has M kl)]) W:=by
 have hz:∀W:World,(zeroValue 3).run Tryz.prog W=.ok (.int .i64 0) W:=fun W=>Tryz.zeroValue3 W;have key1:∀W:World,pg W m n M->∃c:Int,(Instr.lookup 139 (.map (some m)) key true).run Tryz.prog W=.ok (.tuple #[.int .i64 c,.bool (Maps.has M kl)]) W/\DataW.atKey M kl (.lit (.int .i64 0))=.lit (.int .i64 c):=fun W hW=>by obtain⟨v,ps,hrun,hv⟩:=hW.look_ok rG Tryz.underlying139 (hz W) (plainElem_int Tryz.underlying3 (a:=0) aGo) hk;obtain⟨c,rfl,hc,_⟩:=plainElem_int_inv Tryz.underlying3 hv;exact⟨c,hrun,IT Prod.fst hc⟩
 obtain⟨c,_,hc⟩:=key1 w h;refine⟨c,hc,fun W hW=>?_⟩;obtain⟨c',hr,hc'⟩:=key1 W hW;have e:c=c':=by have h1:DataW.lit (.int .i64 c)=.lit (.int .i64 c'):=hc.symm.trans hc';exact vm h1
 subst e;exact hr
def j6(w:World)(g V C dV dC:Nat)(D:Nat->Prop)(w':World):Prop:=∃V' C' D',GD w' g V' C' D'/\V<=V'/\V'<=V+dV/\C<=C'/\C'<=C+dC/\(∀b,D' b->D b\/w.heap.size<=b)/\ak D w w'
theorem fp.put{w:World}{g V C m:Nat}{D:Nat->Prop}{n n':Nat}{M M':DataW Unit}(h:fp w g V C m D n M)(hm:pg w' m n' M')(hg:w.grownBy w' (some m))(hn:n'<=V)(hmb:∀kl c,DataW.atKey M' kl (.lit (.int .i64 0))=.lit (.int .i64 c)->0<=c/\c<=(V:Int)):fp w' g V C m D n' M':=by
 obtain⟨cs,f,rv,Df,h,e⟩:=h;have hf:ak (fun b=>b=m) w w':=(ak.refl _ w).grown hg fun b hb=>by injection hb with hb;exact hb.symm
 exact⟨cs,f,rv,Df,⟨hf.cC h.bx h.ne,h.fm.an hf fun b hb e=>h.nm (e▸hb),hm,hn,h.sub,h.ng,h.nm,h.dg,h.dm,fun b hb=>ro (h.lt b hb) hf.size,hmb⟩,e⟩
theorem Fq{w:World}{g V C m:Nat}{D:Nat->Prop}{n:Nat}{M:DataW Unit}(h:fp w g V C m D n M)(hV:V<65536):Calls Tryz.prog 33 #[.pointer (some ⟨g,0,none⟩)] w fun e w'=>e=.returned (.int .i64 ((V+1:Nat):Int))/\fp w' g (V+1) C m D n M/\ak D w w':=by obtain⟨cs,f,rv,Df,h,e⟩:=h;refine(Fx h hV).mono ?_;rintro _ w' ⟨rfl,h1,h2⟩;exact⟨rfl,⟨cs,f,rv,Df,h1,e⟩,h2.mono h.sub⟩
theorem vp{V:Nat}(h:bK (V:Int) x=false):bK ((V+1:Nat):Int) x=false:=by simp[bK]at h |-;omega
set_option maxHeartbeats 2000000
set_option maxRecDepth 20000
theorem Qx{w:World}{g V C:Nat}{D:Nat->Prop}(a b x y:Int)(h:GD w g V C D)(ha:w.cell? ⟨pa,0,none⟩=some (.int .i64 a))(hb:w.cell? ⟨pb,0,none⟩=some (.int .i64 b))
  (ha1:pa<w.heap.size/\¬D pa) (hb1:pb<w.heap.size/\¬D pb) (hC:C<999990) (hV:V<65536) (hoa:bK (V:Int) a=false) (hob:bK (V:Int) b=false) (hx:-65536<=x/\x<=65536) (hy:-65536<=y/\y<=65536) :
  Calls Tryz.prog 78 #[.pointer (some ⟨g,0,none⟩),.agg #[.int .i64 0,.int .i64 x,.int .i64 y,.int .i64 0,.string ByteArray.empty],.func (.func 79) #[] #[.pointer (some ⟨pa,0,none⟩),.pointer (some ⟨pb,0,none⟩)]] w fun e w'=>(∃r:Int,e=.returned (.int .i64 r)/\-65536<=r/\r<=65536)/\j6 w g V C 1 3 D w':=by
 obtain⟨cs,f,m,rv,Df,n,M,h,rfl⟩:=h;obtain⟨kl,hkl⟩:=F6 0 x y 0 ByteArray.empty aGo (rC hx) (rC hy) aGo aGo;have hcs:cs.length<999990:=hC;have hlt:=h.lt;have hb1':Below w.heap.size w (w.alloc (.cells #[.pointer (some ⟨g,0,none⟩)] 62)):=(Below.refl _ w).alloc (pi _) _;obtain⟨W,hW⟩:∃W,W=(w.alloc (.cells #[.pointer (some ⟨g,0,none⟩)] 62)).alloc (.cells #[.int .i64 0,.int .i64 x,.int .i64 y,.int .i64 0,.string ByteArray.empty] 147):=⟨_,rfl⟩;have hbW:Below w.heap.size w W:=by rw[hW];exact hb1'.alloc aGn _
 have hWs:W.heap.size=w.heap.size+2:=by rw[hW];simp
 have bp:af W w.heap.size 62 #[.pointer (some ⟨g,0,none⟩)]:=by rw[hW];exact(af.new w _ _).alloc _
 have bq:af W (w.heap.size+1) 147 #[.int .i64 0,.int .i64 x,.int .i64 y,.int .i64 0,.string ByteArray.empty]:=by rw[hW];have:=af.new (w.alloc (.cells #[.pointer (some ⟨g,0,none⟩)] 62)) 147 #[.int .i64 0,.int .i64 x,.int .i64 y,.int .i64 0,.string ByteArray.empty];simpa using this
 have hG:=h.below hbW;have haW:=(hbW.cell (p:=⟨pa,0,none⟩) ha1.1).trans ha;have hbW2:=(hbW.cell (p:=⟨pb,0,none⟩) hb1.1).trans hb;obtain⟨c,hck,hlook⟩:=Fs hG.mp hkl;have hcb:=hG.mb kl c hck;have hl:=hlook W.drew hG.drew.mp;have p0:=bp.drew.cell 0;have q0:=bq.drew.cell 0;have q1:=bq.drew.cell 1;have q2:=bq.drew.cell 2;have q3:=bq.drew.cell 3;have q4:=bq.drew.cell 4;have g1:=hG.drew.bx.cell 1;have GM:Hid (fp W g V cs.length m D n M):=⟨cs,f,rv,Df,hG,rfl⟩;have HLT:=Lib.hid hlt;have HBW:=Lib.hid hbW;have HWS:=Lib.hid hWs;have HBP:=Lib.hid bp;have HBQ:=Lib.hid bq;have HAW:=Lib.hid haW;have HBW2:=Lib.hid hbW2;have HKL:=Lib.hid hkl;have HW:=Lib.hid hW;have hgl:g<w.heap.size:=h.bx.lt;clear h hlt hbW hb1' hWs bp bq hG haW hbW2 hlook hkl hW;rcases hh:Maps.has M kl with _|_
 .rw[hh]at hl;clear hh;have hfr:=Fq (w:=W.drew) (GM.out.below (w':=W.drew) (Below.refl _ W).drew) hV
  go_enter Tryz.func78,Tryz.ntmps78
  go_wp2_with fail
  rw[<-HW.out];clear HW
  go_region
  clear hl q0 q1 q2 q3 q4 g1
  go_wp2_with fail
  refine hfr.mono ?_;rintro e w2 ⟨rfl,h2,f2⟩;have hs2:W.heap.size<=w2.heap.size:=f2.size;have hWs:=HWS.out;have dp:¬D w.heap.size:=fun hx=>Or _ (HLT.out _ hx);have dq:¬D (w.heap.size+1):=fun hx=>by have:=HLT.out _ hx;omega
  have p2:=f2.cC HBP.out.drew dp;have q2:=f2.cC HBQ.out.drew dq;have p0:=p2.drew.cell 0;have q0:=q2.drew.cell 0;have q1:=q2.drew.cell 1;have qq:=q2.drew.cell 2;have q3:=q2.drew.cell 3;have q4:=q2.drew.cell 4;have ha2:=(f2.cell (p:=⟨pa,0,none⟩) (by show pa<W.heap.size;omega) ha1.2).trans HAW.out;have hb2:=(f2.cell (p:=⟨pb,0,none⟩) (by show pb<W.heap.size;omega) hb1.2).trans HBW2.out;obtain⟨cs2,f',rv2,Df2,h2,e2⟩:=h2;have g1:=h2.bx.drew.cell 1;have hmp:pg w2.drew m n M:=h2.drew.mp;have hn2:n<=V:=GM.out.elim fun _ h=>h.elim fun _ h=>h.elim fun _ h=>h.elim fun _ h=>h.1.hn;have H2:Hid (fp w2.drew g (V+1) cs.length m D n M):=⟨cs2,f',rv2,Df2,h2.drew,e2⟩;have P2:=Lib.hid p2;have HA2:=Lib.hid ha2;have HB2:=Lib.hid hb2;have F2:=Lib.hid f2;clear hfr h2 e2 p2 q2 ha2 hb2 f2 dp dq;have e1:((V+1:Nat):Int)≠0:=aGl
  have e1':(((V+1:Nat):Int) == 0)=false:=pu.2 e1;obtain⟨v,hv⟩:∃v:Int,v=((V+1:Nat):Int):=⟨_,rfl⟩;rw[<-hv]at e1' |-;have HVV:=Lib.hid hv;have hvw:(Lit.int .i64 v).wf=true:=rC ⟨aGl,aGl⟩;clear hv e1
  go_wp2_with fail
  go_still_tail 6,aGm
  change wpList _ _ _ _ _ w2.drew
  go_wp2_with (at_mapUpdate;refine wpList_mapUpdate_own _ rfl _ _ _ 139 rfl 147 3 rG Tryz.underlying139 (plainElem Tryz.prog 3) m n M rfl hmp (by unfold maxLen;omega) _ _ kl rfl rfl HKL.out (.lit (.int .i64 v)) [] (plainElem_int Tryz.underlying3 hvw) ?_;intro w3 hm3 hg3)
  have hF3:ak (fun b=>b=m) w2.drew w3:=(ak.refl _ w2.drew).grown hg3 fun b hb=>by injection hb with hb;exact hb.symm
  have hD3:=H2.out.put hm3 hg3 aGl (fun k2 c2 e2=>by
   by_cases hk2:k2=kl
   .subst hk2;rw[atKey_put_same hmp.isMap (rG.key HKL.out)]at e2;have:=vm e2;have:=HVV.out;omega
   .rw[atKey_put_other hk2]at e2;have:0<=c2/\c2<=(V:Int):=GM.out.elim fun _ h=>h.elim fun _ h=>h.elim fun _ h=>h.elim fun _ h=>h.1.mb k2 c2 e2;omega)
  have dm:D m:=GM.out.elim fun _ h=>h.elim fun _ h=>h.elim fun _ h=>h.elim fun _ h=>h.1.dm;have hml:=HLT.out m dm;have hs3:w2.heap.size<=w3.heap.size:=hF3.size;have hp3:=(hF3.cC P2.out.drew aGl).cell 0;have ha3:=(hF3.cell (p:=⟨pa,0,none⟩) (by show pa<w2.heap.size;omega) (fun e=>ha1.2 (by have e:pa=m:=e;rw[e];exact dm))).trans HA2.out;have hb3:=(hF3.cell (p:=⟨pb,0,none⟩) (by show pb<w2.heap.size;omega) (fun e=>hb1.2 (by have e:pb=m:=e;rw[e];exact dm))).trans HB2.out;have h1:=ahl a b hD3 hp3 ha3 hb3 ⟨aGl,fun hx=>Or _ (HLT.out _ hx)⟩ ⟨aGl,ha1.2⟩ ⟨aGl,hb1.2⟩ aGl ⟨aGl,aGl⟩ (vp hoa) (vp hob);rw[<-HVV.out]at h1;have F3:=Lib.hid hF3;have DM:=Lib.hid dm;clear hD3 hp3 ha3 hb3 hF3 hm3 hg3 hmp dm;refine h1.mono ?_;rintro e w4 ⟨rfl,⟨D4,h4,d4⟩,f4⟩;have H4:=Lib.hid h4;have D4':=Lib.hid d4;have F4:=Lib.hid f4;clear h1 h4 d4 f4
  go_wp2_with fail
  go_ret
  have f24:ak D W.drew w2.drew:=F2.out.drew;have f34:ak D W.drew w3:=f24.trans (F3.out.mono fun b hb=>by rw[hb];exact DM.out);refine⟨⟨v,rfl,by have:=HVV.out;omega,by have:=HVV.out;omega⟩,V+1,cs.length+3,D4,H4.out.gd,aGl,pi _,aGl,pi _,fun b hb=>(D4'.out b hb).imp id fun hx=>aGl,?_⟩;exact(ak.cR HBW.out).trans ((ak.refl D W).drew.trans (f34.trans F4.out))
 .rw[hh]at hl;clear hh
  go_enter Tryz.func78,Tryz.ntmps78
  go_wp2_with fail
  rw[<-HW.out];clear HW
  go_region
  all_goals (
   go_wp2_with fail
   go_ret
   exact⟨⟨c,rfl,aGl,aGl⟩,V,cs.length,D,GM.out.gd.an (D':=fun _=>False) (ak.refl _ W).drew (fun _ _ h=>h),pi _,aGl,pi _,aGl,fun b hb=>.inl hb,(ak.cR HBW.out).drew⟩)
variable{dC:Nat}{dV:Nat}
theorem j6.pre{w w1:World}{g V C:Nat}{D:Nat->Prop}(hb:Below w.heap.size w w1)(h:j6 w1 g V C dV dC D w'):j6 w g V C dV dC D w':=by obtain⟨V',C',D',h1,h2,h3,h4,h5,h6,h7⟩:=h;exact⟨V',C',D',h1,h2,h3,h4,h5,fun b hx=>(h6 b hx).imp id fun hy=>rt hb.size hy,(ak.cR hb).trans h7⟩
theorem j6.same{w:World}{g V C:Nat}{D:Nat->Prop}(h:GD w g V C D)(hb:Below w.heap.size w w'):j6 w g V C dV dC D w':=⟨V,C,D,h.below hb,pi _,aGi _ _,pi _,aGi _ _,fun b hx=>.inl hx,.cR hb⟩
theorem QU{w:World}{g V C:Nat}{D:Nat->Prop}(a b:Int)(h:GD w g V C D)(hC:C<999990)(hV:V<65536)(ha:-65536<=a/\a<=65536)(hb:-65536<=b/\b<=65536) :
  Calls Tryz.prog 42 #[.pointer (some ⟨g,0,none⟩),.int .i64 a,.int .i64 b] w fun e w'=>(∃r:Int,e=.returned (.int .i64 r)/\-65536<=r/\r<=65536)/\j6 w g V C 1 3 D w':=by
 have hlt:∀b,D b->b<w.heap.size:=by obtain⟨_,_,_,_,_,_,_,h,_⟩:=h;exact h.lt
 obtain⟨W,hW⟩:∃W,W=((w.alloc (.cells #[.int .i64 a] 3)).alloc (.cells #[.int .i64 b] 3)).alloc (.cells #[.int .i64 a,.int .i64 b] 3):=⟨_,rfl⟩;have hb1:Below w.heap.size w (w.alloc (.cells #[.int .i64 a] 3)):=(Below.refl _ w).alloc (pi _) _;have hbW:Below w.heap.size w W:=by rw[hW];exact(hb1.alloc aGn _).alloc (by simp;omega) _
 have hWs:W.heap.size=w.heap.size+3:=by rw[hW];simp
 have bpa:af W w.heap.size 3 #[.int .i64 a]:=by rw[hW];exact((af.new w _ _).alloc _).alloc _
 have bpb:af W (w.heap.size+1) 3 #[.int .i64 b]:=by rw[hW];have:=(af.new (w.alloc (.cells #[.int .i64 a] 3)) 3 #[.int .i64 b]).alloc (.cells #[.int .i64 a,.int .i64 b] 3);simpa using this
 have hR:Reads W (w.heap.size+3) 1 (some ⟨w.heap.size+2,0,none⟩) 2 (iv [a,b]):=by have:=(af.new ((w.alloc (.cells #[.int .i64 a] 3)).alloc (.cells #[.int .i64 b] 3)) 3 #[.int .i64 a,.int .i64 b]).reads (xs:=iv [a,b]);rw[hW];simpa[iv]using this
 have hG:=h.below hbW;obtain⟨cs,f,m,rv,Df,n,M,hGB,hcs⟩:=hG;have hfi:=tF (cap:=2) hGB hR aGl aGl (fun i hi=>by
  rcases i with _|_|i
  .simpa using ha
  .simpa using hb
  .omega)
 have GM:Hid (GD W g V C D):=⟨cs,f,m,rv,Df,n,M,hGB,hcs⟩;have HW:=Lib.hid hW;have HBW:=Lib.hid hbW;have HPA:=Lib.hid bpa;have HPB:=Lib.hid bpb;have HLT:=Lib.hid hlt;have HH:=Lib.hid h;clear h hGB hcs hR bpa bpb hbW hb1 hW hlt;obtain⟨ok,bw⟩:∃ok,ok = !([a,b].any (gg V)):=⟨_,rfl⟩;rw[<-bw]at hfi;rcases ok with _|_
 .clear bw
  go_enter Tryz.func42,Tryz.ntmps42
  go_wp2_with fail
  rw[<-HW.out];refine hfi.mono ?_;rintro e w2 ⟨rfl,hb2⟩;have HB2:=Lib.hid hb2;clear hfi hb2
  go_wp2_with fail
  go_ret
  exact⟨⟨0,rfl,aGl,aGl⟩,.same HH.out (HBW.out.trans (HB2.out.mono HBW.out.size))⟩
 .have hab:gg V a=false/\gg V b=false:=by simp at bw;exact bw
  have hoa:bK (V:Int) a=false:=by have:=hab.1;simp[gg]at this;simp[bK];omega
  have hob:bK (V:Int) b=false:=by have:=hab.2;simp[gg]at this;simp[bK];omega
  clear bw hab;have n1:=IntWalk.i64_in (-b) ⟨aGl,aGl⟩;rcases(show a = -1\/(a≠-1/\b = -1)\/(a≠-1/\b≠-1/\a = -b)\/(a≠-1/\b≠-1/\a≠-b/\a=1)\/(a≠-1/\b≠-1/\a≠-b/\a≠1/\a=b)\/(a≠-1/\b≠-1/\a≠-b/\a≠1/\a≠b/\b=1)\/(a≠-1/\b≠-1/\a≠-b/\a≠1/\a≠b/\b≠1) by omega)with h1|⟨h1,h2⟩|⟨h1,h2,h3⟩|⟨h1,h2,h3,h4⟩|⟨h1,h2,h3,h4,h5⟩|⟨h1,h2,h3,h4,h5,h6⟩|⟨h1,h2,h3,h4,h5,h6⟩
  .have d1:(a == -1)=true:=aFc.2 h1;clear h1
   go_enter Tryz.func42,Tryz.ntmps42
   go_wp2_with fail
   rw[<-HW.out];refine hfi.mono ?_;rintro e w2 ⟨rfl,hb2⟩;have pa0:=(HPA.out.below hb2 aGl).cell 0;have pb0:=(HPB.out.below hb2 aGl).cell 0;have HB2:=Lib.hid hb2;clear hfi hb2
   go_wp2_with fail
   go_ret
   exact⟨⟨-1,rfl,aGl,aGl⟩,.same HH.out (HBW.out.trans (HB2.out.mono HBW.out.size))⟩
  .have d1:(a == -1)=false:=pu.2 h1;have d2:(b == -1)=true:=aFc.2 h2;clear h1 h2
   go_enter Tryz.func42,Tryz.ntmps42
   go_wp2_with fail
   rw[<-HW.out];refine hfi.mono ?_;rintro e w2 ⟨rfl,hb2⟩;have pa0:=(HPA.out.below hb2 aGl).cell 0;have pb0:=(HPB.out.below hb2 aGl).cell 0;have HB2:=Lib.hid hb2;clear hfi hb2
   go_wp2_with fail
   go_ret
   exact⟨⟨-1,rfl,aGl,aGl⟩,.same HH.out (HBW.out.trans (HB2.out.mono HBW.out.size))⟩
  .have d1:(a == -1)=false:=pu.2 h1;have d2:(b == -1)=false:=pu.2 h2;have d3:(a == -b)=true:=aFc.2 h3;clear h1 h2 h3
   go_enter Tryz.func42,Tryz.ntmps42
   go_wp2_with fail
   rw[<-HW.out];refine hfi.mono ?_;rintro e w2 ⟨rfl,hb2⟩;have pa0:=(HPA.out.below hb2 aGl).cell 0;have pb0:=(HPB.out.below hb2 aGl).cell 0;have HB2:=Lib.hid hb2;clear hfi hb2
   go_wp2_with fail
   go_ret
   exact⟨⟨-1,rfl,aGl,aGl⟩,.same HH.out (HBW.out.trans (HB2.out.mono HBW.out.size))⟩
  .have d1:(a == -1)=false:=pu.2 h1;have d2:(b == -1)=false:=pu.2 h2;have d3:(a == -b)=false:=pu.2 h3;have d4:(a == 1)=true:=aFc.2 h4;clear h1 h2 h3 h4
   go_enter Tryz.func42,Tryz.ntmps42
   go_wp2_with fail
   rw[<-HW.out];refine hfi.mono ?_;rintro e w2 ⟨rfl,hb2⟩;have pa0:=(HPA.out.below hb2 aGl).cell 0;have pb0:=(HPB.out.below hb2 aGl).cell 0;have HB2:=Lib.hid hb2;clear hfi hb2
   go_wp2_with fail
   go_ret
   exact⟨⟨b,rfl,aGl,aGl⟩,.same HH.out (HBW.out.trans (HB2.out.mono HBW.out.size))⟩
  .have d1:(a == -1)=false:=pu.2 h1;have d2:(b == -1)=false:=pu.2 h2;have d3:(a == -b)=false:=pu.2 h3;have d4:(a == 1)=false:=pu.2 h4;have d5:(a == b)=true:=aFc.2 h5;clear h1 h2 h3 h4 h5
   go_enter Tryz.func42,Tryz.ntmps42
   go_wp2_with fail
   rw[<-HW.out];refine hfi.mono ?_;rintro e w2 ⟨rfl,hb2⟩;have pa0:=(HPA.out.below hb2 aGl).cell 0;have pb0:=(HPB.out.below hb2 aGl).cell 0;have HB2:=Lib.hid hb2;clear hfi hb2
   go_wp2_with fail
   go_ret
   exact⟨⟨b,rfl,aGl,aGl⟩,.same HH.out (HBW.out.trans (HB2.out.mono HBW.out.size))⟩
  .have d1:(a == -1)=false:=pu.2 h1;have d2:(b == -1)=false:=pu.2 h2;have d3:(a == -b)=false:=pu.2 h3;have d4:(a == 1)=false:=pu.2 h4;have d5:(a == b)=false:=pu.2 h5;have d6:(b == 1)=true:=aFc.2 h6;clear h1 h2 h3 h4 h5 h6
   go_enter Tryz.func42,Tryz.ntmps42
   go_wp2_with fail
   rw[<-HW.out];refine hfi.mono ?_;rintro e w2 ⟨rfl,hb2⟩;have pa0:=(HPA.out.below hb2 aGl).cell 0;have pb0:=(HPB.out.below hb2 aGl).cell 0;have HB2:=Lib.hid hb2;clear hfi hb2
   go_wp2_with fail
   go_ret
   exact⟨⟨a,rfl,aGl,aGl⟩,.same HH.out (HBW.out.trans (HB2.out.mono HBW.out.size))⟩
  .rcases Int.lt_or_gt_of_ne h5 with hlt|hlt
   .have hnl:=aFL.2 (aFe hlt);have d1:(a == -1)=false:=pu.2 h1;have d2:(b == -1)=false:=pu.2 h2;have d3:(a == -b)=false:=pu.2 h3;have d4:(a == 1)=false:=pu.2 h4;have d5:(a == b)=false:=pu.2 h5;have d6:(b == 1)=false:=pu.2 h6;clear h1 h2 h3 h4 h5 h6
    go_enter Tryz.func42,Tryz.ntmps42
    go_wp2_with fail
    rw[<-HW.out];refine hfi.mono ?_;rintro e w2 ⟨rfl,hb2⟩;have pa0:=(HPA.out.below hb2 aGl).cell 0;have pb0:=(HPB.out.below hb2 aGl).cell 0;have HB2:=Lib.hid hb2;clear hfi hb2
    go_wp2_with fail
    have hg:=fun x y hx hy=>Qx (w:=w2) a b x y (GM.out.below (HB2.out)) pa0 pb0 ⟨by have:=HB2.out.size;omega,fun hx=>Or _ (HLT.out _ hx)⟩ ⟨by have:=HB2.out.size;omega,fun hx=>by have:=HLT.out _ hx;omega⟩ hC hV hoa hob hx hy;refine(hg _ _ ha hb).mono ?_;rintro e w3 ⟨⟨r,rfl,hr⟩,h3⟩;have H3:=Lib.hid h3;clear h3 hg
    go_wp2_with fail
    go_ret
    exact⟨⟨r,rfl,hr⟩,H3.out.pre (HBW.out.trans (HB2.out.mono HBW.out.size))⟩
   .have hnl:=aFL.2 (aFe hlt);have d1:(a == -1)=false:=pu.2 h1;have d2:(b == -1)=false:=pu.2 h2;have d3:(a == -b)=false:=pu.2 h3;have d4:(a == 1)=false:=pu.2 h4;have d5:(a == b)=false:=pu.2 h5;have d6:(b == 1)=false:=pu.2 h6;clear h1 h2 h3 h4 h5 h6
    go_enter Tryz.func42,Tryz.ntmps42
    go_wp2_with fail
    rw[<-HW.out];refine hfi.mono ?_;rintro e w2 ⟨rfl,hb2⟩;have pa0:=(HPA.out.below hb2 aGl).cell 0;have pb0:=(HPB.out.below hb2 aGl).cell 0;have HB2:=Lib.hid hb2;clear hfi hb2
    go_wp2_with fail
    have hg:=fun x y hx hy=>Qx (w:=w2) a b x y (GM.out.below (HB2.out)) pa0 pb0 ⟨by have:=HB2.out.size;omega,fun hx=>Or _ (HLT.out _ hx)⟩ ⟨by have:=HB2.out.size;omega,fun hx=>by have:=HLT.out _ hx;omega⟩ hC hV hoa hob hx hy;refine(hg _ _ hb ha).mono ?_;rintro e w3 ⟨⟨r,rfl,hr⟩,h3⟩;have H3:=Lib.hid h3;clear h3 hg
    go_wp2_with fail
    go_ret
    exact⟨⟨r,rfl,hr⟩,H3.out.pre (HBW.out.trans (HB2.out.mono HBW.out.size))⟩
theorem aiy(w:World):Calls Tryz.prog 30 #[] w fun e w'=>∃g D,e=.returned (.pointer (some ⟨g,0,none⟩))/\GD w' g 1 1 D/\(∀b,D b->w.heap.size<=b)/\Below w.heap.size w w':=by
 have hmm:=@run_makeMap Tryz.prog;have h1:=ag5 w 1 aGl
 go_enter Tryz.func30,Tryz.ntmps30
 go_wp2_with fail
 refine h1.mono ?_;rintro e w1 ⟨rfl,hf,hb1⟩;have hfl:=hf.bx.lt;have hf1:FD w1 w.heap.size 1 [] (fun b=>b=w.heap.size) (.slice none 0 0):=⟨hf.bx,hf.row,hf.hV,rfl,fun b hb=>by simp[Value.ownBlock]at hb,fun p hp=>by simp at hp,aGn⟩;obtain⟨W,hW⟩:∃W,W=((w1.alloc (.map #[] 0)).alloc (.cells #[.pointer (some ⟨w.heap.size,0,none⟩),.map (some w1.heap.size),.bool false] 141)).alloc (.cells #[.int .i64 1] 3):=⟨_,rfl⟩;have hbW:Below w1.heap.size w1 W:=by rw[hW];exact(((Below.refl _ w1).alloc (pi _) _).alloc aGn _).alloc (by simp;omega) _
 have hWs:W.heap.size=w1.heap.size+3:=by rw[hW];simp
 have bg:af W (w1.heap.size+1) 141 #[.pointer (some ⟨w.heap.size,0,none⟩),.map (some w1.heap.size),.bool false]:=by rw[hW];have:=(af.new (w1.alloc (.map #[] 0)) 141 #[.pointer (some ⟨w.heap.size,0,none⟩),.map (some w1.heap.size),.bool false]).alloc (.cells #[.int .i64 1] 3);simpa using this
 have hm:pg W w1.heap.size 0 (.map []):=by rw[hW];exact((World.ownsMap_made w1 _ _ _).alloc _).alloc _
 have hR:Reads W (w1.heap.size+3) 1 (some ⟨w1.heap.size+2,0,none⟩) 1 (iv [1]):=by have:=(af.new ((w1.alloc (.map #[] 0)).alloc (.cells #[.pointer (some ⟨w.heap.size,0,none⟩),.map (some w1.heap.size),.bool false] 141)) 3 #[.int .i64 1]).reads (xs:=iv [1]);rw[hW];simpa[iv]using this
 have hGB:GB W (w1.heap.size+1) 1 [] (fun b=>w.heap.size<=b/\b<W.heap.size) w.heap.size w1.heap.size (.slice none 0 0) (fun b=>b=w.heap.size) 0 (.map []):=⟨bg,hf1.below hbW,hm,aGl,fun b hb=>by subst hb;omega,fun e=>aGl,fun e=>aGl,aGl,aGl,fun b hb=>hb.2,fun kl c e=>by have e:(DataW.lit (.int .i64 0):DataW Unit)=.lit (.int .i64 c):=e;have:=vm e;omega⟩;have hadd:=FB (cap:=1) hGB.fm aGn (fun b hb=>by subst hb;omega) hR aGl aGl aGo;have HG:=Lib.hid hGB;have HW:=Lib.hid hW;have HWS:=Lib.hid hWs;have HBW:=Lib.hid hbW;have HB1:=Lib.hid hb1;clear hf hf1 hbW hWs bg hm hR hGB hW hb1 h1
 go_wp2_with fail
 rw[<-HW.out];refine hadd.mono ?_;rintro e w2 ⟨rfl,⟨v,D',rv',hf2,hd2,hlt2⟩,hfr2⟩;have HF2:=Lib.hid hf2;have HD2:=Lib.hid hd2;have HL2:=Lib.hid hlt2;have HR2:=Lib.hid hfr2;clear hadd hf2 hd2 hlt2 hfr2
 go_wp2_with fail
 go_ret
 have hs1:=HB1.out.size;have hws:=HWS.out;have hg:=HG.out.form HF2.out HR2.out (pi _) HD2.out HL2.out;refine⟨_,_,rfl,⟨_,_,_,_,_,_,_,hg,aGn⟩,fun b hb=>hb.elim (fun hx=>hx.1) fun hx=>(HD2.out b hx).elim (fun e=>aGl) fun hy=>aGl,?_⟩;exact HB1.out.trans ((HBW.out.mono hs1).trans (HR2.out.below aGl fun b hb=>aGl))
