import Derived.Test.YtbbhihkocghhaaaKGb
import Derived.Maps.OwnSet
import Derived.DeepKeys4
import Derived.StillTailTactics
set_option linter.all false
section
namespace Go.Proofs.Ytbbhihkocghhaaa
open Go Go.RowKit Go.Maps
theorem JR:Keyed Try.prog 114:=Keyed.of_law (deep_law_laid laidOut (m:=2) acs (WF acu) acu acu)
theorem Ss(d:Nat)(k a b c:Int)(s:ByteArray)(hk:(Lit.int .i64 k).wf=true)(ha:(Lit.int .i64 a).wf=true)(hb:(Lit.int .i64 b).wf=true)(hc:(Lit.int .i64 c).wf=true)(hs:s.size<=maxLen) :
  Try.prog.keyLits (d+2) 114 [.int .i64 k,.int .i64 a,.int .i64 b,.int .i64 c,.string s]=some [.int .i64 k,.int .i64 a,.int .i64 b,.int .i64 c,.string s.data.toList]:=by
 have h2:Try.prog.cellsOf 114=5:=acu
 have h3:Try.prog.cellsOf 3=1:=acu
 have h4:Try.prog.cellsOf 9=1:=acu
 simp[Program.keyLits,Try.underlying114,Try.underlying3,Try.underlying9,h2,h3,h4,hk,ha,hb,hc,hs]
theorem VO(k a b c:Int)(s:ByteArray)(hk:(Lit.int .i64 k).wf=true)(ha:(Lit.int .i64 a).wf=true)(hb:(Lit.int .i64 b).wf=true)(hc:(Lit.int .i64 c).wf=true)(hs:s.size<=maxLen) :
  ∃l,keyOf Try.prog 114 (.agg #[.int .i64 k,.int .i64 a,.int .i64 b,.int .i64 c,.string s])=some l:=by
 have h1:Try.prog.keyType 114=true:=acu
 have h2:Try.prog.cellsOf 114=5:=acu
 unfold keyOf;rw[Try.underlying114];simp[h1,Value.formed,Try.underlying114,h2,Value.cells];exact⟨_,_,Ss _ k a b c s hk ha hb hc hs,rfl⟩
variable{H:Type}{w':World}
theorem aU.map{D:Nat->Prop}{w:World}{k:TypeId}{R:Value->Option (DataW H×List MemPlace)}{b n:Nat}{M:DataW H}(h:aU D w w')(hm:w.ownsMap Try.prog k R b n M)(hn:¬D b):w'.ownsMap Try.prog k R b n M:=by have hlt:=hm.lt;obtain⟨es,clock,hb,r⟩:=hm;exact⟨es,clock,(h.block b hlt hn).trans hb,r⟩
variable{D':Nat->Prop}
theorem aU.mono{D:Nat->Prop}{w:World}(h:aU D w w')(hd:∀b,D b->D' b):aU D' w w':=⟨h.os,h.tape,h.output,h.size,fun b hb hn=>h.block b hb fun hx=>hn (hd b hx)⟩
abbrev ou(w:World)(m n:Nat)(M:DataW Unit):Prop:=w.ownsMap Try.prog 114 (plainElem Try.prog 3) m n M
structure GB(w:World)(g V:Nat)(cs:List (Value×io))(D:Nat->Prop)(f m:Nat)(rv:Value)(Df:Nat->Prop)(n:Nat)(M:DataW Unit):Prop where
 bx:av w g 58 #[.pointer (some ⟨f,0,none⟩),.map (some m),.bool false]
 fm:FD w f V cs Df rv
 mp:ou w m n M
 hn:n<=V
 sub:∀b,Df b->D b
 ng:¬Df g
 nm:¬Df m
 dg:D g
 dm:D m
 lt:∀b,D b->b<w.heap.size
def GD(w:World)(g V C:Nat)(D:Nat->Prop):Prop:=∃cs f m rv Df n M,GB w g V cs D f m rv Df n M/\cs.length=C
theorem GB.ax{w:World}{g V:Nat}{cs:List (Value×io)}{D:Nat->Prop}{f m:Nat}{rv:Value}{Df:Nat->Prop}{n:Nat}{M:DataW Unit}(h:GB w g V cs D f m rv Df n M)(hf:aU D' w w')(hd:∀b,D b->¬D' b):GB w' g V cs D f m rv Df n M:=⟨hf.fD h.bx (hd _ h.dg),h.fm.ax hf fun b hb=>hd b (h.sub b hb),hf.map h.mp (hd _ h.dm),h.hn,h.sub,h.ng,h.nm,h.dg,h.dm,fun b hb=>rg (h.lt b hb) hf.size⟩
theorem GD.ax{w:World}{g V C:Nat}{D:Nat->Prop}(h:GD w g V C D)(hf:aU D' w w')(hd:∀b,D b->¬D' b):GD w' g V C D:=by obtain⟨cs,f,m,rv,Df,n,M,h,e⟩:=h;exact⟨cs,f,m,rv,Df,n,M,h.ax hf hd,e⟩
theorem GD.below{w:World}{g V C:Nat}{D:Nat->Prop}(h:GD w g V C D)(hb:Below w.heap.size w w'):GD w' g V C D:=h.ax (D':=fun _=>False) (.gj hb) (fun _ _ h=>h)
theorem GB.below{w:World}{g V:Nat}{cs:List (Value×io)}{D:Nat->Prop}{f m:Nat}{rv:Value}{Df:Nat->Prop}{n:Nat}{M:DataW Unit}(h:GB w g V cs D f m rv Df n M)(hb:Below w.heap.size w w'):GB w' g V cs D f m rv Df n M:=h.ax (D':=fun _=>False) (.gj hb) (fun _ _ h=>h)
theorem GB.drew{w:World}{g V:Nat}{cs:List (Value×io)}{D:Nat->Prop}{f m:Nat}{rv:Value}{Df:Nat->Prop}{n:Nat}{M:DataW Unit}(h:GB w g V cs D f m rv Df n M):GB w.drew g V cs D f m rv Df n M:=h.ax (D':=fun _=>False) (aU.refl _ _).drew (fun _ _ h=>h)
theorem GB.ne{w:World}{g V:Nat}{cs:List (Value×io)}{D:Nat->Prop}{f m:Nat}{rv:Value}{Df:Nat->Prop}{n:Nat}{M:DataW Unit}(h:GB w g V cs D f m rv Df n M):g≠m:=by rintro rfl;obtain⟨es,clock,hb,_⟩:=h.mp;have:=h.bx;unfold av at this;rw[hb]at this;cases this
theorem GB.form{w:World}{g V V':Nat}{cs cs':List (Value×io)}{D:Nat->Prop}{f m:Nat}{rv rv':Value}{Df Df':Nat->Prop}{n:Nat}{M:DataW Unit}(h:GB w g V cs D f m rv Df n M)(hf:FD w' f V' cs' Df' rv')(hfr:aU Df w w')(hV:V<=V')(hd:∀b,Df' b->Df b\/w.heap.size<=b)(hlt:∀b,Df' b->b<w'.heap.size) :
  GB w' g V' cs' (fun b=>D b\/Df' b) f m rv' Df' n M:=
 ⟨hfr.fD h.bx h.ng,hf,hfr.map h.mp h.nm,pp h.hn hV,fun b hb=>.inr hb,fun hb=>(hd _ hb).elim h.ng fun h2=>by have:=h.bx.lt;omega,fun hb=>(hd _ hb).elim h.nm fun h2=>by have:=h.mp.lt;omega,.inl h.dg,.inl h.dm,fun b hb=>hb.elim (fun hx=>rg (h.lt b hx) hfr.size) (hlt b)⟩
set_option maxHeartbeats 800000
variable{A:lc}{u:Value}{cap:Nat}{c:io}{B:Nat}{bad:Int->Bool}
theorem T9{w:World}{n:Nat}(hcon:∀i,i<n->Calls Try.prog 72 #[.int .i64 (c.getD i 0),u] w fun e w'=>e=.returned (.bool (bad (c.getD i 0)))/\w=w')(hR:Reads w B 1 A n (iv c))(hn:n<=1000) :
  Calls Try.prog 84 #[.slice A n cap,.func (.func 72) #[] #[u]] w fun e w'=>∃k:Int,e=.returned (.int .i64 k)/\(decide (0<=k)=c.any bad)/\w=w':=by
 have hl:c.length=n:=by have:=hR.1;rw[vg]at this;omega
 go_enter Try.func84,Try.ntmps84
 go_wp2_with fail
 go_loopw [8] (fun x wr=>∃j:Nat,x=.int .i64 j/\j<=n/\(∀i,i<j->bad (c.getD i 0)=false)/\w=wr) (fun x _=>n-(intOf x).toNat)
 case atStart=>exact⟨0,rfl,acs,fun i hi=>absurd hi acs,rfl⟩
 case round=>
  obtain⟨j,rfl,hj,hall,rfl⟩:=hrel;by_cases hlt:j<n
  .obtain⟨b,off,rfl,_,hc⟩:=hR.pE hlt;have hcj:=hcon j hlt;obtain⟨x,hx⟩:∃x,x=c.getD j 0:=⟨_,rfl⟩;rw[<-hx]at hc hcj;have HX:=Lib.hid hx;have HA:=Lib.hid hall;have HL:=Lib.hid hl;clear hall hR hl hcon hx;rcases ho:bad x with _|_
   .rw[ho]at hcj;have HO:=Lib.hid ho;clear ho
    go_wp2_with fail
    refine hcj.mono ?_;rintro e w' ⟨rfl,rfl⟩
    go_wp2_with fail
    go_roundw
    case rel=>
     refine⟨j+1,by go_num,acs,fun i hi=>?_,trivial⟩;rcases rt i j with h|h
     .exact HA.out i h
     .obtain rfl:i=j:=acs
      rw[<-HX.out];exact HO.out
    case measure=>simp[intOf];omega
   .rw[ho]at hcj;have HO:=Lib.hid ho;clear ho
    go_wp2_with fail
    refine hcj.mono ?_;rintro e w' ⟨rfl,rfl⟩
    go_wp2_with fail
    go_ret
    refine⟨j,rfl,?_,rfl⟩;rw[show decide ((0:Int)<=(j:Int))=true by simp];refine(abf.2 ⟨x,?_,HO.out⟩).symm;rw[HX.out,gC,bF (by rw[HL.out];exact hlt)];exact AT _
  .have HR:Hid (c.any bad=false):=by
    have:c.any bad=false:=acl.2 fun x hx=>by obtain⟨i,hi,rfl⟩:=List.getElem_of_mem hx;have:=hall i acs;rw[gC,bF hi]at this;simpa using this
    exact this
   clear hall hR hl hcon
   go_wp2_with fail
   go_ret
   exact⟨-1,rfl,by rw[HR.out];rfl,rfl⟩
theorem Sq{w:World}{n:Nat}(hcon:∀i,i<n->Calls Try.prog 72 #[.int .i64 (c.getD i 0),u] w fun e w'=>e=.returned (.bool (bad (c.getD i 0)))/\w=w')(hR:Reads w B 1 A n (iv c))(hn:n<=1000) :
  Calls Try.prog 69 #[.slice A n cap,.func (.func 72) #[] #[u]] w fun e w'=>e=.returned (.bool (c.any bad))/\w=w':=by
 have hf:=T9 (cap:=cap) hcon hR hn;clear hR hcon
 go_enter Try.func69,Try.ntmps69
 go_wp2_with fail
 refine hf.mono ?_;rintro e w' ⟨k,rfl,hk,rfl⟩;have HK:=Lib.hid hk;clear hk
 go_wp2_with fail
 go_ret
 exact⟨lK HK.out,rfl⟩
section
variable{w:World}{g V:Nat}{cs:List (Value×io)}{D:Nat->Prop}{f m:Nat}{rv:Value}{Df:Nat->Prop}{n:Nat}{M:DataW Unit}
theorem UY(h:GB w g V cs D f m rv Df n M):Calls Try.prog 18 #[.pointer (some ⟨g,0,none⟩)] w fun e w'=>e=.returned (.int .i64 1)/\w=w':=by
 have c2:=h.bx.cell 2;clear h
 go_enter Try.func18,Try.ntmps18
 go_wp2_with fail
 go_ret
 exact⟨rfl,rfl⟩
theorem UX(h:GB w g V cs D f m rv Df n M):Calls Try.prog 28 #[.pointer (some ⟨g,0,none⟩)] w fun e w'=>e=.returned (.bool false)/\w=w':=by
 have c2:=h.bx.cell 2;clear h
 go_enter Try.func28,Try.ntmps28
 go_wp2_with fail
 go_ret
 exact⟨rfl,rfl⟩
theorem Js(h:GB w g V cs D f m rv Df n M)(hV:V<65536):Calls Try.prog 57 #[.pointer (some ⟨g,0,none⟩)] w fun e w'=>e=.returned (.int .i64 ((V+1:Nat):Int))/\GB w' g (V+1) cs D f m rv Df n M/\aU Df w w':=by
 have c0:=h.bx.cell 0;have c2:=h.bx.cell 2;have h1:=qV h.fm;have h2:=TN (V+1) h.fm acs;rw[show max V (V+1)=V+1 by omega]at h2;have HH:=Lib.hid h;clear h
 go_enter Try.func57,Try.ntmps57
 go_wp2_with fail
 refine h1.mono ?_;rintro e w' ⟨rfl,rfl⟩
 go_wp2_with fail
 refine h2.mono ?_;rintro e w' ⟨rfl,hf,hfr⟩;have HF:=Lib.hid hf;have HR:=Lib.hid hfr;clear hf hfr h1 h2
 go_wp2_with fail
 go_ret
 have:=HH.out.form HF.out HR.out acs (fun b hb=>.inl hb) (fun b hb=>rg (HH.out.lt b (HH.out.sub b hb)) HR.out.size);exact⟨rfl,⟨this.bx,this.fm,this.mp,this.hn,HH.out.sub,this.ng,this.nm,HH.out.dg,HH.out.dm,fun b hb=>rg (HH.out.lt b hb) HR.out.size⟩,HR.out⟩
end
def lz(V:Nat)(x:Int):Bool:=decide (x=0)||decide ((V:Int)<x)||decide ((V:Int) < -x)
section
variable{w:World}{g V:Nat}{cs:List (Value×io)}{D:Nat->Prop}{f m:Nat}{rv:Value}{Df:Nat->Prop}{n:Nat}{M:DataW Unit}
theorem T6{p:Nat}(x:Int)(hx:-65536<=x/\x<=65536)(h:GB w g V cs D f m rv Df n M)(hp:w.cell? ⟨p,0,none⟩=some (.pointer (some ⟨g,0,none⟩))) :
  Calls Try.prog 72 #[.int .i64 x,.pointer (some ⟨p,0,none⟩)] w fun e w'=>e=.returned (.bool (lz V x))/\w=w':=by
 have c0:=h.bx.cell 0;have h1:=qV h.fm;have hV:=h.fm.hV;clear h;have hn:=IntWalk.i64_in (-x) ⟨acs,acs⟩;by_cases h0:x=0
 .subst h0
  go_enter Try.func72,Try.ntmps72
  go_wp2_with fail
  go_ret
  exact⟨rfl,rfl⟩
 .have h0':(x == 0)=false:=rc.2 h0;have hs:(-x == x)=false:=rc.2 acs;rcases(show(x < -x/\(V:Int) < -x)\/(x < -x/\-x<=(V:Int))\/(-x<x/\(V:Int)<x)\/(-x<x/\x<=(V:Int)) by omega)with⟨h1',h2'⟩|⟨h1',h2'⟩|⟨h1',h2'⟩|⟨h1',h2'⟩
  all_goals (
   have HO:=Lib.hid (show lz V x=_ from by unfold lz;rw[show decide (x=0)=false by simpa using h0,acp]);have hm:=Int.not_lt.2 (Int.le_of_lt h1');clear h0
   go_enter Try.func72,Try.ntmps72
   go_wp2_with fail
   refine h1.mono ?_;rintro e w' ⟨rfl,rfl⟩
   go_wp2_with fail
   go_ret
   refine⟨lK ?_,rfl⟩;rw[HO.out];simp
   try omega)
theorem UW{k:Nat}(h:GB w g V cs D f m rv Df n M)(hR:Reads w B 1 A k (iv c))(hB:B<=w.heap.size)(hk:k<=1000)(hc:∀i,i<k->-65536<=c.getD i 0/\c.getD i 0<=65536) :
  Calls Try.prog 58 #[.pointer (some ⟨g,0,none⟩),.slice A k cap] w fun e w'=>e=.returned (.bool (!(c.any (lz V))))/\Below w.heap.size w w':=by
 have hw:=(Below.refl _ w).alloc (ol _) (.cells #[.pointer (some ⟨g,0,none⟩)] 36);have h2:=h.below hw;have hb:=(av.new w 36 #[.pointer (some ⟨g,0,none⟩)]).cell 0;have c2:=h2.bx.cell 2;have hR2:=hR.alloc hB (.cells #[.pointer (some ⟨g,0,none⟩)] 36);have hf:=Sq (cap:=cap) (bad:=lz V) (fun i hi=>T6 (c.getD i 0) (hc i hi) h2 hb) hR2 hk;clear h h2 hR hR2
 go_enter Try.func58,Try.ntmps58
 go_wp2_with fail
 refine hf.mono ?_;rintro e w' ⟨rfl,rfl⟩
 go_wp2_with fail
 go_ret
 exact⟨rfl,hw⟩
theorem VN{p k:Nat}(h:GB w g V cs D f m rv Df n M)(hp:w.cell? ⟨p,0,none⟩=some (.pointer (some ⟨g,0,none⟩)))(hcs:cs.length<1000000)(hR:Reads w B 1 A k (iv c))(hB:B<=w.heap.size)(hk:k<=1000)(hr:iJ (V:Int) c=true) :
  Calls Try.prog 73 #[.slice A k cap,.pointer (some ⟨p,0,none⟩)] w fun e w'=>e=.returned (.tuple #[])/\(∃v D' rv' Df',GB w' g V (cs++[(v,c)]) D' f m rv' Df' n M/\∀b,D' b->D b\/w.heap.size<=b)/\aU Df w w':=by
 have c0:=h.bx.cell 0;have h1:=AO (cap:=cap) h.fm hcs (fun b hb=>h.lt b (h.sub b hb)) hR hB hk hr;have HH:=Lib.hid h;clear h hR
 go_enter Try.func73,Try.ntmps73
 go_wp2_with fail
 refine h1.mono ?_;rintro e w' ⟨rfl,⟨v,D',rv',hf,hd,hlt⟩,hfr⟩;have HF:=Lib.hid hf;have HR:=Lib.hid hfr;have HD:=Lib.hid hd;have HLT:=Lib.hid hlt;clear hf hfr h1 hd hlt
 go_wp2_with fail
 have hlt:∀b,D' b->b<w'.heap.size:=HLT.out;exact⟨rfl,.tuple #[],results_none rfl _ _ _,rfl,⟨v,_,rv',D',HH.out.form HF.out HR.out (ol _) HD.out hlt,fun b hb=>hb.elim .inl fun hx=>(HD.out b hx).imp (HH.out.sub b) id⟩,HR.out⟩
end
variable{p:Nat}
theorem aU.after{D D1:Nat->Prop}{a b c:World}(h:aU D a b)(k:aU D1 b c)(hd:∀x,D1 x->D x\/a.heap.size<=x):aU D a c:=⟨k.os.trans h.os,k.tape.trans h.tape,k.output.trans h.output,pp h.size k.size,fun i hi hn=>(k.block i (rg hi h.size) (fun hx=>(hd i hx).elim hn fun h2=>acs)).trans (h.block i hi hn)⟩
def i4(w:World)(g V C m:Nat)(D:Nat->Prop)(n:Nat)(M:DataW Unit):Prop:=∃cs f rv Df,GB w g V cs D f m rv Df n M/\cs.length=C
theorem i4.below{w:World}{g V C m:Nat}{D:Nat->Prop}{n:Nat}{M:DataW Unit}(h:i4 w g V C m D n M)(hb:Below w.heap.size w w'):i4 w' g V C m D n M:=by obtain⟨cs,f,rv,Df,h,e⟩:=h;exact⟨cs,f,rv,Df,h.below hb,e⟩
theorem i4.gd{w:World}{g V C m:Nat}{D:Nat->Prop}{n:Nat}{M:DataW Unit}(h:i4 w g V C m D n M):GD w g V C D:=by obtain⟨cs,f,rv,Df,h,e⟩:=h;exact⟨cs,f,m,rv,Df,n,M,h,e⟩
section
variable{w:World}{g V C m:Nat}{D:Nat->Prop}{n:Nat}{M:DataW Unit}
theorem AP(c:io)(h:i4 w g V C m D n M)(hp:w.cell? ⟨p,0,none⟩=some (.pointer (some ⟨g,0,none⟩)))(hpl:p<w.heap.size)(hC:C<1000000)(hk:c.length<=1000)(hr:iJ (V:Int) c=true) :
  Calls Try.prog 73 #[.slice (some ⟨w.heap.size,0,none⟩) c.length c.length,.pointer (some ⟨p,0,none⟩)] (w.alloc (.cells (iv c).toArray 3)) fun e w'=>e=.returned (.tuple #[])/\(∃D',i4 w' g V (C+1) m D' n M/\∀b,D' b->D b\/w.heap.size<=b)/\aU D w w':=by
 obtain⟨cs,f,rv,Df,h,rfl⟩:=h;have hw:=(Below.refl _ w).alloc (ol _) (.cells (iv c).toArray 3);have h2:=h.below hw;have hp2:(w.alloc (.cells (iv c).toArray 3)).cell? ⟨p,0,none⟩=some (.pointer (some ⟨g,0,none⟩)):=(hw.cell (p:=⟨p,0,none⟩) hpl).trans hp;have hR:Reads (w.alloc (.cells (iv c).toArray 3)) (w.heap.size+1) 1 (some ⟨w.heap.size,0,none⟩) c.length (iv c):=by have:=(av.new w 3 (iv c).toArray).reads (xs:=iv c);simpa[vg]using this
 refine(VN (cap:=c.length) h2 hp2 hC hR acv hk hr).mono ?_;rintro e w' ⟨rfl,⟨v,D',rv',Df',hg,hd⟩,hf⟩;refine⟨rfl,⟨D',⟨_,f,rv',Df',hg,acv⟩,fun b hb=>(hd b hb).imp id fun hx=>?_⟩,(aU.gj hw).trans (hf.mono fun b hb=>h2.sub b hb)⟩;simp at hx;omega
end
set_option maxHeartbeats 1000000
variable{pb:Nat}{pa:Nat}
theorem UU{w:World}{g V C m:Nat}{D:Nat->Prop}{n:Nat}{M:DataW Unit}(a b:Int)(h:i4 w g V C m D n M)(hp:w.cell? ⟨p,0,none⟩=some (.pointer (some ⟨g,0,none⟩)))(ha:w.cell? ⟨pa,0,none⟩=some (.int .i64 a))(hb:w.cell? ⟨pb,0,none⟩=some (.int .i64 b))
  (hp1:p<w.heap.size/\¬D p) (ha1:pa<w.heap.size/\¬D pa) (hb1:pb<w.heap.size/\¬D pb) (hC:C<999990) (hV:1<=V/\V<=65536) (hoa:fu (V:Int) a=false) (hob:fu (V:Int) b=false) :
  Calls Try.prog 60 #[.int .i64 V,.func (.func 73) #[] #[.pointer (some ⟨p,0,none⟩)],.pointer (some ⟨pa,0,none⟩),.pointer (some ⟨pb,0,none⟩)] w fun e w'=>e=.returned (.tuple #[])/\(∃D',i4 w' g V (C+3) m D' n M/\∀b,D' b->D b\/w.heap.size<=b)/\aU D w w':=by
 have hra:-65536<=a/\a<=65536:=by simp[fu]at hoa;omega
 have hrb:-65536<=b/\b<=65536:=by simp[fu]at hob;omega
 have r1:iJ (V:Int) [-(V:Int),a]=true:=by simp[iJ,hoa];simp[fu];omega
 have r2:iJ (V:Int) [-(V:Int),b]=true:=by simp[iJ,hob];simp[fu];omega
 have r3:iJ (V:Int) [(V:Int),-a,-b]=true:=by simp[fu]at hoa hob;simp[iJ,fu];omega
 have n1:=IntWalk.i64_in (-(V:Int)) ⟨acs,acs⟩;have n2:=IntWalk.i64_in (-a) ⟨acs,acs⟩;have n3:=IntWalk.i64_in (-b) ⟨acs,acs⟩;have c1:=AP [-(V:Int),a] h hp hp1.1 acs acv r1;have R2:=Lib.hid r2;have R3:=Lib.hid r3;clear r1 r2 r3 hoa hob
 go_enter Try.func60,Try.ntmps60
 go_wp2_with fail
 refine c1.mono ?_;rintro e w1 ⟨rfl,⟨D1,g1,d1⟩,f1⟩;have hs1:=f1.size;have hp2:=(f1.cell (p:=⟨p,0,none⟩) hp1.1 hp1.2).trans hp;have ha2:=(f1.cell (p:=⟨pa,0,none⟩) ha1.1 ha1.2).trans ha;have hb2:=(f1.cell (p:=⟨pb,0,none⟩) hb1.1 hb1.2).trans hb;have c2:=AP [-(V:Int),b] g1 hp2 acs acs acv R2.out;have D1':=Lib.hid d1;have F1:=Lib.hid f1;clear c1 d1 f1 g1
 go_wp2_with fail
 refine c2.mono ?_;rintro e w2 ⟨rfl,⟨D2,g2,d2⟩,f2⟩;have hs2:=f2.size;have hp3:=(f2.cell (p:=⟨p,0,none⟩) (rg hp1.1 hs1) (fun hx=>(D1'.out _ hx).elim hp1.2 fun hy=>abi _ (rg hp1.1 hy))).trans hp2;have ha3:=(f2.cell (p:=⟨pa,0,none⟩) (rg ha1.1 hs1) (fun hx=>(D1'.out _ hx).elim ha1.2 fun hy=>abi _ (rg ha1.1 hy))).trans ha2;have hb3:=(f2.cell (p:=⟨pb,0,none⟩) (rg hb1.1 hs1) (fun hx=>(D1'.out _ hx).elim hb1.2 fun hy=>abi _ (rg hb1.1 hy))).trans hb2;have c3:=AP [(V:Int),-a,-b] g2 hp3 acs acs acv R3.out;have D2':=Lib.hid d2;have F2:=Lib.hid f2;clear c2 d2 f2 g2 hp2 ha2 hb2
 go_wp2_with fail
 refine c3.mono ?_;rintro e w3 ⟨rfl,⟨D3,g3,d3⟩,f3⟩;have D3':=Lib.hid d3;have F3:=Lib.hid f3;have G3:=Lib.hid g3;clear c3 d3 f3 g3
 go_wp2_with fail
 have e2:∀b,D2 b->D b\/w.heap.size<=b:=fun b hb=>(D2'.out b hb).elim (D1'.out b) fun hx=>.inr acs;have e3:∀b,D3 b->D b\/w.heap.size<=b:=fun b hb=>(D3'.out b hb).elim (e2 b) fun hx=>.inr acs;exact⟨rfl,.tuple #[],results_none rfl _ _ _,rfl,⟨D3,G3.out,e3⟩,(F1.out.after F2.out D1'.out).after F3.out e2⟩
variable{x:Int}
theorem AK(h:-65536<=x/\x<=65536):(Lit.int .i64 x).wf=true:=by
 have h1:IntKind.i64.min = -9223372036854775808:=acw
 have h2:IntKind.i64.max=9223372036854775807:=acw
 simp only[Lit.wf,h1,h2,abn,FS];omega
theorem Sk{c c':Int}(h:(DataW.lit (.int .i64 c):DataW H)=.lit (.int .i64 c')):c=c':=by cases h;rfl
theorem S7{w:World}{m n:Nat}{M:DataW Unit}(h:ou w m n M){key:Value}{kl:Lit}(hk:keyOf Try.prog 114 key=some kl) :
  ∃c:Int,∀W:World,ou W m n M->(Instr.lookup 56 (.map (some m)) key true).run Try.prog W=.ok (.tuple #[.int .i64 c,.bool (Maps.has M kl)]) W:=by
 have hz:∀W:World,(zeroValue 3).run Try.prog W=.ok (.int .i64 0) W:=fun W=>Try.zeroValue3 W;have key1:∀W:World,ou W m n M->∃c:Int,(Instr.lookup 56 (.map (some m)) key true).run Try.prog W=.ok (.tuple #[.int .i64 c,.bool (Maps.has M kl)]) W/\DataW.atKey M kl (.lit (.int .i64 0))=.lit (.int .i64 c):=fun W hW=>by obtain⟨v,ps,hrun,hv⟩:=hW.look_ok JR Try.underlying56 (hz W) (plainElem_int Try.underlying3 (a:=0) acw) hk;obtain⟨c,rfl,hc,_⟩:=plainElem_int_inv Try.underlying3 hv;exact⟨c,hrun,abp Prod.fst hc⟩
 obtain⟨c,_,hc⟩:=key1 w h;refine⟨c,fun W hW=>?_⟩;obtain⟨c',hr,hc'⟩:=key1 W hW;have e:c=c':=by have h1:DataW.lit (.int .i64 c)=.lit (.int .i64 c'):=hc.symm.trans hc';exact Sk h1
 subst e;exact hr
def lZ(w:World)(g V C dV dC:Nat)(D:Nat->Prop)(w':World):Prop:=∃V' C' D',GD w' g V' C' D'/\V<=V'/\V'<=V+dV/\C<=C'/\C'<=C+dC/\(∀b,D' b->D b\/w.heap.size<=b)/\aU D w w'
theorem i4.put{w:World}{g V C m:Nat}{D:Nat->Prop}{n n':Nat}{M M':DataW Unit}(h:i4 w g V C m D n M)(hm:ou w' m n' M')(hg:w.grownBy w' (some m))(hn:n'<=V):i4 w' g V C m D n' M':=by
 obtain⟨cs,f,rv,Df,h,e⟩:=h;have hf:aU (fun b=>b=m) w w':=(aU.refl _ w).grown hg fun b hb=>by injection hb with hb;exact hb.symm
 exact⟨cs,f,rv,Df,⟨hf.fD h.bx h.ne,h.fm.ax hf fun b hb e=>h.nm (e▸hb),hm,hn,h.sub,h.ng,h.nm,h.dg,h.dm,fun b hb=>rg (h.lt b hb) hf.size⟩,e⟩
theorem SZ{w:World}{g V C m:Nat}{D:Nat->Prop}{n:Nat}{M:DataW Unit}(h:i4 w g V C m D n M)(hV:V<65536):Calls Try.prog 57 #[.pointer (some ⟨g,0,none⟩)] w fun e w'=>e=.returned (.int .i64 ((V+1:Nat):Int))/\i4 w' g (V+1) C m D n M/\aU D w w':=by obtain⟨cs,f,rv,Df,h,e⟩:=h;refine(Js h hV).mono ?_;rintro _ w' ⟨rfl,h1,h2⟩;exact⟨rfl,⟨cs,f,rv,Df,h1,e⟩,h2.mono h.sub⟩
theorem Jg{V:Nat}(h:fu (V:Int) x=false):fu ((V+1:Nat):Int) x=false:=by simp[fu]at h |-;omega
set_option maxHeartbeats 2000000
set_option maxRecDepth 20000
theorem JO{w:World}{g V C:Nat}{D:Nat->Prop}(a b x y:Int)(h:GD w g V C D)(ha:w.cell? ⟨pa,0,none⟩=some (.int .i64 a))(hb:w.cell? ⟨pb,0,none⟩=some (.int .i64 b))
  (ha1:pa<w.heap.size/\¬D pa) (hb1:pb<w.heap.size/\¬D pb) (hC:C<999990) (hV:V<65536) (hoa:fu (V:Int) a=false) (hob:fu (V:Int) b=false) (hx:-65536<=x/\x<=65536) (hy:-65536<=y/\y<=65536) :
  Calls Try.prog 59 #[.pointer (some ⟨g,0,none⟩),.agg #[.int .i64 0,.int .i64 x,.int .i64 y,.int .i64 0,.string ByteArray.empty],.func (.func 60) #[] #[.pointer (some ⟨pa,0,none⟩),.pointer (some ⟨pb,0,none⟩)]] w fun e w'=>(∃r:Int,e=.returned (.int .i64 r))/\lZ w g V C 1 3 D w':=by
 obtain⟨cs,f,m,rv,Df,n,M,h,rfl⟩:=h;obtain⟨kl,hkl⟩:=VO 0 x y 0 ByteArray.empty acw (AK hx) (AK hy) acw acw;have hcs:cs.length<999990:=hC;have hlt:=h.lt;have hb1':Below w.heap.size w (w.alloc (.cells #[.pointer (some ⟨g,0,none⟩)] 36)):=(Below.refl _ w).alloc (ol _) _;obtain⟨W,hW⟩:∃W,W=(w.alloc (.cells #[.pointer (some ⟨g,0,none⟩)] 36)).alloc (.cells #[.int .i64 0,.int .i64 x,.int .i64 y,.int .i64 0,.string ByteArray.empty] 114):=⟨_,rfl⟩;have hbW:Below w.heap.size w W:=by rw[hW];exact hb1'.alloc acv _
 have hWs:W.heap.size=w.heap.size+2:=by rw[hW];simp
 have bp:av W w.heap.size 36 #[.pointer (some ⟨g,0,none⟩)]:=by rw[hW];exact(av.new w _ _).alloc _
 have bq:av W (w.heap.size+1) 114 #[.int .i64 0,.int .i64 x,.int .i64 y,.int .i64 0,.string ByteArray.empty]:=by rw[hW];have:=av.new (w.alloc (.cells #[.pointer (some ⟨g,0,none⟩)] 36)) 114 #[.int .i64 0,.int .i64 x,.int .i64 y,.int .i64 0,.string ByteArray.empty];simpa using this
 have hG:=h.below hbW;have haW:=(hbW.cell (p:=⟨pa,0,none⟩) ha1.1).trans ha;have hbW2:=(hbW.cell (p:=⟨pb,0,none⟩) hb1.1).trans hb;obtain⟨c,hlook⟩:=S7 hG.mp hkl;have hl:=hlook W.drew hG.drew.mp;have p0:=bp.drew.cell 0;have q0:=bq.drew.cell 0;have q1:=bq.drew.cell 1;have q2:=bq.drew.cell 2;have q3:=bq.drew.cell 3;have q4:=bq.drew.cell 4;have g1:=hG.drew.bx.cell 1;have GM:Hid (i4 W g V cs.length m D n M):=⟨cs,f,rv,Df,hG,rfl⟩;have HLT:=Lib.hid hlt;have HBW:=Lib.hid hbW;have HWS:=Lib.hid hWs;have HBP:=Lib.hid bp;have HBQ:=Lib.hid bq;have HAW:=Lib.hid haW;have HBW2:=Lib.hid hbW2;have HKL:=Lib.hid hkl;have HW:=Lib.hid hW;have hgl:g<w.heap.size:=h.bx.lt;clear h hlt hbW hb1' hWs bp bq hG haW hbW2 hlook hkl hW;rcases hh:Maps.has M kl with _|_
 .rw[hh]at hl;clear hh;have hfr:=SZ (w:=W.drew) (GM.out.below (w':=W.drew) (Below.refl _ W).drew) hV
  go_enter Try.func59,Try.ntmps59
  go_wp2_with fail
  rw[<-HW.out];clear HW
  go_region
  clear hl q0 q1 q2 q3 q4 g1
  go_wp2_with fail
  refine hfr.mono ?_;rintro e w2 ⟨rfl,h2,f2⟩;have hs2:W.heap.size<=w2.heap.size:=f2.size;have hWs:=HWS.out;have dp:¬D w.heap.size:=fun hx=>abi _ (HLT.out _ hx);have dq:¬D (w.heap.size+1):=fun hx=>by have:=HLT.out _ hx;omega
  have p2:=f2.fD HBP.out.drew dp;have q2:=f2.fD HBQ.out.drew dq;have p0:=p2.drew.cell 0;have q0:=q2.drew.cell 0;have q1:=q2.drew.cell 1;have qq:=q2.drew.cell 2;have q3:=q2.drew.cell 3;have q4:=q2.drew.cell 4;have ha2:=(f2.cell (p:=⟨pa,0,none⟩) (by show pa<W.heap.size;omega) ha1.2).trans HAW.out;have hb2:=(f2.cell (p:=⟨pb,0,none⟩) (by show pb<W.heap.size;omega) hb1.2).trans HBW2.out;obtain⟨cs2,f',rv2,Df2,h2,e2⟩:=h2;have g1:=h2.bx.drew.cell 1;have hmp:ou w2.drew m n M:=h2.drew.mp;have hn2:n<=V:=GM.out.elim fun _ h=>h.elim fun _ h=>h.elim fun _ h=>h.elim fun _ h=>h.1.hn;have H2:Hid (i4 w2.drew g (V+1) cs.length m D n M):=⟨cs2,f',rv2,Df2,h2.drew,e2⟩;have P2:=Lib.hid p2;have HA2:=Lib.hid ha2;have HB2:=Lib.hid hb2;have F2:=Lib.hid f2;clear hfr h2 e2 p2 q2 ha2 hb2 f2 dp dq;have e1:((V+1:Nat):Int)≠0:=acs
  have e1':(((V+1:Nat):Int) == 0)=false:=rc.2 e1;obtain⟨v,hv⟩:∃v:Int,v=((V+1:Nat):Int):=⟨_,rfl⟩;rw[<-hv]at e1' |-;have HVV:=Lib.hid hv;have hvw:(Lit.int .i64 v).wf=true:=AK ⟨acs,acs⟩;clear hv e1
  go_wp2_with fail
  go_still_tail 6,acu
  change wpList _ _ _ _ _ w2.drew
  go_wp2_with (at_mapUpdate;refine wpList_mapUpdate_own _ rfl _ _ _ 56 rfl 114 3 JR Try.underlying56 (plainElem Try.prog 3) m n M rfl hmp (by unfold maxLen;omega) _ _ kl rfl rfl HKL.out (.lit (.int .i64 v)) [] (plainElem_int Try.underlying3 hvw) ?_;intro w3 hm3 hg3)
  have hF3:aU (fun b=>b=m) w2.drew w3:=(aU.refl _ w2.drew).grown hg3 fun b hb=>by injection hb with hb;exact hb.symm
  have hD3:=H2.out.put hm3 hg3 acs;have dm:D m:=GM.out.elim fun _ h=>h.elim fun _ h=>h.elim fun _ h=>h.elim fun _ h=>h.1.dm;have hml:=HLT.out m dm;have hs3:w2.heap.size<=w3.heap.size:=hF3.size;have hp3:=(hF3.fD P2.out.drew acs).cell 0;have ha3:=(hF3.cell (p:=⟨pa,0,none⟩) (by show pa<w2.heap.size;omega) (fun e=>ha1.2 (by have e:pa=m:=e;rw[e];exact dm))).trans HA2.out;have hb3:=(hF3.cell (p:=⟨pb,0,none⟩) (by show pb<w2.heap.size;omega) (fun e=>hb1.2 (by have e:pb=m:=e;rw[e];exact dm))).trans HB2.out;have h1:=UU a b hD3 hp3 ha3 hb3 ⟨acs,fun hx=>abi _ (HLT.out _ hx)⟩ ⟨acs,ha1.2⟩ ⟨acs,hb1.2⟩ acs ⟨acs,acs⟩ (Jg hoa) (Jg hob);rw[<-HVV.out]at h1;have F3:=Lib.hid hF3;have DM:=Lib.hid dm;clear hD3 hp3 ha3 hb3 hF3 hm3 hg3 hmp dm;refine h1.mono ?_;rintro e w4 ⟨rfl,⟨D4,h4,d4⟩,f4⟩;have H4:=Lib.hid h4;have D4':=Lib.hid d4;have F4:=Lib.hid f4;clear h1 h4 d4 f4
  go_wp2_with fail
  go_ret
  have f24:aU D W.drew w2.drew:=F2.out.drew;have f34:aU D W.drew w3:=f24.trans (F3.out.mono fun b hb=>by rw[hb];exact DM.out);refine⟨⟨v,rfl⟩,V+1,cs.length+3,D4,H4.out.gd,acs,ol _,acs,ol _,fun b hb=>(D4'.out b hb).imp id fun hx=>acs,?_⟩;exact(aU.gj HBW.out).trans ((aU.refl D W).drew.trans (f34.trans F4.out))
 .rw[hh]at hl;clear hh
  go_enter Try.func59,Try.ntmps59
  go_wp2_with fail
  rw[<-HW.out];clear HW
  go_region
  all_goals (
   go_wp2_with fail
   go_ret
   exact⟨⟨c,rfl⟩,V,cs.length,D,GM.out.gd.ax (D':=fun _=>False) (aU.refl _ W).drew (fun _ _ h=>h),ol _,acs,ol _,acs,fun b hb=>.inl hb,(aU.gj HBW.out).drew⟩)
variable{dC:Nat}{dV:Nat}
theorem lZ.pre{w w1:World}{g V C:Nat}{D:Nat->Prop}(hb:Below w.heap.size w w1)(h:lZ w1 g V C dV dC D w'):lZ w g V C dV dC D w':=by obtain⟨V',C',D',h1,h2,h3,h4,h5,h6,h7⟩:=h;exact⟨V',C',D',h1,h2,h3,h4,h5,fun b hx=>(h6 b hx).imp id fun hy=>pp hb.size hy,(aU.gj hb).trans h7⟩
theorem lZ.same{w:World}{g V C:Nat}{D:Nat->Prop}(h:GD w g V C D)(hb:Below w.heap.size w w'):lZ w g V C dV dC D w':=⟨V,C,D,h.below hb,ol _,acn _ _,ol _,acn _ _,fun b hx=>.inl hx,.gj hb⟩
theorem VL{w:World}{g V C:Nat}{D:Nat->Prop}(a b:Int)(h:GD w g V C D)(hC:C<999990)(hV:V<65536)(ha:-65536<=a/\a<=65536)(hb:-65536<=b/\b<=65536) :
  Calls Try.prog 35 #[.pointer (some ⟨g,0,none⟩),.int .i64 a,.int .i64 b] w fun e w'=>(∃r:Int,e=.returned (.int .i64 r))/\lZ w g V C 1 3 D w':=by
 have hlt:∀b,D b->b<w.heap.size:=by obtain⟨_,_,_,_,_,_,_,h,_⟩:=h;exact h.lt
 obtain⟨W,hW⟩:∃W,W=((w.alloc (.cells #[.int .i64 a] 3)).alloc (.cells #[.int .i64 b] 3)).alloc (.cells #[.int .i64 a,.int .i64 b] 3):=⟨_,rfl⟩;have hb1:Below w.heap.size w (w.alloc (.cells #[.int .i64 a] 3)):=(Below.refl _ w).alloc (ol _) _;have hbW:Below w.heap.size w W:=by rw[hW];exact(hb1.alloc acv _).alloc (by simp;omega) _
 have hWs:W.heap.size=w.heap.size+3:=by rw[hW];simp
 have bpa:av W w.heap.size 3 #[.int .i64 a]:=by rw[hW];exact((av.new w _ _).alloc _).alloc _
 have bpb:av W (w.heap.size+1) 3 #[.int .i64 b]:=by rw[hW];have:=(av.new (w.alloc (.cells #[.int .i64 a] 3)) 3 #[.int .i64 b]).alloc (.cells #[.int .i64 a,.int .i64 b] 3);simpa using this
 have hR:Reads W (w.heap.size+3) 1 (some ⟨w.heap.size+2,0,none⟩) 2 (iv [a,b]):=by have:=(av.new ((w.alloc (.cells #[.int .i64 a] 3)).alloc (.cells #[.int .i64 b] 3)) 3 #[.int .i64 a,.int .i64 b]).reads (xs:=iv [a,b]);rw[hW];simpa[iv]using this
 have hG:=h.below hbW;obtain⟨cs,f,m,rv,Df,n,M,hGB,hcs⟩:=hG;have hfi:=UW (cap:=2) hGB hR acs acs (fun i hi=>by
  rcases i with _|_|i
  .simpa using ha
  .simpa using hb
  .omega)
 have GM:Hid (GD W g V C D):=⟨cs,f,m,rv,Df,n,M,hGB,hcs⟩;have HW:=Lib.hid hW;have HBW:=Lib.hid hbW;have HPA:=Lib.hid bpa;have HPB:=Lib.hid bpb;have HLT:=Lib.hid hlt;have HH:=Lib.hid h;clear h hGB hcs hR bpa bpb hbW hb1 hW hlt;obtain⟨ok,bM⟩:∃ok,ok = !([a,b].any (lz V)):=⟨_,rfl⟩;rw[<-bM]at hfi;rcases ok with _|_
 .clear bM
  go_enter Try.func35,Try.ntmps35
  go_wp2_with fail
  rw[<-HW.out];refine hfi.mono ?_;rintro e w2 ⟨rfl,hb2⟩;have HB2:=Lib.hid hb2;clear hfi hb2
  go_wp2_with fail
  go_ret
  exact⟨⟨0,rfl⟩,.same HH.out (HBW.out.trans (HB2.out.mono HBW.out.size))⟩
 .have hab:lz V a=false/\lz V b=false:=by simp at bM;exact bM
  have hoa:fu (V:Int) a=false:=by have:=hab.1;simp[lz]at this;simp[fu];omega
  have hob:fu (V:Int) b=false:=by have:=hab.2;simp[lz]at this;simp[fu];omega
  clear bM hab;have n1:=IntWalk.i64_in (-b) ⟨acs,acs⟩;rcases(show a = -1\/(a≠-1/\b = -1)\/(a≠-1/\b≠-1/\a = -b)\/(a≠-1/\b≠-1/\a≠-b/\a=1)\/(a≠-1/\b≠-1/\a≠-b/\a≠1/\a=b)\/(a≠-1/\b≠-1/\a≠-b/\a≠1/\a≠b/\b=1)\/(a≠-1/\b≠-1/\a≠-b/\a≠1/\a≠b/\b≠1) by omega)with h1|⟨h1,h2⟩|⟨h1,h2,h3⟩|⟨h1,h2,h3,h4⟩|⟨h1,h2,h3,h4,h5⟩|⟨h1,h2,h3,h4,h5,h6⟩|⟨h1,h2,h3,h4,h5,h6⟩
  .have d1:(a == -1)=true:=abW.2 h1;clear h1
   go_enter Try.func35,Try.ntmps35
   go_wp2_with fail
   rw[<-HW.out];refine hfi.mono ?_;rintro e w2 ⟨rfl,hb2⟩;have pa0:=(HPA.out.below hb2 acs).cell 0;have pb0:=(HPB.out.below hb2 acs).cell 0;have HB2:=Lib.hid hb2;clear hfi hb2
   go_wp2_with fail
   go_ret
   exact⟨⟨-1,rfl⟩,.same HH.out (HBW.out.trans (HB2.out.mono HBW.out.size))⟩
  .have d1:(a == -1)=false:=rc.2 h1;have d2:(b == -1)=true:=abW.2 h2;clear h1 h2
   go_enter Try.func35,Try.ntmps35
   go_wp2_with fail
   rw[<-HW.out];refine hfi.mono ?_;rintro e w2 ⟨rfl,hb2⟩;have pa0:=(HPA.out.below hb2 acs).cell 0;have pb0:=(HPB.out.below hb2 acs).cell 0;have HB2:=Lib.hid hb2;clear hfi hb2
   go_wp2_with fail
   go_ret
   exact⟨⟨-1,rfl⟩,.same HH.out (HBW.out.trans (HB2.out.mono HBW.out.size))⟩
  .have d1:(a == -1)=false:=rc.2 h1;have d2:(b == -1)=false:=rc.2 h2;have d3:(a == -b)=true:=abW.2 h3;clear h1 h2 h3
   go_enter Try.func35,Try.ntmps35
   go_wp2_with fail
   rw[<-HW.out];refine hfi.mono ?_;rintro e w2 ⟨rfl,hb2⟩;have pa0:=(HPA.out.below hb2 acs).cell 0;have pb0:=(HPB.out.below hb2 acs).cell 0;have HB2:=Lib.hid hb2;clear hfi hb2
   go_wp2_with fail
   go_ret
   exact⟨⟨-1,rfl⟩,.same HH.out (HBW.out.trans (HB2.out.mono HBW.out.size))⟩
  .have d1:(a == -1)=false:=rc.2 h1;have d2:(b == -1)=false:=rc.2 h2;have d3:(a == -b)=false:=rc.2 h3;have d4:(a == 1)=true:=abW.2 h4;clear h1 h2 h3 h4
   go_enter Try.func35,Try.ntmps35
   go_wp2_with fail
   rw[<-HW.out];refine hfi.mono ?_;rintro e w2 ⟨rfl,hb2⟩;have pa0:=(HPA.out.below hb2 acs).cell 0;have pb0:=(HPB.out.below hb2 acs).cell 0;have HB2:=Lib.hid hb2;clear hfi hb2
   go_wp2_with fail
   go_ret
   exact⟨⟨b,rfl⟩,.same HH.out (HBW.out.trans (HB2.out.mono HBW.out.size))⟩
  .have d1:(a == -1)=false:=rc.2 h1;have d2:(b == -1)=false:=rc.2 h2;have d3:(a == -b)=false:=rc.2 h3;have d4:(a == 1)=false:=rc.2 h4;have d5:(a == b)=true:=abW.2 h5;clear h1 h2 h3 h4 h5
   go_enter Try.func35,Try.ntmps35
   go_wp2_with fail
   rw[<-HW.out];refine hfi.mono ?_;rintro e w2 ⟨rfl,hb2⟩;have pa0:=(HPA.out.below hb2 acs).cell 0;have pb0:=(HPB.out.below hb2 acs).cell 0;have HB2:=Lib.hid hb2;clear hfi hb2
   go_wp2_with fail
   go_ret
   exact⟨⟨b,rfl⟩,.same HH.out (HBW.out.trans (HB2.out.mono HBW.out.size))⟩
  .have d1:(a == -1)=false:=rc.2 h1;have d2:(b == -1)=false:=rc.2 h2;have d3:(a == -b)=false:=rc.2 h3;have d4:(a == 1)=false:=rc.2 h4;have d5:(a == b)=false:=rc.2 h5;have d6:(b == 1)=true:=abW.2 h6;clear h1 h2 h3 h4 h5 h6
   go_enter Try.func35,Try.ntmps35
   go_wp2_with fail
   rw[<-HW.out];refine hfi.mono ?_;rintro e w2 ⟨rfl,hb2⟩;have pa0:=(HPA.out.below hb2 acs).cell 0;have pb0:=(HPB.out.below hb2 acs).cell 0;have HB2:=Lib.hid hb2;clear hfi hb2
   go_wp2_with fail
   go_ret
   exact⟨⟨a,rfl⟩,.same HH.out (HBW.out.trans (HB2.out.mono HBW.out.size))⟩
  .rcases Int.lt_or_gt_of_ne h5 with hlt|hlt
   .have hnl:=Int.not_lt.2 (Int.le_of_lt hlt);have d1:(a == -1)=false:=rc.2 h1;have d2:(b == -1)=false:=rc.2 h2;have d3:(a == -b)=false:=rc.2 h3;have d4:(a == 1)=false:=rc.2 h4;have d5:(a == b)=false:=rc.2 h5;have d6:(b == 1)=false:=rc.2 h6;clear h1 h2 h3 h4 h5 h6
    go_enter Try.func35,Try.ntmps35
    go_wp2_with fail
    rw[<-HW.out];refine hfi.mono ?_;rintro e w2 ⟨rfl,hb2⟩;have pa0:=(HPA.out.below hb2 acs).cell 0;have pb0:=(HPB.out.below hb2 acs).cell 0;have HB2:=Lib.hid hb2;clear hfi hb2
    go_wp2_with fail
    have hg:=fun x y hx hy=>JO (w:=w2) a b x y (GM.out.below (HB2.out)) pa0 pb0 ⟨by have:=HB2.out.size;omega,fun hx=>abi _ (HLT.out _ hx)⟩ ⟨by have:=HB2.out.size;omega,fun hx=>by have:=HLT.out _ hx;omega⟩ hC hV hoa hob hx hy;refine(hg _ _ ha hb).mono ?_;rintro e w3 ⟨⟨r,rfl⟩,h3⟩;have H3:=Lib.hid h3;clear h3 hg
    go_wp2_with fail
    go_ret
    exact⟨⟨r,rfl⟩,H3.out.pre (HBW.out.trans (HB2.out.mono HBW.out.size))⟩
   .have hnl:=Int.not_lt.2 (Int.le_of_lt hlt);have d1:(a == -1)=false:=rc.2 h1;have d2:(b == -1)=false:=rc.2 h2;have d3:(a == -b)=false:=rc.2 h3;have d4:(a == 1)=false:=rc.2 h4;have d5:(a == b)=false:=rc.2 h5;have d6:(b == 1)=false:=rc.2 h6;clear h1 h2 h3 h4 h5 h6
    go_enter Try.func35,Try.ntmps35
    go_wp2_with fail
    rw[<-HW.out];refine hfi.mono ?_;rintro e w2 ⟨rfl,hb2⟩;have pa0:=(HPA.out.below hb2 acs).cell 0;have pb0:=(HPB.out.below hb2 acs).cell 0;have HB2:=Lib.hid hb2;clear hfi hb2
    go_wp2_with fail
    have hg:=fun x y hx hy=>JO (w:=w2) a b x y (GM.out.below (HB2.out)) pa0 pb0 ⟨by have:=HB2.out.size;omega,fun hx=>abi _ (HLT.out _ hx)⟩ ⟨by have:=HB2.out.size;omega,fun hx=>by have:=HLT.out _ hx;omega⟩ hC hV hoa hob hx hy;refine(hg _ _ hb ha).mono ?_;rintro e w3 ⟨⟨r,rfl⟩,h3⟩;have H3:=Lib.hid h3;clear h3 hg
    go_wp2_with fail
    go_ret
    exact⟨⟨r,rfl⟩,H3.out.pre (HBW.out.trans (HB2.out.mono HBW.out.size))⟩
theorem VM(w:World):Calls Try.prog 23 #[] w fun e w'=>∃g D,e=.returned (.pointer (some ⟨g,0,none⟩))/\GD w' g 1 1 D/\(∀b,D b->w.heap.size<=b)/\Below w.heap.size w w':=by
 have hmm:=@run_makeMap Try.prog;have h1:=JH w 1 acs
 go_enter Try.func23,Try.ntmps23
 go_wp2_with fail
 refine h1.mono ?_;rintro e w1 ⟨rfl,hf,hb1⟩;have hfl:=hf.bx.lt;have hf1:FD w1 w.heap.size 1 [] (fun b=>b=w.heap.size) (.slice none 0 0):=⟨hf.bx,hf.row,hf.hV,rfl,fun b hb=>by simp[Value.ownBlock]at hb,fun p hp=>by simp at hp,acv⟩;obtain⟨W,hW⟩:∃W,W=((w1.alloc (.map #[] 0)).alloc (.cells #[.pointer (some ⟨w.heap.size,0,none⟩),.map (some w1.heap.size),.bool false] 58)).alloc (.cells #[.int .i64 1] 3):=⟨_,rfl⟩;have hbW:Below w1.heap.size w1 W:=by rw[hW];exact(((Below.refl _ w1).alloc (ol _) _).alloc acv _).alloc (by simp;omega) _
 have hWs:W.heap.size=w1.heap.size+3:=by rw[hW];simp
 have bg:av W (w1.heap.size+1) 58 #[.pointer (some ⟨w.heap.size,0,none⟩),.map (some w1.heap.size),.bool false]:=by rw[hW];have:=(av.new (w1.alloc (.map #[] 0)) 58 #[.pointer (some ⟨w.heap.size,0,none⟩),.map (some w1.heap.size),.bool false]).alloc (.cells #[.int .i64 1] 3);simpa using this
 have hm:ou W w1.heap.size 0 (.map []):=by rw[hW];exact((World.ownsMap_made w1 _ _ _).alloc _).alloc _
 have hR:Reads W (w1.heap.size+3) 1 (some ⟨w1.heap.size+2,0,none⟩) 1 (iv [1]):=by have:=(av.new ((w1.alloc (.map #[] 0)).alloc (.cells #[.pointer (some ⟨w.heap.size,0,none⟩),.map (some w1.heap.size),.bool false] 58)) 3 #[.int .i64 1]).reads (xs:=iv [1]);rw[hW];simpa[iv]using this
 have hGB:GB W (w1.heap.size+1) 1 [] (fun b=>w.heap.size<=b/\b<W.heap.size) w.heap.size w1.heap.size (.slice none 0 0) (fun b=>b=w.heap.size) 0 (.map []):=⟨bg,hf1.below hbW,hm,acs,fun b hb=>by subst hb;omega,fun e=>acs,fun e=>acs,acs,acs,fun b hb=>hb.2⟩;have hadd:=AO (cap:=1) hGB.fm acv (fun b hb=>by subst hb;omega) hR acs acs acw;have HG:=Lib.hid hGB;have HW:=Lib.hid hW;have HWS:=Lib.hid hWs;have HBW:=Lib.hid hbW;have HB1:=Lib.hid hb1;clear hf hf1 hbW hWs bg hm hR hGB hW hb1 h1
 go_wp2_with fail
 rw[<-HW.out];refine hadd.mono ?_;rintro e w2 ⟨rfl,⟨v,D',rv',hf2,hd2,hlt2⟩,hfr2⟩;have HF2:=Lib.hid hf2;have HD2:=Lib.hid hd2;have HL2:=Lib.hid hlt2;have HR2:=Lib.hid hfr2;clear hadd hf2 hd2 hlt2 hfr2
 go_wp2_with fail
 go_ret
 have hs1:=HB1.out.size;have hws:=HWS.out;have hg:=HG.out.form HF2.out HR2.out (ol _) HD2.out HL2.out;refine⟨_,_,rfl,⟨_,_,_,_,_,_,_,hg,acv⟩,fun b hb=>hb.elim (fun hx=>hx.1) fun hx=>(HD2.out b hx).elim (fun e=>acs) fun hy=>acs,?_⟩;exact HB1.out.trans ((HBW.out.mono hs1).trans (HR2.out.below acs fun b hb=>acs))
theorem SA{w:World}{g V C:Nat}{D:Nat->Prop}(h:GD w g V C D)(hC:C<999990) :
  Calls Try.prog 9 #[.pointer (some ⟨g,0,none⟩)] w fun e w'=>∃f cs D' rv,e=.returned (.pointer (some ⟨f,0,none⟩))/\FD w' f V cs D' rv/\cs.length=C/\Below w.heap.size w w':=by
 obtain⟨cs,f,m,rv,Df,n,M,h,rfl⟩:=h;have c0:=h.bx.cell 0;have h1:=qV h.fm;have h2:=JH w V h.fm.hV;have HH:=Lib.hid h;clear h
 go_enter Try.func9,Try.ntmps9
 go_wp2_with fail
 refine h1.mono ?_;rintro e w' ⟨rfl,rfl⟩
 go_wp2_with fail
 refine h2.mono ?_;rintro e w1 ⟨rfl,hf1,hb1⟩;have hG1:=HH.out.below hb1;have c1:=hG1.bx.cell 0;have h3:=Sp hG1.fm;have hf1l:=hf1.bx.lt;have hs1:=hb1.size;have HF1:=Lib.hid hf1;have HB1:=Lib.hid hb1;have HG1:=Lib.hid hG1;clear h1 h2 c0 hf1 hb1 hG1
 go_wp2_with fail
 refine h3.mono ?_;rintro e w2 ⟨out,vs,rfl,ho,hcl,hb2⟩;obtain⟨A,c,rfl,_,_,_⟩:=iT ho;have hs2:=hb2.size;obtain⟨k0,hk0⟩:∃k0,k0=cs.length:=⟨_,rfl⟩;rw[<-hk0]at ho hC |-;have HK:=Lib.hid hk0;have HO:=Lib.hid ho;have HC:=Lib.hid hcl;have HB2:=Lib.hid hb2;clear h3 ho hcl hb2 c1 hk0
 go_wp2_with fail
 go_loopw [20] (fun i wr=>∃(k:Nat) (cs':List (Value×io)) (D':Nat->Prop) (rv':Value),k<=k0/\i=.int .i64 k/\Hid (FD wr w.heap.size V cs' D' rv'/\cs'.length=k/\(∀b,D' b->(b=w.heap.size\/w2.heap.size<=b)/\b<wr.heap.size)/\aU (fun b=>b=w.heap.size) w2 wr)) (fun i _=>k0-(intOf i).toNat)
 case atStart=>have hx:=HF1.out.below HB2.out;have hy:FD w2 w.heap.size V [] (fun b=>b=w.heap.size) (.slice none 0 0):=⟨hx.bx,hx.row,hx.hV,rfl,fun b hb=>by simp[Value.ownBlock]at hb,fun p hp=>by simp at hp,acv⟩;exact⟨0,[],(fun b=>b=w.heap.size),.slice none 0 0,Fn _,rfl,Lib.hid ⟨hy,rfl,fun b hb=>⟨.inl hb,by have hb:b=w.heap.size:=hb;omega⟩,aU.refl _ _⟩⟩
 case round=>
  obtain⟨k,cs',D',rv',hk,rfl,hI⟩:=hrel;by_cases hlt:k<k0
  .obtain⟨hfd,hkl,hD',hfr⟩:=hI.out;have hor:=hfr.own HO.out (fun b hb e=>by have:=(HO.out.lt b hb).1;omega);obtain⟨gA,rfl,hcell,hkv,hgl⟩:=JZ hor hlt;have hkc:k<cs.length:=by rw[<-HK.out];exact hlt
   have hc1:(cs.map (·.2))[k]?=some cs[k].2:=by rw[dx,bF hkc];rfl
   have hv1:vs[k]?=some vs[k]:=bF hkv;have hown:=HC.out.2 k _ _ hv1 hc1;have hright:=(HG1.out.fm.cl cs[k] (AT hkc)).right;have hfew:=(HG1.out.fm.cl cs[k] (AT hkc)).mT;have hownr:=hfr.own hown (fun b hb e=>by have:=(hown.lt b hb).1;omega);rw[hv1]at hcell;generalize vs[k]=v at hown hownr hcell;generalize cs[k].2=c' at hown hownr hright hfew;obtain⟨A2,c2,rfl,_,_,hR⟩:=iT hownr;have hadd:=AO (cap:=c2) hfd acs (fun b hb=>(hD' b hb).2) hR (ol _) hfew hright;have HA:=Lib.hid hadd;have HFR:=Lib.hid hfr;have HD:=Lib.hid hD';clear hfd hD' hfr hor hc1 hv1 hown hright hownr hR hadd hI hkc hkv hgl
   go_wp2_with fail
   refine HA.out.mono ?_;rintro e w3 ⟨rfl,⟨v3,D3,rv3,hf3,mV,hl3⟩,hfr3⟩;have HF3:=Lib.hid hf3;have HD3:=Lib.hid mV;have HL3:=Lib.hid hl3;have HR3:=Lib.hid hfr3;clear hf3 mV hl3 hfr3 HA
   go_wp2_with fail
   go_roundw
   case rel=>have hsz:=HFR.out.size;exact⟨k+1,_,D3,rv3,acs,by go_num,⟨HF3.out,by simp[hkl],fun b hb=>⟨(HD3.out b hb).elim (fun hx=>(HD.out b hx).1) fun hx=>.inr acs,HL3.out b hb⟩,HFR.out.after HR3.out fun x hx=>(HD.out x hx).1⟩⟩
   case measure=>simp[intOf];omega
  .obtain rfl:k=k0:=acs
   go_wp2_with fail
   go_ret
   obtain⟨hfd,hkl,hD',hfr⟩:=hI.out;exact⟨_,cs',D',rv',rfl,hfd,hkl.trans HK.out,HB1.out.trans ((HB2.out.mono hs1).trans (hfr.below acs fun b hb=>acs))⟩
