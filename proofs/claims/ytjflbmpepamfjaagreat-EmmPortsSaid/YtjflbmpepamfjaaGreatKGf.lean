import Derived.Test.YtjflbmpepamfjaaGreatKGc
set_option linter.all false
section
namespace Go.Proofs.YtjflbmpepamfjaaGreat
open Go Go.RowKit Go.Maps
variable{V:Nat}{c:io}
theorem aeq(h:c.any (gg V)=false):eW (V:Int) c=true:=by unfold eW;rw[aEY];intro x hx;have:=aFn.1 h x hx;simp[gg]at this;simp[bK];omega
variable{w:World}{C:Nat}{D:Nat->Prop}{cap:Nat}{B:Nat}{g:Nat}{A:lc}
theorem ahn{k:Nat}(h:GD w g V C D)(hC:C<999990)(hR:Reads w B 1 A k (iv c))(hB:B<=w.heap.size)(hk:k<=1000)(hc:∀i,i<k->-65536<=c.getD i 0/\c.getD i 0<=65536) :
  Calls Tryz.prog 111 #[.pointer (some ⟨g,0,none⟩),.slice A k cap] w fun e w'=>e=.returned (.tuple #[])/\j6 w g V C 0 1 D w':=by
 obtain⟨cs,f,m,rv,Df,n,M,h,rfl⟩:=h;have hfi:=tF (cap:=cap) h hR hB hk hc;have HH:=Lib.hid h;have HR:=Lib.hid hR;obtain⟨ok,bw⟩:∃ok,ok=c.any (gg V):=⟨_,rfl⟩;rw[<-bw]at hfi;have HOK:=Lib.hid bw;clear h hR hc bw;rcases ok with _|_
 .go_enter Tryz.func111,Tryz.ntmps111
  go_wp2_with fail
  refine hfi.mono ?_;rintro e w1 ⟨rfl,hb1⟩;have h1:=HH.out.below hb1;have c0:=h1.bx.cell 0;have hadd:=FB (cap:=cap) h1.fm aGl (fun b hb=>h1.lt b (h1.sub b hb)) (HR.out.below (hb1.mono hB)) (rt hB hb1.size) hk (aeq HOK.out.symm);have H1:=Lib.hid h1;have HB1:=Lib.hid hb1;clear h1 hb1 hfi
  go_wp2_with fail
  refine hadd.mono ?_;rintro e w2 ⟨rfl,⟨v,D',rv',hf,hd,hlt⟩,hfr⟩;have HF:=Lib.hid hf;have HD:=Lib.hid hd;have HL:=Lib.hid hlt;have HFR:=Lib.hid hfr;clear hf hd hlt hfr hadd
  go_wp2_with fail
  have hg:=H1.out.form HF.out HFR.out (pi _) HD.out HL.out;exact⟨rfl,.tuple #[],results_none rfl _ _ _,rfl,.pre HB1.out ⟨V,cs.length+1,_,⟨_,_,_,_,_,_,_,hg,aGn⟩,pi _,pi _,aGl,pi _,fun b hb=>hb.elim .inl fun hx=>(HD.out b hx).imp (H1.out.sub b) id,HFR.out.mono H1.out.sub⟩⟩
 .go_enter Tryz.func111,Tryz.ntmps111
  go_wp2_with fail
  refine hfi.mono ?_;rintro e w1 ⟨rfl,hb1⟩;have HB1:=Lib.hid hb1;clear hb1 hfi
  go_wp2_with fail
  exact⟨rfl,.tuple #[],results_none rfl _ _ _,rfl,.same ⟨cs,f,m,rv,Df,n,M,HH.out,rfl⟩ HB1.out⟩
set_option maxHeartbeats 1000000
variable{pb:Nat}{pa:Nat}{n:Nat}
theorem ahq{m p:Nat}{M:DataW Unit}(a b:Int)(h:fp w g V C m D n M)(hp:w.cell? ⟨p,0,none⟩=some (.pointer (some ⟨g,0,none⟩)))(ha:w.cell? ⟨pa,0,none⟩=some (.int .i64 a))(hb:w.cell? ⟨pb,0,none⟩=some (.int .i64 b))
  (hp1:p<w.heap.size/\¬D p) (ha1:pa<w.heap.size/\¬D pa) (hb1:pb<w.heap.size/\¬D pb) (hC:C<999990) (hV:1<=V/\V<=65536) (hoa:bK (V:Int) a=false) (hob:bK (V:Int) b=false) :
  Calls Tryz.prog 187 #[.int .i64 V,.func (.func 107) #[] #[.pointer (some ⟨p,0,none⟩)],.pointer (some ⟨pa,0,none⟩),.pointer (some ⟨pb,0,none⟩)] w fun e w'=>e=.returned (.tuple #[])/\(∃D',fp w' g V (C+4) m D' n M/\∀b,D' b->D b\/w.heap.size<=b)/\ak D w w':=by
 have hra:a≠0/\-(V:Int)<=a/\a<=V:=by simp[bK]at hoa;omega
 have hrb:b≠0/\-(V:Int)<=b/\b<=V:=by simp[bK]at hob;omega
 have r1:eW (V:Int) [-(V:Int),a,b]=true:=by simp[eW,bK];omega
 have r2:eW (V:Int) [-(V:Int),-a,-b]=true:=by simp[eW,bK];omega
 have r3:eW (V:Int) [(V:Int),-a,b]=true:=by simp[eW,bK];omega
 have r4:eW (V:Int) [(V:Int),a,-b]=true:=by simp[eW,bK];omega
 have n1:=IntWalk.i64_in (-(V:Int)) ⟨aGl,aGl⟩;have n2:=IntWalk.i64_in (-a) ⟨aGl,aGl⟩;have n3:=IntWalk.i64_in (-b) ⟨aGl,aGl⟩;have c1:=qi [-(V:Int),a,b] h hp hp1.1 aGl aGn r1;have R2:=Lib.hid r2;have R3:=Lib.hid r3;have R4:=Lib.hid r4;clear r1 r2 r3 r4 hoa hob hra hrb
 go_enter Tryz.func187,Tryz.ntmps187
 go_wp2_with fail
 refine c1.mono ?_;rintro e w1 ⟨rfl,⟨D1,g1,d1⟩,f1⟩;have hs1:=f1.size;have hp2:=(f1.cell (p:=⟨p,0,none⟩) hp1.1 hp1.2).trans hp;have ha2:=(f1.cell (p:=⟨pa,0,none⟩) ha1.1 ha1.2).trans ha;have hb2:=(f1.cell (p:=⟨pb,0,none⟩) hb1.1 hb1.2).trans hb;have c2:=qi [-(V:Int),-a,-b] g1 hp2 aGl aGl aGn R2.out;have D1':=Lib.hid d1;have F1:=Lib.hid f1;clear c1 d1 f1 g1
 go_wp2_with fail
 refine c2.mono ?_;rintro e w2 ⟨rfl,⟨D2,g2,d2⟩,f2⟩;have F2:=Lib.hid (F1.out.after f2 D1'.out);have hs2:=F2.out.size;have D2':Hid (∀b,D2 b->D b\/w.heap.size<=b):=Lib.hid fun b hb=>(d2 b hb).elim (D1'.out b) fun hx=>.inr aGl;have hp3:=(F2.out.cell (p:=⟨p,0,none⟩) hp1.1 hp1.2).trans hp;have ha3:=(F2.out.cell (p:=⟨pa,0,none⟩) ha1.1 ha1.2).trans ha;have hb3:=(F2.out.cell (p:=⟨pb,0,none⟩) hb1.1 hb1.2).trans hb;have c3:=qi [(V:Int),-a,b] g2 hp3 aGl aGl aGn R3.out;clear c2 d2 f2 g2 hp2 ha2 hb2
 go_wp2_with fail
 refine c3.mono ?_;rintro e w3 ⟨rfl,⟨D3,g3,d3⟩,f3⟩;have F3:=Lib.hid (F2.out.after f3 D2'.out);have hs3:=F3.out.size;have D3':Hid (∀b,D3 b->D b\/w.heap.size<=b):=Lib.hid fun b hb=>(d3 b hb).elim (D2'.out b) fun hx=>.inr aGl;have hp4:=(F3.out.cell (p:=⟨p,0,none⟩) hp1.1 hp1.2).trans hp;have ha4:=(F3.out.cell (p:=⟨pa,0,none⟩) ha1.1 ha1.2).trans ha;have hb4:=(F3.out.cell (p:=⟨pb,0,none⟩) hb1.1 hb1.2).trans hb;have c4:=qi [(V:Int),a,-b] g3 hp4 aGl aGl aGn R4.out;clear c3 d3 f3 g3 hp3 ha3 hb3
 go_wp2_with fail
 refine c4.mono ?_;rintro e w4 ⟨rfl,⟨D4,g4,d4⟩,f4⟩;have F4:=Lib.hid (F3.out.after f4 D3'.out);have D4':Hid (∀b,D4 b->D b\/w.heap.size<=b):=Lib.hid fun b hb=>(d4 b hb).elim (D3'.out b) fun hx=>.inr aGl;have G4:=Lib.hid g4;clear c4 d4 f4 g4
 go_wp2_with fail
 exact⟨rfl,.tuple #[],results_none rfl _ _ _,rfl,⟨D4,G4.out,D4'.out⟩,F4.out⟩
set_option maxHeartbeats 2000000
set_option maxRecDepth 20000
theorem qh(a b x y:Int)(h:GD w g V C D)(ha:w.cell? ⟨pa,0,none⟩=some (.int .i64 a))(hb:w.cell? ⟨pb,0,none⟩=some (.int .i64 b))
  (ha1:pa<w.heap.size/\¬D pa) (hb1:pb<w.heap.size/\¬D pb) (hC:C<999990) (hV:V<65536) (hoa:bK (V:Int) a=false) (hob:bK (V:Int) b=false) (hx:-65536<=x/\x<=65536) (hy:-65536<=y/\y<=65536) :
  Calls Tryz.prog 78 #[.pointer (some ⟨g,0,none⟩),.agg #[.int .i64 1,.int .i64 x,.int .i64 y,.int .i64 0,.string ByteArray.empty],.func (.func 187) #[] #[.pointer (some ⟨pa,0,none⟩),.pointer (some ⟨pb,0,none⟩)]] w fun e w'=>(∃r:Int,e=.returned (.int .i64 r)/\-65536<=r/\r<=65536)/\j6 w g V C 1 4 D w':=by
 obtain⟨cs,f,m,rv,Df,n,M,h,rfl⟩:=h;obtain⟨kl,hkl⟩:=F6 1 x y 0 ByteArray.empty aGo (rC hx) (rC hy) aGo aGo;have hcs:cs.length<999990:=hC;have hlt:=h.lt;have hb1':Below w.heap.size w (w.alloc (.cells #[.pointer (some ⟨g,0,none⟩)] 62)):=(Below.refl _ w).alloc (pi _) _;obtain⟨W,hW⟩:∃W,W=(w.alloc (.cells #[.pointer (some ⟨g,0,none⟩)] 62)).alloc (.cells #[.int .i64 1,.int .i64 x,.int .i64 y,.int .i64 0,.string ByteArray.empty] 147):=⟨_,rfl⟩;have hbW:Below w.heap.size w W:=by rw[hW];exact hb1'.alloc aGn _
 have hWs:W.heap.size=w.heap.size+2:=by rw[hW];simp
 have bp:af W w.heap.size 62 #[.pointer (some ⟨g,0,none⟩)]:=by rw[hW];exact(af.new w _ _).alloc _
 have bq:af W (w.heap.size+1) 147 #[.int .i64 1,.int .i64 x,.int .i64 y,.int .i64 0,.string ByteArray.empty]:=by rw[hW];have:=af.new (w.alloc (.cells #[.pointer (some ⟨g,0,none⟩)] 62)) 147 #[.int .i64 1,.int .i64 x,.int .i64 y,.int .i64 0,.string ByteArray.empty];simpa using this
 have hG:=h.below hbW;have haW:=(hbW.cell (p:=⟨pa,0,none⟩) ha1.1).trans ha;have hbW2:=(hbW.cell (p:=⟨pb,0,none⟩) hb1.1).trans hb;obtain⟨c,hck,hlook⟩:=Fs hG.mp hkl;have hcb:=hG.mb kl c hck;have hl:=hlook W.drew hG.drew.mp;have p0:=bp.drew.cell 0;have q0:=bq.drew.cell 0;have q1:=bq.drew.cell 1;have q2:=bq.drew.cell 2;have q3:=bq.drew.cell 3;have q4:=bq.drew.cell 4;have g1:=hG.drew.bx.cell 1;have GM:Hid (fp W g V cs.length m D n M):=⟨cs,f,rv,Df,hG,rfl⟩;have HLT:=Lib.hid hlt;have HBW:=Lib.hid hbW;have HWS:=Lib.hid hWs;have HBP:=Lib.hid bp;have HBQ:=Lib.hid bq;have HAW:=Lib.hid haW;have HBW2:=Lib.hid hbW2;have HKL:=Lib.hid hkl;have HW:=Lib.hid hW;have hgl:g<w.heap.size:=h.bx.lt;clear h hlt hbW hb1' hWs bp bq hG haW hbW2 hlook hkl hW;rcases hh:Maps.has M kl with _|_
 .rw[hh]at hl;clear hh;have hfr:=Fq (w:=W.drew) (GM.out.below (w':=W.drew) (Below.refl _ W).drew) hV
  go_enter Tryz.func78,Tryz.ntmps78
  go_wp2_with fail
  rw[<-HW.out];clear HW
  go_region
  clear hl q0 q1 q2 q3 q4 g1
  go_wp2_with fail
  refine hfr.mono ?_;rintro e w2 ⟨rfl,h2,f2⟩;have hs2:W.heap.size<=w2.heap.size:=f2.size;have hWs:=HWS.out;have dp:¬D w.heap.size:=fun hx=>Or _ (HLT.out _ hx);have dq:¬D (w.heap.size+1):=fun hx=>by have:=HLT.out _ hx;omega
  have p2:=f2.cC HBP.out.drew dp;have q2:=f2.cC HBQ.out.drew dq;have p0:=p2.drew.cell 0;have q0:=q2.drew.cell 0;have q1:=q2.drew.cell 1;have qq:=q2.drew.cell 2;have q3:=q2.drew.cell 3;have q4:=q2.drew.cell 4;have ha2:=(f2.cell (p:=⟨pa,0,none⟩) (by show pa<W.heap.size;omega) ha1.2).trans HAW.out;have hb2:=(f2.cell (p:=⟨pb,0,none⟩) (by show pb<W.heap.size;omega) hb1.2).trans HBW2.out;obtain⟨cs2,f',rv2,Df2,h2,e2⟩:=h2;have g1:=h2.bx.drew.cell 1;have hmp:pg w2.drew m n M:=h2.drew.mp;have hn2:n<=V:=GM.out.elim fun _ h=>h.elim fun _ h=>h.elim fun _ h=>h.elim fun _ h=>h.1.hn;have H2:Hid (fp w2.drew g (V+1) cs.length m D n M):=⟨cs2,f',rv2,Df2,h2.drew,e2⟩;have P2:=Lib.hid p2;have HA2:=Lib.hid ha2;have HB2:=Lib.hid hb2;have F2:=Lib.hid f2;clear hfr h2 e2 p2 q2 ha2 hb2 f2 dp dq;have e1:((V+1:Nat):Int)≠0:=aGl
  have e1':(((V+1:Nat):Int) == 0)=false:=pu.2 e1;obtain⟨v,hv⟩:∃v:Int,v=((V+1:Nat):Int):=⟨_,rfl⟩;rw[<-hv]at e1' |-;have HVV:=Lib.hid hv;have hvw:(Lit.int .i64 v).wf=true:=rC ⟨aGl,aGl⟩;clear hv e1
  go_wp2_with fail
  go_still_tail 6,aGm
  change wpList _ _ _ _ _ w2.drew
  go_wp2_with (at_mapUpdate;refine wpList_mapUpdate_own _ rfl _ _ _ 139 rfl 147 3 rG Tryz.underlying139 (plainElem Tryz.prog 3) m n M rfl hmp (by unfold maxLen;omega) _ _ kl rfl rfl HKL.out (.lit (.int .i64 v)) [] (plainElem_int Tryz.underlying3 hvw) ?_;intro w3 hm3 hg3)
  have hF3:ak (fun b=>b=m) w2.drew w3:=(ak.refl _ w2.drew).grown hg3 fun b hb=>by injection hb with hb;exact hb.symm
  have hD3:=H2.out.put hm3 hg3 aGl (fun k2 c2 e2=>by
   by_cases hk2:k2=kl
   .subst hk2;rw[atKey_put_same hmp.isMap (rG.key HKL.out)]at e2;have:=vm e2;have:=HVV.out;omega
   .rw[atKey_put_other hk2]at e2;have:0<=c2/\c2<=(V:Int):=GM.out.elim fun _ h=>h.elim fun _ h=>h.elim fun _ h=>h.elim fun _ h=>h.1.mb k2 c2 e2;omega)
  have dm:D m:=GM.out.elim fun _ h=>h.elim fun _ h=>h.elim fun _ h=>h.elim fun _ h=>h.1.dm;have hml:=HLT.out m dm;have hs3:w2.heap.size<=w3.heap.size:=hF3.size;have hp3:=(hF3.cC P2.out.drew aGl).cell 0;have ha3:=(hF3.cell (p:=⟨pa,0,none⟩) (by show pa<w2.heap.size;omega) (fun e=>ha1.2 (by have e:pa=m:=e;rw[e];exact dm))).trans HA2.out;have hb3:=(hF3.cell (p:=⟨pb,0,none⟩) (by show pb<w2.heap.size;omega) (fun e=>hb1.2 (by have e:pb=m:=e;rw[e];exact dm))).trans HB2.out;have h1:=ahq a b hD3 hp3 ha3 hb3 ⟨aGl,fun hx=>Or _ (HLT.out _ hx)⟩ ⟨aGl,ha1.2⟩ ⟨aGl,hb1.2⟩ aGl ⟨aGl,aGl⟩ (vp hoa) (vp hob);rw[<-HVV.out]at h1;have F3:=Lib.hid hF3;have DM:=Lib.hid dm;clear hD3 hp3 ha3 hb3 hF3 hm3 hg3 hmp dm;refine h1.mono ?_;rintro e w4 ⟨rfl,⟨D4,h4,d4⟩,f4⟩;have H4:=Lib.hid h4;have D4':=Lib.hid d4;have F4:=Lib.hid f4;clear h1 h4 d4 f4
  go_wp2_with fail
  go_ret
  have f24:ak D W.drew w2.drew:=F2.out.drew;have f34:ak D W.drew w3:=f24.trans (F3.out.mono fun b hb=>by rw[hb];exact DM.out);refine⟨⟨v,rfl,by have:=HVV.out;omega,by have:=HVV.out;omega⟩,V+1,cs.length+4,D4,H4.out.gd,aGl,pi _,aGl,pi _,fun b hb=>(D4'.out b hb).imp id fun hx=>aGl,?_⟩;exact(ak.cR HBW.out).trans ((ak.refl D W).drew.trans (f34.trans F4.out))
 .rw[hh]at hl;clear hh
  go_enter Tryz.func78,Tryz.ntmps78
  go_wp2_with fail
  rw[<-HW.out];clear HW
  go_region
  all_goals (
   go_wp2_with fail
   go_ret
   exact⟨⟨c,rfl,aGl,aGl⟩,V,cs.length,D,GM.out.gd.an (D':=fun _=>False) (ak.refl _ W).drew (fun _ _ h=>h),pi _,aGl,pi _,aGl,fun b hb=>.inl hb,(ak.cR HBW.out).drew⟩)
set_option maxHeartbeats 4000000
theorem aiz(a b:Int)(h:GD w g V C D)(hC:C<999990)(hV:V<65536)(ha:-65536<=a/\a<=65536)(hb:-65536<=b/\b<=65536) :
  Calls Tryz.prog 144 #[.pointer (some ⟨g,0,none⟩),.int .i64 a,.int .i64 b] w fun e w'=>(∃r:Int,e=.returned (.int .i64 r)/\-65536<=r/\r<=65536)/\j6 w g V C 1 4 D w':=by
 have hlt:∀b,D b->b<w.heap.size:=by obtain⟨_,_,_,_,_,_,_,h,_⟩:=h;exact h.lt
 obtain⟨W,hW⟩:∃W,W=((w.alloc (.cells #[.int .i64 a] 3)).alloc (.cells #[.int .i64 b] 3)).alloc (.cells #[.int .i64 a,.int .i64 b] 3):=⟨_,rfl⟩;have hb1:Below w.heap.size w (w.alloc (.cells #[.int .i64 a] 3)):=(Below.refl _ w).alloc (pi _) _;have hbW:Below w.heap.size w W:=by rw[hW];exact(hb1.alloc aGn _).alloc (by simp;omega) _
 have hWs:W.heap.size=w.heap.size+3:=by rw[hW];simp
 have bpa:af W w.heap.size 3 #[.int .i64 a]:=by rw[hW];exact((af.new w _ _).alloc _).alloc _
 have bpb:af W (w.heap.size+1) 3 #[.int .i64 b]:=by rw[hW];have:=(af.new (w.alloc (.cells #[.int .i64 a] 3)) 3 #[.int .i64 b]).alloc (.cells #[.int .i64 a,.int .i64 b] 3);simpa using this
 have hR:Reads W (w.heap.size+3) 1 (some ⟨w.heap.size+2,0,none⟩) 2 (iv [a,b]):=by have:=(af.new ((w.alloc (.cells #[.int .i64 a] 3)).alloc (.cells #[.int .i64 b] 3)) 3 #[.int .i64 a,.int .i64 b]).reads (xs:=iv [a,b]);rw[hW];simpa[iv]using this
 have hG:=h.below hbW;obtain⟨cs,f,m,rv,Df,n,M,hGB,hcs⟩:=hG;have hfi:=tF (cap:=2) hGB hR aGl aGl (fun i hi=>by
  rcases i with _|_|i
  .simpa using ha
  .simpa using hb
  .omega)
 have GM:Hid (GD W g V C D):=⟨cs,f,m,rv,Df,n,M,hGB,hcs⟩;have HW:=Lib.hid hW;have HBW:=Lib.hid hbW;have HPA:=Lib.hid bpa;have HPB:=Lib.hid bpb;have HLT:=Lib.hid hlt;have HH:=Lib.hid h;clear h hGB hcs hR bpa bpb hbW hb1 hW hlt;obtain⟨ok,bw⟩:∃ok,ok = !([a,b].any (gg V)):=⟨_,rfl⟩;rw[<-bw]at hfi;rcases ok with _|_
 .clear bw
  go_enter Tryz.func144,Tryz.ntmps144
  go_wp2_with fail
  rw[<-HW.out];refine hfi.mono ?_;rintro e w2 ⟨rfl,hb2⟩;have HB2:=Lib.hid hb2;clear hfi hb2
  go_wp2_with fail
  go_ret
  exact⟨⟨0,rfl,aGl,aGl⟩,.same HH.out (HBW.out.trans (HB2.out.mono HBW.out.size))⟩
 .have hab:gg V a=false/\gg V b=false:=by simp at bw;exact bw
  have hoa:bK (V:Int) a=false:=by have:=hab.1;simp[gg]at this;simp[bK];omega
  have hob:bK (V:Int) b=false:=by have:=hab.2;simp[gg]at this;simp[bK];omega
  clear bw hab;have hva:a≠0/\-(V:Int)<=a/\a<=V:=by simp[bK]at hoa;omega
  have hvb:b≠0/\-(V:Int)<=b/\b<=V:=by simp[bK]at hob;omega
  have n1:=IntWalk.i64_in (-b) ⟨aGl,aGl⟩;have n0:=IntWalk.i64_in (-a) ⟨aGl,aGl⟩;rcases(show a=1\/(a≠1/\a = -1)\/(a≠1/\a≠-1/\b=1)\/(a≠1/\a≠-1/\b≠1/\b = -1)\/(a≠1/\a≠-1/\b≠1/\b≠-1/\a=b)\/(a≠1/\a≠-1/\b≠1/\b≠-1/\a≠b/\a = -b)\/(a≠1/\a≠-1/\b≠1/\b≠-1/\a≠b/\a≠-b) by omega)with h1|⟨h1,h2⟩|⟨h1,h2,h3⟩|⟨h1,h2,h3,h4⟩|⟨h1,h2,h3,h4,h5⟩|⟨h1,h2,h3,h4,h5,h6⟩|⟨h1,h2,h3,h4,h5,h6⟩
  .have d1:(a == 1)=true:=aFc.2 h1;obtain⟨m,hm⟩:∃m,m = -a*b:=⟨_,rfl⟩;have hmb:m = -b:=by rw[hm,h1];omega
   have n5:=IntWalk.i64_in (-a*b) ⟨by rw[<-hm];omega,by rw[<-hm];omega⟩;rw[<-hm]at n5;have HM:=Lib.hid hm;clear h1 hm
   go_enter Tryz.func144,Tryz.ntmps144
   go_wp2_with fail
   rw[<-HW.out];refine hfi.mono ?_;rintro e w2 ⟨rfl,hb2⟩;have pa0:=(HPA.out.below hb2 aGl).cell 0;have pb0:=(HPB.out.below hb2 aGl).cell 0;have HB2:=Lib.hid hb2;clear hfi hb2
   go_wp2_with fail
   go_ret
   refine⟨⟨m,uH ?_,aGl,aGl⟩,.same HH.out (HBW.out.trans (HB2.out.mono HBW.out.size))⟩;rw[<-HM.out];rw[IntKind.wrap_i64]at n5
   first|exact n5|omega|(unfold wrap64;omega)
  .have d1:(a == 1)=false:=pu.2 h1;have d2:(a == -1)=true:=aFc.2 h2;obtain⟨m,hm⟩:∃m,m = -a*b:=⟨_,rfl⟩;have hmb:m=b:=by rw[hm,h2];omega
   have n5:=IntWalk.i64_in (-a*b) ⟨by rw[<-hm];omega,by rw[<-hm];omega⟩;rw[<-hm]at n5;have HM:=Lib.hid hm;clear h1 h2 hm
   go_enter Tryz.func144,Tryz.ntmps144
   go_wp2_with fail
   rw[<-HW.out];refine hfi.mono ?_;rintro e w2 ⟨rfl,hb2⟩;have pa0:=(HPA.out.below hb2 aGl).cell 0;have pb0:=(HPB.out.below hb2 aGl).cell 0;have HB2:=Lib.hid hb2;clear hfi hb2
   go_wp2_with fail
   go_ret
   refine⟨⟨m,uH ?_,aGl,aGl⟩,.same HH.out (HBW.out.trans (HB2.out.mono HBW.out.size))⟩;rw[<-HM.out];rw[IntKind.wrap_i64]at n5
   first|exact n5|omega|(unfold wrap64;omega)
  .have d1:(a == 1)=false:=pu.2 h1;have d2:(a == -1)=false:=pu.2 h2;have d3:(b == 1)=true:=aFc.2 h3;obtain⟨m,hm⟩:∃m,m = -b*a:=⟨_,rfl⟩;have hmb:m = -a:=by rw[hm,h3];omega
   have n5:=IntWalk.i64_in (-b*a) ⟨by rw[<-hm];omega,by rw[<-hm];omega⟩;rw[<-hm]at n5;have HM:=Lib.hid hm;clear h1 h2 h3 hm
   go_enter Tryz.func144,Tryz.ntmps144
   go_wp2_with fail
   rw[<-HW.out];refine hfi.mono ?_;rintro e w2 ⟨rfl,hb2⟩;have pa0:=(HPA.out.below hb2 aGl).cell 0;have pb0:=(HPB.out.below hb2 aGl).cell 0;have HB2:=Lib.hid hb2;clear hfi hb2
   go_wp2_with fail
   go_ret
   refine⟨⟨m,uH ?_,aGl,aGl⟩,.same HH.out (HBW.out.trans (HB2.out.mono HBW.out.size))⟩;rw[<-HM.out];rw[IntKind.wrap_i64]at n5
   first|exact n5|omega|(unfold wrap64;omega)
  .have d1:(a == 1)=false:=pu.2 h1;have d2:(a == -1)=false:=pu.2 h2;have d3:(b == 1)=false:=pu.2 h3;have d4:(b == -1)=true:=aFc.2 h4;obtain⟨m,hm⟩:∃m,m = -b*a:=⟨_,rfl⟩;have hmb:m=a:=by rw[hm,h4];omega
   have n5:=IntWalk.i64_in (-b*a) ⟨by rw[<-hm];omega,by rw[<-hm];omega⟩;rw[<-hm]at n5;have HM:=Lib.hid hm;clear h1 h2 h3 h4 hm
   go_enter Tryz.func144,Tryz.ntmps144
   go_wp2_with fail
   rw[<-HW.out];refine hfi.mono ?_;rintro e w2 ⟨rfl,hb2⟩;have pa0:=(HPA.out.below hb2 aGl).cell 0;have pb0:=(HPB.out.below hb2 aGl).cell 0;have HB2:=Lib.hid hb2;clear hfi hb2
   go_wp2_with fail
   go_ret
   refine⟨⟨m,uH ?_,aGl,aGl⟩,.same HH.out (HBW.out.trans (HB2.out.mono HBW.out.size))⟩;rw[<-HM.out];rw[IntKind.wrap_i64]at n5
   first|exact n5|omega|(unfold wrap64;omega)
  .have d1:(a == 1)=false:=pu.2 h1;have d2:(a == -1)=false:=pu.2 h2;have d3:(b == 1)=false:=pu.2 h3;have d4:(b == -1)=false:=pu.2 h4;have d5:(a == b)=true:=aFc.2 h5;clear h1 h2 h3 h4 h5
   go_enter Tryz.func144,Tryz.ntmps144
   go_wp2_with fail
   rw[<-HW.out];refine hfi.mono ?_;rintro e w2 ⟨rfl,hb2⟩;have pa0:=(HPA.out.below hb2 aGl).cell 0;have pb0:=(HPB.out.below hb2 aGl).cell 0;have HB2:=Lib.hid hb2;clear hfi hb2
   go_wp2_with fail
   go_ret
   exact⟨⟨_,rfl,aGl,aGl⟩,.same HH.out (HBW.out.trans (HB2.out.mono HBW.out.size))⟩
  .have d1:(a == 1)=false:=pu.2 h1;have d2:(a == -1)=false:=pu.2 h2;have d3:(b == 1)=false:=pu.2 h3;have d4:(b == -1)=false:=pu.2 h4;have d5:(a == b)=false:=pu.2 h5;have d6:(a == -b)=true:=aFc.2 h6;clear h1 h2 h3 h4 h5 h6
   go_enter Tryz.func144,Tryz.ntmps144
   go_wp2_with fail
   rw[<-HW.out];refine hfi.mono ?_;rintro e w2 ⟨rfl,hb2⟩;have pa0:=(HPA.out.below hb2 aGl).cell 0;have pb0:=(HPB.out.below hb2 aGl).cell 0;have HB2:=Lib.hid hb2;clear hfi hb2
   go_wp2_with fail
   go_ret
   exact⟨⟨_,rfl,aGl,aGl⟩,.same HH.out (HBW.out.trans (HB2.out.mono HBW.out.size))⟩
  .have d1:(a == 1)=false:=pu.2 h1;have d2:(a == -1)=false:=pu.2 h2;have d3:(b == 1)=false:=pu.2 h3;have d4:(b == -1)=false:=pu.2 h4;have d5:(a == b)=false:=pu.2 h5;have d6:(a == -b)=false:=pu.2 h6;clear h1 h2 h3 h4;rcases Int.lt_or_gt_of_ne hva.1 with sa|sa<;>rcases Int.lt_or_gt_of_ne hvb.1 with sb|sb
   .rcases(show -a < -b\/-b < -a by omega)with hlt|hlt
    .have hnl:=aFL.2 (aFe hlt);have sa':decide (a<0)=true:=by simp;omega
     have sb':decide (b<0)=true:=by simp;omega
     clear h5 h6
     go_enter Tryz.func144,Tryz.ntmps144
     go_wp2_with fail
     rw[<-HW.out];refine hfi.mono ?_;rintro e w2 ⟨rfl,hb2⟩;have pa0:=(HPA.out.below hb2 aGl).cell 0;have pb0:=(HPB.out.below hb2 aGl).cell 0;have fa0:=(HPA.out.below hb2 aGl).frozen 0;have fb0:=(HPB.out.below hb2 aGl).frozen 0;have HB2:=Lib.hid hb2;clear hfi hb2
     go_wp2_with fail
     have hfx:ak (fun b=>b=w.heap.size\/b=w.heap.size+1) w2 ((w2.setCell ⟨w.heap.size,0,none⟩ (.int .i64 (-a))).setCell ⟨w.heap.size+1,0,none⟩ (.int .i64 (-b))):=((ak.refl _ w2).setCell (.inl rfl)).setCell (.inr rfl);have hgx:=(GM.out.below HB2.out).an hfx fun b hb hx=>by have:=HLT.out b hb;omega
     have hbx:=True.intro;have qa:=(((HPA.out.below HB2.out aGl).dL 0 (.int .i64 (-a))).dz (p:=⟨w.heap.size+1,0,none⟩) (by show w.heap.size≠w.heap.size+1;omega) (.int .i64 (-b))).cell 0;have qb:=(((HPB.out.below HB2.out aGl).dz (p:=⟨w.heap.size,0,none⟩) (by show w.heap.size+1≠w.heap.size;omega) (.int .i64 (-a))).dL 0 (.int .i64 (-b))).cell 0;simp at qa qb;have hsz:((w2.setCell ⟨w.heap.size,0,none⟩ (.int .i64 (-a))).setCell ⟨w.heap.size+1,0,none⟩ (.int .i64 (-b))).heap.size=w2.heap.size:=by simp[World.setCell]
     have hw2:=HB2.out.size;have hg:=qh (w:=((w2.setCell ⟨w.heap.size,0,none⟩ (.int .i64 (-a))).setCell ⟨w.heap.size+1,0,none⟩ (.int .i64 (-b)))) (-a) (-b) (-a) (-b) hgx qa qb ⟨by rw[hsz];omega,fun hx=>Or _ (HLT.out _ hx)⟩ ⟨by rw[hsz];omega,fun hx=>by have:=HLT.out _ hx;omega⟩ hC hV (by simp[bK];omega) (by simp[bK];omega) aGl aGl;refine hg.mono ?_;rintro e w3 ⟨⟨r,rfl,hr⟩,h3⟩;have nr:=IntWalk.i64_in (-r) ⟨aGl,aGl⟩;have H3:=Lib.hid h3;have HFX:=Lib.hid hfx;clear h3 hg hgx hfx qa qb hsz
     go_wp2_with fail
     go_ret
     have hbelow:Below w.heap.size w ((w2.setCell ⟨w.heap.size,0,none⟩ (.int .i64 (-a))).setCell ⟨w.heap.size+1,0,none⟩ (.int .i64 (-b))):=(HBW.out.trans (HB2.out.mono HBW.out.size)).trans (HFX.out.below (by have:=HBW.out.size;have:=HB2.out.size;omega) fun b hb=>aGl);exact⟨⟨_,rfl,aGl,aGl⟩,H3.out.pre hbelow⟩
    .have hnl:=aFL.2 (aFe hlt);have sa':decide (a<0)=true:=by simp;omega
     have sb':decide (b<0)=true:=by simp;omega
     clear h5 h6
     go_enter Tryz.func144,Tryz.ntmps144
     go_wp2_with fail
     rw[<-HW.out];refine hfi.mono ?_;rintro e w2 ⟨rfl,hb2⟩;have pa0:=(HPA.out.below hb2 aGl).cell 0;have pb0:=(HPB.out.below hb2 aGl).cell 0;have fa0:=(HPA.out.below hb2 aGl).frozen 0;have fb0:=(HPB.out.below hb2 aGl).frozen 0;have HB2:=Lib.hid hb2;clear hfi hb2
     go_wp2_with fail
     have hfx:ak (fun b=>b=w.heap.size\/b=w.heap.size+1) w2 ((w2.setCell ⟨w.heap.size,0,none⟩ (.int .i64 (-a))).setCell ⟨w.heap.size+1,0,none⟩ (.int .i64 (-b))):=((ak.refl _ w2).setCell (.inl rfl)).setCell (.inr rfl);have hgx:=(GM.out.below HB2.out).an hfx fun b hb hx=>by have:=HLT.out b hb;omega
     have hbx:=True.intro;have qa:=(((HPA.out.below HB2.out aGl).dL 0 (.int .i64 (-a))).dz (p:=⟨w.heap.size+1,0,none⟩) (by show w.heap.size≠w.heap.size+1;omega) (.int .i64 (-b))).cell 0;have qb:=(((HPB.out.below HB2.out aGl).dz (p:=⟨w.heap.size,0,none⟩) (by show w.heap.size+1≠w.heap.size;omega) (.int .i64 (-a))).dL 0 (.int .i64 (-b))).cell 0;simp at qa qb;have hsz:((w2.setCell ⟨w.heap.size,0,none⟩ (.int .i64 (-a))).setCell ⟨w.heap.size+1,0,none⟩ (.int .i64 (-b))).heap.size=w2.heap.size:=by simp[World.setCell]
     have hw2:=HB2.out.size;have hg:=qh (w:=((w2.setCell ⟨w.heap.size,0,none⟩ (.int .i64 (-a))).setCell ⟨w.heap.size+1,0,none⟩ (.int .i64 (-b)))) (-a) (-b) (-b) (-a) hgx qa qb ⟨by rw[hsz];omega,fun hx=>Or _ (HLT.out _ hx)⟩ ⟨by rw[hsz];omega,fun hx=>by have:=HLT.out _ hx;omega⟩ hC hV (by simp[bK];omega) (by simp[bK];omega) aGl aGl;refine hg.mono ?_;rintro e w3 ⟨⟨r,rfl,hr⟩,h3⟩;have nr:=IntWalk.i64_in (-r) ⟨aGl,aGl⟩;have H3:=Lib.hid h3;have HFX:=Lib.hid hfx;clear h3 hg hgx hfx qa qb hsz
     go_wp2_with fail
     go_ret
     have hbelow:Below w.heap.size w ((w2.setCell ⟨w.heap.size,0,none⟩ (.int .i64 (-a))).setCell ⟨w.heap.size+1,0,none⟩ (.int .i64 (-b))):=(HBW.out.trans (HB2.out.mono HBW.out.size)).trans (HFX.out.below (by have:=HBW.out.size;have:=HB2.out.size;omega) fun b hb=>aGl);exact⟨⟨_,rfl,aGl,aGl⟩,H3.out.pre hbelow⟩
   .rcases(show -a<b\/b < -a by omega)with hlt|hlt
    .have hnl:=aFL.2 (aFe hlt);have sa':decide (a<0)=true:=by simp;omega
     have sb':decide (b<0)=false:=by simp;omega
     clear h5 h6
     go_enter Tryz.func144,Tryz.ntmps144
     go_wp2_with fail
     rw[<-HW.out];refine hfi.mono ?_;rintro e w2 ⟨rfl,hb2⟩;have pa0:=(HPA.out.below hb2 aGl).cell 0;have pb0:=(HPB.out.below hb2 aGl).cell 0;have fa0:=(HPA.out.below hb2 aGl).frozen 0;have fb0:=(HPB.out.below hb2 aGl).frozen 0;have HB2:=Lib.hid hb2;clear hfi hb2
     go_wp2_with fail
     have hfx:ak (fun b=>b=w.heap.size\/b=w.heap.size+1) w2 (w2.setCell ⟨w.heap.size,0,none⟩ (.int .i64 (-a))):=(ak.refl _ w2).setCell (.inl rfl);have hgx:=(GM.out.below HB2.out).an hfx fun b hb hx=>by have:=HLT.out b hb;omega
     have hbx:=True.intro;have qa:=((HPA.out.below HB2.out aGl).dL 0 (.int .i64 (-a))).cell 0;have qb:=((HPB.out.below HB2.out aGl).dz (p:=⟨w.heap.size,0,none⟩) (by show w.heap.size+1≠w.heap.size;omega) (.int .i64 (-a))).cell 0;simp at qa qb;have hsz:(w2.setCell ⟨w.heap.size,0,none⟩ (.int .i64 (-a))).heap.size=w2.heap.size:=by simp[World.setCell]
     have hw2:=HB2.out.size;have hg:=qh (w:=(w2.setCell ⟨w.heap.size,0,none⟩ (.int .i64 (-a)))) (-a) (b) (-a) (b) hgx qa qb ⟨by rw[hsz];omega,fun hx=>Or _ (HLT.out _ hx)⟩ ⟨by rw[hsz];omega,fun hx=>by have:=HLT.out _ hx;omega⟩ hC hV (by simp[bK];omega) (by simp[bK];omega) aGl aGl;refine hg.mono ?_;rintro e w3 ⟨⟨r,rfl,hr⟩,h3⟩;have nr:=IntWalk.i64_in (-r) ⟨aGl,aGl⟩;have H3:=Lib.hid h3;have HFX:=Lib.hid hfx;clear h3 hg hgx hfx qa qb hsz
     go_wp2_with fail
     go_ret
     have hbelow:Below w.heap.size w (w2.setCell ⟨w.heap.size,0,none⟩ (.int .i64 (-a))):=(HBW.out.trans (HB2.out.mono HBW.out.size)).trans (HFX.out.below (by have:=HBW.out.size;have:=HB2.out.size;omega) fun b hb=>aGl);exact⟨⟨_,rfl,aGl,aGl⟩,H3.out.pre hbelow⟩
    .have hnl:=aFL.2 (aFe hlt);have sa':decide (a<0)=true:=by simp;omega
     have sb':decide (b<0)=false:=by simp;omega
     clear h5 h6
     go_enter Tryz.func144,Tryz.ntmps144
     go_wp2_with fail
     rw[<-HW.out];refine hfi.mono ?_;rintro e w2 ⟨rfl,hb2⟩;have pa0:=(HPA.out.below hb2 aGl).cell 0;have pb0:=(HPB.out.below hb2 aGl).cell 0;have fa0:=(HPA.out.below hb2 aGl).frozen 0;have fb0:=(HPB.out.below hb2 aGl).frozen 0;have HB2:=Lib.hid hb2;clear hfi hb2
     go_wp2_with fail
     have hfx:ak (fun b=>b=w.heap.size\/b=w.heap.size+1) w2 (w2.setCell ⟨w.heap.size,0,none⟩ (.int .i64 (-a))):=(ak.refl _ w2).setCell (.inl rfl);have hgx:=(GM.out.below HB2.out).an hfx fun b hb hx=>by have:=HLT.out b hb;omega
     have hbx:=True.intro;have qa:=((HPA.out.below HB2.out aGl).dL 0 (.int .i64 (-a))).cell 0;have qb:=((HPB.out.below HB2.out aGl).dz (p:=⟨w.heap.size,0,none⟩) (by show w.heap.size+1≠w.heap.size;omega) (.int .i64 (-a))).cell 0;simp at qa qb;have hsz:(w2.setCell ⟨w.heap.size,0,none⟩ (.int .i64 (-a))).heap.size=w2.heap.size:=by simp[World.setCell]
     have hw2:=HB2.out.size;have hg:=qh (w:=(w2.setCell ⟨w.heap.size,0,none⟩ (.int .i64 (-a)))) (-a) (b) (b) (-a) hgx qa qb ⟨by rw[hsz];omega,fun hx=>Or _ (HLT.out _ hx)⟩ ⟨by rw[hsz];omega,fun hx=>by have:=HLT.out _ hx;omega⟩ hC hV (by simp[bK];omega) (by simp[bK];omega) aGl aGl;refine hg.mono ?_;rintro e w3 ⟨⟨r,rfl,hr⟩,h3⟩;have nr:=IntWalk.i64_in (-r) ⟨aGl,aGl⟩;have H3:=Lib.hid h3;have HFX:=Lib.hid hfx;clear h3 hg hgx hfx qa qb hsz
     go_wp2_with fail
     go_ret
     have hbelow:Below w.heap.size w (w2.setCell ⟨w.heap.size,0,none⟩ (.int .i64 (-a))):=(HBW.out.trans (HB2.out.mono HBW.out.size)).trans (HFX.out.below (by have:=HBW.out.size;have:=HB2.out.size;omega) fun b hb=>aGl);exact⟨⟨_,rfl,aGl,aGl⟩,H3.out.pre hbelow⟩
   .rcases(show a < -b\/-b<a by omega)with hlt|hlt
    .have hnl:=aFL.2 (aFe hlt);have sa':decide (a<0)=false:=by simp;omega
     have sb':decide (b<0)=true:=by simp;omega
     clear h5 h6
     go_enter Tryz.func144,Tryz.ntmps144
     go_wp2_with fail
     rw[<-HW.out];refine hfi.mono ?_;rintro e w2 ⟨rfl,hb2⟩;have pa0:=(HPA.out.below hb2 aGl).cell 0;have pb0:=(HPB.out.below hb2 aGl).cell 0;have fa0:=(HPA.out.below hb2 aGl).frozen 0;have fb0:=(HPB.out.below hb2 aGl).frozen 0;have HB2:=Lib.hid hb2;clear hfi hb2
     go_wp2_with fail
     have hfx:ak (fun b=>b=w.heap.size\/b=w.heap.size+1) w2 (w2.setCell ⟨w.heap.size+1,0,none⟩ (.int .i64 (-b))):=(ak.refl _ w2).setCell (.inr rfl);have hgx:=(GM.out.below HB2.out).an hfx fun b hb hx=>by have:=HLT.out b hb;omega
     have hbx:=True.intro;have qa:=((HPA.out.below HB2.out aGl).dz (p:=⟨w.heap.size+1,0,none⟩) (by show w.heap.size≠w.heap.size+1;omega) (.int .i64 (-b))).cell 0;have qb:=((HPB.out.below HB2.out aGl).dL 0 (.int .i64 (-b))).cell 0;simp at qa qb;have hsz:(w2.setCell ⟨w.heap.size+1,0,none⟩ (.int .i64 (-b))).heap.size=w2.heap.size:=by simp[World.setCell]
     have hw2:=HB2.out.size;have hg:=qh (w:=(w2.setCell ⟨w.heap.size+1,0,none⟩ (.int .i64 (-b)))) (a) (-b) (a) (-b) hgx qa qb ⟨by rw[hsz];omega,fun hx=>Or _ (HLT.out _ hx)⟩ ⟨by rw[hsz];omega,fun hx=>by have:=HLT.out _ hx;omega⟩ hC hV (by simp[bK];omega) (by simp[bK];omega) aGl aGl;refine hg.mono ?_;rintro e w3 ⟨⟨r,rfl,hr⟩,h3⟩;have nr:=IntWalk.i64_in (-r) ⟨aGl,aGl⟩;have H3:=Lib.hid h3;have HFX:=Lib.hid hfx;clear h3 hg hgx hfx qa qb hsz
     go_wp2_with fail
     go_ret
     have hbelow:Below w.heap.size w (w2.setCell ⟨w.heap.size+1,0,none⟩ (.int .i64 (-b))):=(HBW.out.trans (HB2.out.mono HBW.out.size)).trans (HFX.out.below (by have:=HBW.out.size;have:=HB2.out.size;omega) fun b hb=>aGl);exact⟨⟨_,rfl,aGl,aGl⟩,H3.out.pre hbelow⟩
    .have hnl:=aFL.2 (aFe hlt);have sa':decide (a<0)=false:=by simp;omega
     have sb':decide (b<0)=true:=by simp;omega
     clear h5 h6
     go_enter Tryz.func144,Tryz.ntmps144
     go_wp2_with fail
     rw[<-HW.out];refine hfi.mono ?_;rintro e w2 ⟨rfl,hb2⟩;have pa0:=(HPA.out.below hb2 aGl).cell 0;have pb0:=(HPB.out.below hb2 aGl).cell 0;have fa0:=(HPA.out.below hb2 aGl).frozen 0;have fb0:=(HPB.out.below hb2 aGl).frozen 0;have HB2:=Lib.hid hb2;clear hfi hb2
     go_wp2_with fail
     have hfx:ak (fun b=>b=w.heap.size\/b=w.heap.size+1) w2 (w2.setCell ⟨w.heap.size+1,0,none⟩ (.int .i64 (-b))):=(ak.refl _ w2).setCell (.inr rfl);have hgx:=(GM.out.below HB2.out).an hfx fun b hb hx=>by have:=HLT.out b hb;omega
     have hbx:=True.intro;have qa:=((HPA.out.below HB2.out aGl).dz (p:=⟨w.heap.size+1,0,none⟩) (by show w.heap.size≠w.heap.size+1;omega) (.int .i64 (-b))).cell 0;have qb:=((HPB.out.below HB2.out aGl).dL 0 (.int .i64 (-b))).cell 0;simp at qa qb;have hsz:(w2.setCell ⟨w.heap.size+1,0,none⟩ (.int .i64 (-b))).heap.size=w2.heap.size:=by simp[World.setCell]
     have hw2:=HB2.out.size;have hg:=qh (w:=(w2.setCell ⟨w.heap.size+1,0,none⟩ (.int .i64 (-b)))) (a) (-b) (-b) (a) hgx qa qb ⟨by rw[hsz];omega,fun hx=>Or _ (HLT.out _ hx)⟩ ⟨by rw[hsz];omega,fun hx=>by have:=HLT.out _ hx;omega⟩ hC hV (by simp[bK];omega) (by simp[bK];omega) aGl aGl;refine hg.mono ?_;rintro e w3 ⟨⟨r,rfl,hr⟩,h3⟩;have nr:=IntWalk.i64_in (-r) ⟨aGl,aGl⟩;have H3:=Lib.hid h3;have HFX:=Lib.hid hfx;clear h3 hg hgx hfx qa qb hsz
     go_wp2_with fail
     go_ret
     have hbelow:Below w.heap.size w (w2.setCell ⟨w.heap.size+1,0,none⟩ (.int .i64 (-b))):=(HBW.out.trans (HB2.out.mono HBW.out.size)).trans (HFX.out.below (by have:=HBW.out.size;have:=HB2.out.size;omega) fun b hb=>aGl);exact⟨⟨_,rfl,aGl,aGl⟩,H3.out.pre hbelow⟩
   .rcases(show a<b\/b<a by omega)with hlt|hlt
    .have hnl:=aFL.2 (aFe hlt);have sa':decide (a<0)=false:=by simp;omega
     have sb':decide (b<0)=false:=by simp;omega
     clear h5 h6
     go_enter Tryz.func144,Tryz.ntmps144
     go_wp2_with fail
     rw[<-HW.out];refine hfi.mono ?_;rintro e w2 ⟨rfl,hb2⟩;have pa0:=(HPA.out.below hb2 aGl).cell 0;have pb0:=(HPB.out.below hb2 aGl).cell 0;have fa0:=(HPA.out.below hb2 aGl).frozen 0;have fb0:=(HPB.out.below hb2 aGl).frozen 0;have HB2:=Lib.hid hb2;clear hfi hb2
     go_wp2_with fail
     have hfx:ak (fun b=>b=w.heap.size\/b=w.heap.size+1) w2 w2:=(ak.refl _ w2);have hgx:=(GM.out.below HB2.out).an hfx fun b hb hx=>by have:=HLT.out b hb;omega
     have hbx:=True.intro;have qa:=(HPA.out.below HB2.out aGl).cell 0;have qb:=(HPB.out.below HB2.out aGl).cell 0;simp at qa qb;have hsz:w2.heap.size=w2.heap.size:=by simp[World.setCell]
     have hw2:=HB2.out.size;have hg:=qh (w:=w2) (a) (b) (a) (b) hgx qa qb ⟨by rw[hsz];omega,fun hx=>Or _ (HLT.out _ hx)⟩ ⟨by rw[hsz];omega,fun hx=>by have:=HLT.out _ hx;omega⟩ hC hV (by simp[bK];omega) (by simp[bK];omega) aGl aGl;refine hg.mono ?_;rintro e w3 ⟨⟨r,rfl,hr⟩,h3⟩;have nr:=IntWalk.i64_in (-r) ⟨aGl,aGl⟩;have H3:=Lib.hid h3;have HFX:=Lib.hid hfx;clear h3 hg hgx hfx qa qb hsz
     go_wp2_with fail
     go_ret
     have hbelow:Below w.heap.size w w2:=(HBW.out.trans (HB2.out.mono HBW.out.size)).trans (HFX.out.below (by have:=HBW.out.size;have:=HB2.out.size;omega) fun b hb=>aGl);exact⟨⟨_,rfl,aGl,aGl⟩,H3.out.pre hbelow⟩
    .have hnl:=aFL.2 (aFe hlt);have sa':decide (a<0)=false:=by simp;omega
     have sb':decide (b<0)=false:=by simp;omega
     clear h5 h6
     go_enter Tryz.func144,Tryz.ntmps144
     go_wp2_with fail
     rw[<-HW.out];refine hfi.mono ?_;rintro e w2 ⟨rfl,hb2⟩;have pa0:=(HPA.out.below hb2 aGl).cell 0;have pb0:=(HPB.out.below hb2 aGl).cell 0;have fa0:=(HPA.out.below hb2 aGl).frozen 0;have fb0:=(HPB.out.below hb2 aGl).frozen 0;have HB2:=Lib.hid hb2;clear hfi hb2
     go_wp2_with fail
     have hfx:ak (fun b=>b=w.heap.size\/b=w.heap.size+1) w2 w2:=(ak.refl _ w2);have hgx:=(GM.out.below HB2.out).an hfx fun b hb hx=>by have:=HLT.out b hb;omega
     have hbx:=True.intro;have qa:=(HPA.out.below HB2.out aGl).cell 0;have qb:=(HPB.out.below HB2.out aGl).cell 0;simp at qa qb;have hsz:w2.heap.size=w2.heap.size:=by simp[World.setCell]
     have hw2:=HB2.out.size;have hg:=qh (w:=w2) (a) (b) (b) (a) hgx qa qb ⟨by rw[hsz];omega,fun hx=>Or _ (HLT.out _ hx)⟩ ⟨by rw[hsz];omega,fun hx=>by have:=HLT.out _ hx;omega⟩ hC hV (by simp[bK];omega) (by simp[bK];omega) aGl aGl;refine hg.mono ?_;rintro e w3 ⟨⟨r,rfl,hr⟩,h3⟩;have nr:=IntWalk.i64_in (-r) ⟨aGl,aGl⟩;have H3:=Lib.hid h3;have HFX:=Lib.hid hfx;clear h3 hg hgx hfx qa qb hsz
     go_wp2_with fail
     go_ret
     have hbelow:Below w.heap.size w w2:=(HBW.out.trans (HB2.out.mono HBW.out.size)).trans (HFX.out.below (by have:=HBW.out.size;have:=HB2.out.size;omega) fun b hb=>aGl);exact⟨⟨_,rfl,aGl,aGl⟩,H3.out.pre hbelow⟩
