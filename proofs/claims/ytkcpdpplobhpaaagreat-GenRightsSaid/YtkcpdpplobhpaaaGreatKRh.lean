import Derived.Test.YtkcpdpplobhpaaaGreatKRg
set_option linter.unusedVariables false
set_option linter.unusedSimpArgs false
set_option linter.unnecessarySimpa false
section
namespace Go.Proofs.YtkcpdpplobhpaaaGreat.V
open Go Go.RowKit
open Go.Proofs.YtkcpdpplobhpaaaGreat.Pl
set_option maxRecDepth 10000
theorem ginp {s:Gk} {D:List Int} (h:GI s D) (k:Nat):GI ⟨s.v+k,s.i++fr s.v (s.v+k),s.l,s.a⟩ D:=by
 have g:=h.grow (w:=s.v+k) (by omega) (I:=fr s.v (s.v+k)) (L:=[]) (A:=[]) (E:=[]) (by simp) (fun x hx=>nomatch hx) (fun x hx=>nomatch hx)
 simp only [List.append_nil] at g
 exact g
theorem gdat {s:Gk} {D:List Int} (h:GI s D) (k:Nat):GI ⟨s.v+k,s.i,s.l,s.a⟩ (D++fr s.v (s.v+k)):=by
 have g:=h.grow (w:=s.v+k) (by omega) (I:=[]) (L:=[]) (A:=[]) (E:=fr s.v (s.v+k)) (by simp) (fun x hx=>nomatch hx) (fun x hx=>nomatch hx)
 simp only [List.append_nil] at g
 exact g
abbrev g0 (L:List Int):Int:=gt (.int .i64) L (0:Int)
theorem rowG_0 {v k:Nat} (h:1≤k):g0 (rowG v k)=2*((v+1:Nat):Int):=by
 have e:(rowG v k)[0]?=some (2*((v+1:Nat):Int)):=by
  unfold rowG
  rw [List.getElem?_map,List.getElem?_range (by omega)];rfl
 exact gt_at (σ:=.int .i64) e
theorem rowG_i {v k:Nat} (h:1≤k):inb (0:Int) (List.length (rowG v k))=true:=Zar (by rw [rowG_len];omega)
theorem rowG_o {v k w:Nat} (h:1≤k) (hw:v+1≤w):LitOk w (g0 (rowG v k)):=by
 rw [rowG_0 h]
 exact ⟨by omega,by omega⟩
theorem rowG_v {v k:Nat} (h:1≤k):Zhs (g0 (rowG v k),())=some (((v+1:Nat):Int),()):=by
 rw [rowG_0 h]
 exact Zwy (by omega)
theorem rowG_lat {v k:Nat} {x:Int} (hx:x∈rowG v k):x / 2∈fr v (v+k):=by
 obtain ⟨j,hj,rfl⟩:=List.mem_map.1 hx
 have:=List.mem_range.1 hj
 exact frm.2 (by omega)
theorem dataL_fr (v k:Nat):dataL ((v+1:Nat):Int) ((k:Int).toNat)=fr v (v+k):=by
 unfold dataL fr
 rw [Int.toNat_natCast,show v+k - v=k by omega]
 refine List.map_congr_left fun i _=>?_
 show ((v+1:Nat):Int)+(i:Int)=((v+1+i:Nat):Int)
 omega
theorem within_is (a b:Int):gen_within_FF (a,(b,()))=some (decide (1≤a∧a≤16∧1≤b∧b≤16),()):=by
 by_cases h1:(1:Int)≤a
 ·by_cases h2:a≤16
  ·by_cases h3:(1:Int)≤b
   ·refine br_tt (dec_t h1) (br_tt ?_ (br_tt ?_ ?_))
    ·have q:iE a 16=true:=dec_t h2
     rw [q];rfl
    ·have q:iE 1 b=true:=dec_t h3
     rw [q];rfl
    ·have q:selB true (iE b 16) false=decide (1≤a∧a≤16∧1≤b∧b≤16):=by
      by_cases h4:b≤16
      ·have q:iE b 16=true:=dec_t h4
       rw [q,decide_eq_true ⟨h1,h2,h3,h4⟩];rfl
      ·have q:iE b 16=false:=dec_f h4
       rw [q,decide_eq_false (fun h=>h4 h.2.2.2)];rfl
     rw [q];rfl
   ·refine br_tt (dec_t h1) (br_tt ?_ (br_ff ?_ ?_))
    ·have q:iE a 16=true:=dec_t h2
     rw [q];rfl
    ·have q:iE 1 b=false:=dec_f h3
     rw [q];rfl
    ·rw [decide_eq_false (fun h=>h3 h.2.2.1)];rfl
  ·refine br_tt (dec_t h1) (br_ff ?_ ?_)
   ·have q:iE a 16=false:=dec_f h2
    rw [q];rfl
   ·rw [decide_eq_false (fun h=>h2 h.2.1)];rfl
 ·refine br_ff (dec_f h1) ?_
  rw [decide_eq_false (fun h=>h1 h.1)];rfl
theorem stack_no {a b:Int} (h:¬(1≤a∧a≤16∧1≤b∧b≤16)):gen_Stack_FF (a,(b,()))=some (netT ⟨0,[],[],[],[],[],[],[]⟩,((1:Int),())):=by
 refine Zba (within_is a b) (br_tt ?_ rfl)
 rw [decide_eq_false h];rfl
def stM (A W:Nat):MemD:=⟨A,W,false,[⟨((2+W+A+1:Nat):Int),rowG (2+W) A⟩],[⟨g0 (rowG 0 1),rowG (2+W) A,rowG 2 W⟩]⟩
theorem stack_is {A W:Nat} (h1:1≤A) (h2:A≤16) (h3:1≤W) (h4:W≤16):GR (gen_Stack_FF ((A:Int),((W:Int),()))):=by
 have w0:gen_within_FF ((A:Int),((W:Int),()))=some (true,()):=by rw [within_is,decide_eq_true (by omega)]
 have G1:=ginp gi0 1
 have e1:ngen_maker__inputs_FF ((1:Int),((0:Int),([],([],([],([],([],([],([],())))))))))=some (rowG 0 1,(((0+1:Nat):Int),([],([],([],([],([],([],(fr 0 (0+1),()))))))))):=g_inputs [] [] [] [] (s:=gk0) 1 (by show 0+1≤50000;omega) (by show 0+1≤50000;omega)
 have G2:=ginp G1 1
 have e2:ngen_maker__inputs_FF ((1:Int),(((0+1:Nat):Int),(fr 0 (0+1),([],([],([],([],([],([],())))))))))=some (rowG 1 1,(((2:Nat):Int),([],([],([],([],([],([],(fr 0 1++fr 1 2,()))))))))):=g_inputs [] [] [] [] (s:=⟨0+1,fr 0 1,[],[]⟩) 1 (by show 0+1+1≤50000;omega) (by rw [frlen];omega)
 have G3:=ginp G2 W
 have e3:=g_inputs [] [] [] [] (s:=⟨2,fr 0 1++fr 1 2,[],[]⟩) W (by show 2+W≤50000;omega) (by rw [List.length_append,frlen,frlen];omega)
 have G4:=glat G3 A (st:=0) (by omega) (by omega)
 have e4:=g_latchesf [] [] [] [] (s:=⟨2+W,fr 0 1++fr 1 2++fr 2 (2+W),[],[]⟩) A 0 (by show 2+W+A≤50000;omega) (by show 0+A≤50000;omega)
 have G5:=gdat G4 W
 have e5:=g_data [] [] [] [] (s:=⟨2+W+A,fr 0 1++fr 1 2++fr 2 (2+W),[]++latG (2+W) A 0,[]⟩) W (by show 2+W+A+W≤50000;omega)
 have e6:=rowG_v (v:=2+W+A) h3
 have G5:GI ⟨2+W+A+W,fr 0 1++fr 1 2++fr 2 (2+W),[]++latG (2+W) A 0,[]⟩ ([]++fr (2+W+A) (2+W+A+W)):=G5
 obtain ⟨s0,hs0⟩:∃s0:Gk,s0=⟨2+W+A+W,fr 0 1++fr 1 2++fr 2 (2+W),[]++latG (2+W) A 0,[]⟩:=⟨_,rfl⟩
 rw [←hs0] at G5
 have v0:s0.v=2+W+A+W:=by rw [hs0]
 have a0:s0.a.length=0:=by rw [hs0];rfl
 have l0:s0.l.length=A:=by rw [hs0];show ([]++latG (2+W) A 0).length=A;rw [List.nil_append,latG_len]
 have n0:s0.l.map (·.var)=fr (2+W) (2+W+A):=by rw [hs0];show ([]++latG (2+W) A 0).map (fun d:Zgv=>d.var)=_;rw [List.nil_append,latG_vars]
 have okp:LitOk s0.v (g0 (rowG 0 1)):=rowG_o (by omega) (by omega)
 have okq:LitOk s0.v (g0 (rowG 1 1)):=rowG_o (by omega) (by omega)
 have okt:∀x∈rowG (2+W) A,LitOk s0.v x:=fun x hx=>(rowG_ok x hx).up (by omega)
 obtain ⟨both,s1,e7,H1,k1⟩:=gand [] [] [] [memT (stM A W)] G5 okp okq (by omega) (by omega)
 have i1:=H1.hi;have j1:=H1.len;have c1:=H1.lo
 have l1:s1.l.length=A:=by
  have:=congrArg List.length H1.lav
  simp only [List.length_map] at this
  omega
 obtain ⟨s2,e8,H2⟩:=gcount [] [] [] [memT (stM A W)] H1.gi (L:=rowG (2+W) A) (f:=0) (fun x hx=>(okt x hx).up c1) (okp.up c1) (by rw [rowG_len];omega) (by rw [rowG_len];omega) (by rw [rowG_len];omega) (by omega)
 rw [rowG_len] at H2
 have i2:=H2.hi;have j2:=H2.len;have c2:=H2.lo
 obtain ⟨full,s3,e9,H3,k3⟩:=gall [] [] [] [memT (stM A W)] H2.gi (L:=rowG (2+W) A) (fun x hx=>((okt x hx).up c1).up c2) (by rw [rowG_len];omega) (by rw [rowG_len];omega)
 rw [rowG_len] at H3
 have i3:=H3.hi;have j3:=H3.len;have c3:=H3.lo
 obtain ⟨z,s4,e10,H4,k4⟩:=gand [] [] [] [memT (stM A W)] H3.gi (((okp.up c1).up c2).up c3) k3 (by omega) (by omega)
 have i4:=H4.hi;have j4:=H4.len;have c4:=H4.lo
 have kb:LitOk s4.v both:=((k1.up c2).up c3).up c4
 have e11:=lits_Not_is kb (by omega)
 have q1:∀a:Int,iQ a a=true:=fun a=>decide_eq_true rfl
 have p0:=rowG_i (v:=0) (k:=1) (by omega)
 have p1:=rowG_i (v:=1) (k:=1) (by omega)
 have nv:s4.l.map (·.var)=fr (2+W) (2+W+A):=(((H4.lav.trans H3.lav).trans H2.lav).trans H1.lav).trans n0
 subst hs0
 refine ⟨⟨s4.v,s4.i,s4.l,[],[z],[ntl both],[stM A W],s4.a⟩,?_,gright H4.gi (by omega) ?_ (by simp) (by simp) ?_ ?_ ?_,rfl⟩
 ·refine Zba w0 (br_ff rfl (Zba e1 ?_))
  refine Zaj ?_ ?_
  ·exact p0
  refine Zaj (q1 _) ?_
  refine Zba e2 ?_
  refine Zaj p1 ?_
  refine Zaj p0 (Zaj (Sh.Zb5s _) (Zaj (q1 _) (Zaj (q1 _) ?_)))
  refine Zba e3 (Zaj p0 (Zaj (Sh.Zb5s _) (Zaj (q1 _) ?_)))
  refine (Zaj p1 (Zaj (Sh.Zb5s _) (Zaj (q1 _) ?_)))
  refine Zba e4 (Zba e5 ?_)
  refine (Zaj (rowG_i h3) (Zba e6 (Zaj (Zsm (a:=72) (L:=([]:List Za1.T)) (x:=memT (stM A W)) (Nat.zero_le _) (by omega)) ?_)))
  refine Zba e7 (Zba e8 (Zba e9 (Zba e10 (Zaj rfl (Zba e11 (Zaj rfl ?_))))))
  rfl
 ·show ((dataL ((2+W+A+1:Nat):Int) ((W:Int).toNat))++[])++[]=_
  rw [dataL_fr,List.append_nil,List.append_nil,List.nil_append]
 ·intro m hm
  obtain rfl:=List.mem_singleton.1 hm
  refine ⟨by show (1:Int)≤(A:Int);omega,by show (A:Int)≤62;omega,by show (1:Int)≤(W:Int);omega,by show (W:Int)≤64;omega,?_,?_,by show 1≤4;omega,by show 1≤4;omega⟩
  ·intro r hr
   obtain rfl:=List.mem_singleton.1 hr
   show ((rowG (2+W) A).length:Int)=(A:Int)
   rw [rowG_len]
  ·intro x hx
   obtain rfl:=List.mem_singleton.1 hx
   refine ⟨?_,?_⟩
   ·show ((rowG (2+W) A).length:Int)=(A:Int)
    rw [rowG_len]
   ·show ((rowG 2 W).length:Int)=(W:Int)
    rw [rowG_len]
 ·intro x hx
  have c14:2+W+A+W≤s4.v:=by have c1:2+W+A+W≤s1.v:=c1;omega
  have hx:x∈[z]++([ntl both]++((rowG (2+W) A++[])++((g0 (rowG 0 1) :: (rowG (2+W) A++rowG 2 W))++[])++[])):=hx
  simp only [List.mem_append,List.mem_cons,List.not_mem_nil,or_false] at hx
  rcases hx with rfl | rfl | q | rfl | q | q
  ·exact k4
  ·exact (ntl_rng kb).1
  ·exact (rowG_ok x q).up (by omega)
  ·exact rowG_o (by omega) (by omega)
  ·exact (rowG_ok x q).up (by omega)
  ·exact (rowG_ok x q).up (by omega)
 ·intro m hm r hr x hx
  obtain rfl:=List.mem_singleton.1 hm
  obtain rfl:=List.mem_singleton.1 hr
  rw [nv]
  exact rowG_lat hx
theorem gwrite {s:Gk} {D:List Int} (h:GI s D) {A W:Nat} (h1:A≤16) (h2:W≤16) (hv:s.v≤1000) (hi:s.i.length≤1000) :
  ∃(t:Gk) (on:Int) (ad da:List Int),ngen_maker__write_FF ((A:Int),((W:Int),gT [] [] [] [] s))=some (on,(ad,(da,((t.v:Int),(t.l.map latT,([],([],([],([],(t.a.map andT,(t.i,())))))))))))∧GI t D∧t.v=s.v+1+A+W∧t.i.length=s.i.length+1+A+W∧t.l=s.l∧t.a=s.a ∧
   LitOk t.v on∧ad.length=A∧da.length=W∧(∀x∈ad,LitOk t.v x)∧∀x∈da,LitOk t.v x:=by
 have e1:=g_inputs [] [] [] [] (s:=s) 1 (by omega) (by omega)
 have e2:=g_inputs [] [] [] [] (s:=⟨s.v+1,s.i++fr s.v (s.v+1),s.l,s.a⟩) A (by show s.v+1+A≤50000;omega) (by rw [List.length_append,frlen];omega)
 have e3:=g_inputs [] [] [] [] (s:=⟨s.v+1+A,s.i++fr s.v (s.v+1)++fr (s.v+1) (s.v+1+A),s.l,s.a⟩) W (by show s.v+1+A+W≤50000;omega) (by rw [List.length_append,List.length_append,frlen,frlen];omega)
 have p0:=rowG_i (v:=s.v) (k:=1) (by omega)
 refine ⟨⟨s.v+1+A+W,s.i++fr s.v (s.v+1)++fr (s.v+1) (s.v+1+A)++fr (s.v+1+A) (s.v+1+A+W),s.l,s.a⟩,g0 (rowG s.v 1),rowG (s.v+1) A,rowG (s.v+1+A) W,?_,ginp (ginp (ginp h 1) A) W,rfl,?_,rfl,rfl,rowG_o (by omega) ?_,rowG_len ..,rowG_len ..,fun x hx=>(rowG_ok x hx).up ?_,fun x hx=>(rowG_ok x hx).up ?_⟩
 ·refine Zba e1 (Zaj p0 (Zba e2 (Zba e3 ?_)))
  rfl
 ·rw [List.length_append,List.length_append,List.length_append,frlen,frlen,frlen];omega
 ·show s.v+1≤s.v+1+A+W;omega
 ·show s.v+1+A≤s.v+1+A+W;omega
 ·exact Nat.le_refl _
section
variable (o b c:List Int) (m:List Za1.T) {s:Gk} {D:List Int}
theorem gkept (h:GI s D) {A:Nat} {K E R:List Int} {wr he on:Int} {ad da:List Int} (hK:∀x∈K,LitOk s.v x) (hd:∀x∈da,LitOk s.v x) (hl:K.length≤da.length) (hh:LitOk s.v he) (hA:A+1+K.length≤s.l.length) (hv:s.v+3*K.length≤39000) (ha:s.a.length+3*K.length≤39000) (hs:s.l.length≤40000) :
  ∃t:Gk,gen_Echo_L17 ((A:Int),(wr,(E,(R,(he,(K,((K.length:Int),((0:Int),((0:Int),((s.v:Int),(s.i,(s.l.map latT,(o,(b,(c,(m,(s.a.map andT,(on,(ad,(da,()))))))))))))))))))))=some (wr,(E,(R,((0:Int),((t.v:Int),(t.i,(t.l.map latT,(o,(b,(c,(m,(t.a.map andT,()))))))))))))∧GO s D (3*K.length) t:=by
 have hq:∃q,gen_Echo_L17 ((A:Int),(wr,(E,(R,(he,(K,((K.length:Int),((0:Int),((0:Int),((s.v:Int),(s.i,(s.l.map latT,(o,(b,(c,(m,(s.a.map andT,(on,(ad,(da,()))))))))))))))))))))=some q∧∃(t:Gk),q=(wr,(E,(R,((0:Int),((t.v:Int),(t.i,(t.l.map latT,(o,(b,(c,(m,(t.a.map andT,()))))))))))))∧GO s D (3*K.length) t:=by
  unfold gen_Echo_L17;delta u20
  refine lp_ex K.length (fun k d=>∃(t:Gk),d=((A:Int),(wr,(E,(R,(he,(K,((K.length:Int),((k:Int),((0:Int),((t.v:Int),(t.i,(t.l.map latT,(o,(b,(c,(m,(t.a.map andT,(on,(ad,(da,()))))))))))))))))))))∧GO s D (3*k) t) ?_ ?_ ⟨s,rfl,GO.refl h⟩ (Ze8 (by omega))
  ·rintro k _ hk ⟨t,rfl,G⟩
   have h1:=G.hi;have h2:=G.len;have h3:=G.lo
   have hk2:k<da.length:=by omega
   have eg:gt (.int .i64) K (k:Int)=K[k]:=gt_at (σ:=.int .i64) (List.getElem?_eq_getElem hk)
   have eh:gt (.int .i64) da (k:Int)=da[k]:=gt_at (σ:=.int .i64) (List.getElem?_eq_getElem hk2)
   obtain ⟨z,s1,e1,G1,k1⟩:=gchoose o b c m G.gi (hh.up h3) ((hd da[k] (List.getElem_mem hk2)).up h3) ((hK K[k] (List.getElem_mem hk)).up h3) (by omega) (by omega)
   have hlen:s1.l.length=s.l.length:=by
    have:=congrArg List.length (G1.lav.trans G.lav)
    simpa using this
   have ew0:IntKind.wrap .i64 ((A:Int)+1)=((A+1:Nat):Int):=i64n (x:=(A:Int)+1) (n:=A+1) (by omega) (by omega)
   have ew:IntKind.wrap .i64 (IntKind.wrap .i64 ((A:Int)+1)+(k:Int))=((A+1+k:Nat):Int):=by
    rw [ew0]
    exact i64n (x:=((A+1:Nat):Int)+(k:Int)) (n:=A+1+k) (by omega) (by omega)
   obtain ⟨G2,es⟩:=gset (k:=A+1+k) G1.gi ew (by omega) z k1
   have e1:ngen_maker__choose_FF (he,(gt (.int .i64) da (k:Int),(gt (.int .i64) K (k:Int),gT o b c m t)))=some (z,gT o b c m s1):=by rw [eg,eh];exact e1
   have q1:∀a:Int,iQ a a=true:=fun a=>decide_eq_true rfl
   have i1:inb (k:Int) (List.length K)=true:=Zar (by omega)
   have i2:inb (k:Int) (List.length da)=true:=Zar (by omega)
   have i3:inb (IntKind.wrap .i64 (IntKind.wrap .i64 ((A:Int)+1)+(k:Int))) (List.length (s1.l.map latT))=true:=by rw [ew];exact Zar (by rw [List.length_map];omega)
   refine ⟨_,br_tt (dec_t (show (k:Int)<(K.length:Int) by omega)) (Zaj i1 (Zaj i2 (Zba e1 (Zaj i3 (Zaj (q1 _) (Zaj (q1 _) (Zaj (q1 _) (Zaj (q1 _) rfl)))))))),⟨s1.v,s1.i,setNx s1.l (A+1+k) z,s1.a⟩,?_,G.trans (G1.trans G2 (Nat.le_refl _)) (by omega)⟩
   show ((A:Int),(wr,(E,(R,(he,(K,((K.length:Int),(IntKind.wrap .i64 ((k:Int)+1),((0:Int),((s1.v:Int),(s1.i,(List.set (s1.l.map latT) (Int.toNat (IntKind.wrap .i64 (IntKind.wrap .i64 ((A:Int)+1)+(k:Int)))) ((gt Za0 (s1.l.map latT) (IntKind.wrap .i64 (IntKind.wrap .i64 ((A:Int)+1)+(k:Int)))).1,(z,((gt Za0 (s1.l.map latT) (IntKind.wrap .i64 (IntKind.wrap .i64 ((A:Int)+1)+(k:Int)))).2.2.1,()))),(o,(b,(c,(m,(s1.a.map andT,(on,(ad,(da,()))))))))))))))))))))=_
   rw [i64n (x:=(k:Int)+1) (n:=k+1) (by omega) (by omega),es]
  ·rintro _ ⟨t,rfl,G⟩
   exact ⟨_,br_ff (dec_f (show ¬(K.length:Int)<(K.length:Int) by omega)) rfl,t,rfl,G⟩
 obtain ⟨_,e,t,rfl,G⟩:=hq
 exact ⟨t,e,G⟩
end
def ecM (v A W:Nat) (ws:List Zz7):MemD:=⟨A,W,true,[⟨((v+A+1+W+1:Nat):Int),rowG v A⟩],ws⟩
theorem echo_tail {s:Gk} (h:GI s []) {A W:Nat} (h1:1≤A) (h2:A≤16) (h3:1≤W) (h4:W≤16) (hl:s.l=[]) (ha:s.a=[]) (hv:s.v≤100) (hi:s.i.length≤100) {on:Int} {ad da:List Int} (kon:LitOk s.v on) (lad:ad.length=A) (lda:da.length=W) (kad:∀x∈ad,LitOk s.v x) (kda:∀x∈da,LitOk s.v x)
  {ws:List Zz7} (hw:ws.length≤4) (hws:∀x∈ws,x.addr.length=A∧x.data.length=W∧LitOk s.v x.on∧(∀y∈x.addr,LitOk s.v y)∧∀y∈x.data,LitOk s.v y) :
  ∃(s4 s5 s6 s7 s9 s10 s11:Gk) (sm he x eq z:Int),
   ngen_maker__latchesf_FF ((A:Int),((2:Int),gT [] [] [] [] s))=some (rowG s.v A,(((s.v+A:Nat):Int),(s.i,([],([],([],([],(s.a.map andT,((s.l++latG s.v A 2).map latT,()))))))))) ∧
   ngen_maker__latchesf_FF ((1:Int),((0:Int),gT [] [] [] [] ⟨s.v+A,s.i,s.l++latG s.v A 2,s.a⟩))=some (rowG (s.v+A) 1,(((s.v+A+1:Nat):Int),(s.i,([],([],([],([],(s.a.map andT,((s.l++latG s.v A 2++latG (s.v+A) 1 0).map latT,()))))))))) ∧
   ngen_maker__latchesf_FF ((W:Int),((0:Int),gT [] [] [] [] ⟨s.v+A+1,s.i,s.l++latG s.v A 2++latG (s.v+A) 1 0,s.a⟩))=some (rowG (s.v+A+1) W,(((s.v+A+1+W:Nat):Int),(s.i,([],([],([],([],(s.a.map andT,((s.l++latG s.v A 2++latG (s.v+A) 1 0++latG (s.v+A+1) W 0).map latT,()))))))))) ∧
   ngen_maker__data_FF ((W:Int),gT [] [] [] [] ⟨s.v+A+1+W,s.i,s.l++latG s.v A 2++latG (s.v+A) 1 0++latG (s.v+A+1) W 0,s.a⟩)=some (rowG (s.v+A+1+W) W,gT [] [] [] [] s4) ∧
   ngen_maker__same_FF (ad,(rowG s.v A,gT [] [] [] [memT (ecM s.v A W ws)] s4))=some (sm,gT [] [] [] [memT (ecM s.v A W ws)] s5) ∧
   ngen_maker__and_FF (on,(sm,gT [] [] [] [memT (ecM s.v A W ws)] s5))=some (he,gT [] [] [] [memT (ecM s.v A W ws)] s6) ∧
   ngen_maker__or_FF (he,(g0 (rowG (s.v+A) 1),gT [] [] [] [memT (ecM s.v A W ws)] s6))=some (x,gT [] [] [] [memT (ecM s.v A W ws)] s7) ∧
   inb (A:Int) (List.length (s7.l.map latT))=true ∧
   gen_Echo_L17 ((A:Int),(g0 (rowG (s.v+A) 1),(rowG (s.v+A+1) W,(rowG (s.v+A+1+W) W,(he,(rowG (s.v+A+1) W,(((rowG (s.v+A+1) W).length:Int),((0:Int),((0:Int),((s7.v:Int),(s7.i,(List.set (s7.l.map latT) (Int.toNat (A:Int)) ((gt Za0 (s7.l.map latT) (A:Int)).1,(x,((gt Za0 (s7.l.map latT) (A:Int)).2.2.1,()))),([],([],([],([memT (ecM s.v A W ws)],(s7.a.map andT,(on,(ad,(da,())))))))))))))))))))) =
    some (g0 (rowG (s.v+A) 1),(rowG (s.v+A+1) W,(rowG (s.v+A+1+W) W,((0:Int),((s9.v:Int),(s9.i,(s9.l.map latT,([],([],([],([memT (ecM s.v A W ws)],(s9.a.map andT,())))))))))))) ∧
   ngen_maker__same_FF (rowG (s.v+A+1+W) W,(rowG (s.v+A+1) W,gT [] [] [] [memT (ecM s.v A W ws)] s9))=some (eq,gT [] [] [] [memT (ecM s.v A W ws)] s10) ∧
   lits_Not_FF (eq,())=some (ntl eq,()) ∧
   ngen_maker__and_FF (g0 (rowG (s.v+A) 1),(ntl eq,gT [] [] [] [memT (ecM s.v A W ws)] s10))=some (z,gT [] [] [] [memT (ecM s.v A W ws)] s11) ∧
   Pl.Zkz ⟨s11.v,s11.i,s11.l,[],[z],[],[ecM s.v A W ws],s11.a⟩=0:=by
 have ll:s.l.length=0:=by rw [hl];rfl
 have la:s.a.length=0:=by rw [ha];rfl
 have G1:=glat h A (st:=2) (by omega) (by omega)
 have e1:=g_latchesf [] [] [] [] (s:=s) A 2 (by omega) (by omega)
 have G2:=glat G1 1 (st:=0) (by omega) (by omega)
 have e2:=g_latchesf [] [] [] [] (s:=⟨s.v+A,s.i,s.l++latG s.v A 2,s.a⟩) 1 0 (by show s.v+A+1≤50000;omega) (by rw [List.length_append,latG_len];omega)
 have G3:=glat G2 W (st:=0) (by omega) (by omega)
 have e3:=g_latchesf [] [] [] [] (s:=⟨s.v+A+1,s.i,s.l++latG s.v A 2++latG (s.v+A) 1 0,s.a⟩) W 0 (by show s.v+A+1+W≤50000;omega) (by rw [List.length_append,List.length_append,latG_len,latG_len];omega)
 have G4:=gdat G3 W
 have e4:=g_data [] [] [] [] (s:=⟨s.v+A+1+W,s.i,s.l++latG s.v A 2++latG (s.v+A) 1 0++latG (s.v+A+1) W 0,s.a⟩) W (by show s.v+A+1+W+W≤50000;omega)
 obtain ⟨s4,h4e⟩:∃s4:Gk,s4=⟨s.v+A+1+W+W,s.i,s.l++latG s.v A 2++latG (s.v+A) 1 0++latG (s.v+A+1) W 0,s.a⟩:=⟨_,rfl⟩
 have G4:GI ⟨s.v+A+1+W+W,s.i,s.l++latG s.v A 2++latG (s.v+A) 1 0++latG (s.v+A+1) W 0,s.a⟩ ([]++fr (s.v+A+1+W) (s.v+A+1+W+W)):=G4
 rw [←h4e] at G4
 have e4:ngen_maker__data_FF ((W:Int),gT [] [] [] [] ⟨s.v+A+1+W,s.i,s.l++latG s.v A 2++latG (s.v+A) 1 0++latG (s.v+A+1) W 0,s.a⟩)=some (rowG (s.v+A+1+W) W,gT [] [] [] [] s4):=by rw [h4e];exact e4
 have v4:s4.v=s.v+A+1+W+W:=by rw [h4e]
 have a4:s4.a.length=0:=by rw [h4e];exact la
 have l4:s4.l.length=A+1+W:=by rw [h4e];show (s.l++latG s.v A 2++latG (s.v+A) 1 0++latG (s.v+A+1) W 0).length=_;rw [List.length_append,List.length_append,List.length_append,latG_len,latG_len,latG_len];omega
 have n4:∀x∈fr s.v (s.v+A),x∈s4.l.map (fun d:Zgv=>d.var):=by
  intro x hx
  rw [h4e]
  show x∈(s.l++latG s.v A 2++latG (s.v+A) 1 0++latG (s.v+A+1) W 0).map (fun d:Zgv=>d.var)
  rw [List.map_append,List.map_append,List.map_append,latG_vars]
  exact List.mem_append_left _ (List.mem_append_left _ (List.mem_append_right _ hx))
 clear G1 G2 G3 h4e
 have kwr:LitOk s4.v (g0 (rowG (s.v+A) 1)):=rowG_o (by omega) (by omega)
 obtain ⟨sm,s5,e5,H5,k5⟩:=gsame [] [] [] [memT (ecM s.v A W ws)] G4 (L:=ad) (M:=rowG s.v A) (fun x hx=>(kad x hx).up (by omega)) (fun x hx=>(rowG_ok x hx).up (by omega)) (by rw [rowG_len];omega) (by omega) (by omega)
 have i5:=H5.hi;have j5:=H5.len;have c5:=H5.lo
 obtain ⟨he,s6,e6,H6,k6⟩:=gand [] [] [] [memT (ecM s.v A W ws)] H5.gi (kon.up (by omega)) k5 (by omega) (by omega)
 have i6:=H6.hi;have j6:=H6.len;have c6:=H6.lo
 obtain ⟨x,s7,e7,H7,k7⟩:=gor [] [] [] [memT (ecM s.v A W ws)] H6.gi k6 (kwr.up (by omega)) (by omega) (by omega)
 have i7:=H7.hi;have j7:=H7.len;have c7:=H7.lo
 have l7:s7.l.length=A+1+W:=by
  have:=congrArg List.length ((H7.lav.trans H6.lav).trans H5.lav)
  simp only [List.length_map] at this
  omega
 obtain ⟨H8,es⟩:=gset (k:=A) H7.gi rfl (by omega) x k7
 have l8:(setNx s7.l A x).length=A+1+W:=by
  have:=congrArg List.length (setNx_vars s7.l A x)
  simp only [List.length_map] at this
  omega
 obtain ⟨s9,e9,H9⟩:=gkept [] [] [] [memT (ecM s.v A W ws)] (s:=⟨s7.v,s7.i,setNx s7.l A x,s7.a⟩) H8.gi (A:=A) (K:=rowG (s.v+A+1) W) (E:=rowG (s.v+A+1) W) (R:=rowG (s.v+A+1+W) W) (wr:=g0 (rowG (s.v+A) 1)) (he:=he) (on:=on) (ad:=ad) (da:=da)
  (fun y hy=>(rowG_ok y hy).up (show s.v+A+1+W≤s7.v by omega)) (fun y hy=>(kda y hy).up (show s.v≤s7.v by omega)) (by rw [rowG_len];omega) (k6.up c7) (by rw [rowG_len];show A+1+W≤(setNx s7.l A x).length;omega) (by rw [rowG_len];show s7.v+3*W≤39000;omega) (by rw [rowG_len];show s7.a.length+3*W≤39000;omega) (show (setNx s7.l A x).length≤40000 by omega)
 rw [rowG_len] at H9
 have i9:s9.v≤s7.v+3*W:=H9.hi
 have j9:s9.a.length≤s7.a.length+3*W:=H9.len
 have c9:s7.v≤s9.v:=H9.lo
 obtain ⟨eq,s10,e10,H10,k10⟩:=gsame [] [] [] [memT (ecM s.v A W ws)] H9.gi (L:=rowG (s.v+A+1+W) W) (M:=rowG (s.v+A+1) W) (fun y hy=>(rowG_ok y hy).up (by omega)) (fun y hy=>(rowG_ok y hy).up (by omega)) (by rw [rowG_len,rowG_len];omega) (by rw [rowG_len];omega) (by rw [rowG_len];omega)
 rw [rowG_len] at H10
 have i10:=H10.hi;have j10:=H10.len;have c10:=H10.lo
 obtain ⟨z,s11,e11,H11,k11⟩:=gand [] [] [] [memT (ecM s.v A W ws)] H10.gi (kwr.up (by omega)) (ntl_rng k10).1 (by omega) (by omega)
 have i11:=H11.hi;have j11:=H11.len;have c11:=H11.lo
 have nv:s11.l.map (fun d:Zgv=>d.var)=s4.l.map (fun d:Zgv=>d.var):=(H11.lav.trans (H10.lav.trans (H9.lav.trans (H8.lav.trans (H7.lav.trans (H6.lav.trans H5.lav))))))
 refine ⟨s4,s5,s6,s7,s9,s10,s11,sm,he,x,eq,z,e1,e2,e3,e4,e5,e6,e7,Zar (by rw [List.length_map];omega),by rw [es];exact e9,e10,lits_Not_is k10 (by omega),e11,gright H11.gi (by omega) ?_ (by simp) (by simp) ?_ ?_ ?_⟩
 ·show ((dataL ((s.v+A+1+W+1:Nat):Int) ((W:Int).toNat))++[])++[]=_
  rw [dataL_fr,List.append_nil,List.append_nil,List.nil_append]
 ·intro m hm
  obtain rfl:=List.mem_singleton.1 hm
  refine ⟨by show (1:Int)≤(A:Int);omega,by show (A:Int)≤62;omega,by show (1:Int)≤(W:Int);omega,by show (W:Int)≤64;omega,?_,?_,by show 1≤4;omega,hw⟩
  ·intro r hr
   obtain rfl:=List.mem_singleton.1 hr
   show ((rowG s.v A).length:Int)=(A:Int)
   rw [rowG_len]
  ·intro y hy
   obtain ⟨q1,q2,_⟩:=hws y hy
   exact ⟨by show (y.addr.length:Int)=(A:Int);omega,by show (y.data.length:Int)=(W:Int);omega⟩
 ·intro y hy
  have hy:y∈[z]++([]++((rowG s.v A++[])++ws.flatMap Za4e++[])):=hy
  simp only [List.mem_append,List.mem_cons,List.not_mem_nil,or_false,false_or] at hy
  rcases hy with rfl | q | q
  ·exact k11
  ·exact (rowG_ok y q).up (by omega)
  ·obtain ⟨u,hu,q⟩:=List.mem_flatMap.1 q
   obtain ⟨_,_,q3,q4,q5⟩:=hws u hu
   unfold Za4e at q
   simp only [List.mem_append,List.mem_cons] at q
   rcases q with rfl | q | q
   ·exact q3.up (by omega)
   ·exact (q4 y q).up (by omega)
   ·exact (q5 y q).up (by omega)
 ·intro m hm r hr y hy
  obtain rfl:=List.mem_singleton.1 hm
  obtain rfl:=List.mem_singleton.1 hr
  rw [nv]
  exact n4 _ (rowG_lat hy)
theorem echo_no {a b:Int} (second:Bool) (h:¬(1≤a∧a≤16∧1≤b∧b≤16)):gen_Echo_FF (a,(b,(second,())))=some (netT ⟨0,[],[],[],[],[],[],[]⟩,((1:Int),())):=by
 refine Zba (within_is a b) (br_tt ?_ rfl)
 rw [decide_eq_false h];rfl
theorem echo_is {A W:Nat} (second:Bool) (h1:1≤A) (h2:A≤16) (h3:1≤W) (h4:W≤16):GR (gen_Echo_FF ((A:Int),((W:Int),(second,())))):=by
 have w0:gen_within_FF ((A:Int),((W:Int),()))=some (true,()):=by rw [within_is,decide_eq_true (by omega)]
 obtain ⟨t,on,ad,da,e1,G,v1,i1,l1,a1,k1,k2,k3,k4,k5⟩:=gwrite gi0 h2 h4 (by show 0≤1000;omega) (by show 0≤1000;omega)
 have v1:t.v=0+1+A+W:=v1
 have i1:t.i.length=0+1+A+W:=i1
 have l1:t.l=[]:=l1
 have a1:t.a=[]:=a1
 have q1:∀a:Int,iQ a a=true:=fun a=>decide_eq_true rfl
 cases second with
 | true=>
  obtain ⟨u,on',ad',da',e2,G2,v2,i2,l2,a2,m1,m2,m3,m4,m5⟩:=gwrite G h2 h4 (by omega) (by omega)
  obtain ⟨s4,s5,s6,s7,s9,s10,s11,sm,he,x,eq,z,f1,f2,f3,f4,f5,f6,f7,f8,f9,f10,f11,f12,fc⟩:=echo_tail (s:=u) G2 h1 h2 h3 h4 (l2.trans l1) (a2.trans a1) (by omega) (by omega) (k1.up (by omega)) k2 k3 (fun y hy=>(k4 y hy).up (by omega)) (fun y hy=>(k5 y hy).up (by omega))
   (ws:=[⟨on,ad,da⟩,⟨on',ad',da'⟩]) (by simp) (fun y hy=>by
    rcases List.mem_cons.1 hy with rfl | hy
    ·exact ⟨k2,k3,k1.up (by omega),fun y hy=>(k4 y hy).up (by omega),fun y hy=>(k5 y hy).up (by omega)⟩
    ·obtain rfl:=List.mem_singleton.1 hy
     exact ⟨m2,m3,m1,m4,m5⟩)
  have p0:=rowG_i (v:=u.v+A) (k:=1) (by omega)
  have e6:=rowG_v (v:=u.v+A+1+W) h3
  refine ⟨⟨s11.v,s11.i,s11.l,[],[z],[],[ecM u.v A W [⟨on,ad,da⟩,⟨on',ad',da'⟩]],s11.a⟩,?_,fc,rfl⟩
  refine Zba w0 (br_ff rfl (Zba e1 (br_tt rfl (Zba e2 (Zba f1 (Zaj (q1 _) (Zba f2 (Zaj p0 (Zaj (q1 _) (Zba f3 (Zaj p0 (Zaj (Sh.Zb5s _) (Zaj (q1 _) (Zba f4 ?_))))))))))))))
  refine Zaj (rowG_i h3) (Zba e6 (Zaj (Zsm (a:=72) (L:=([]:List Za1.T)) (x:=memT (ecM u.v A W [⟨on,ad,da⟩,⟨on',ad',da'⟩])) (Nat.zero_le _) (by omega)) ?_))
  refine Zba f5 (Zba f6 (Zba f7 (Zaj f8 (Zaj (q1 _) (Zba f9 (Zba f10 (Zba f11 (Zba f12 (Zaj rfl ?_)))))))))
  rfl
 | false=>
  obtain ⟨s4,s5,s6,s7,s9,s10,s11,sm,he,x,eq,z,f1,f2,f3,f4,f5,f6,f7,f8,f9,f10,f11,f12,fc⟩:=echo_tail (s:=t) G h1 h2 h3 h4 l1 a1 (by omega) (by omega) k1 k2 k3 k4 k5
   (ws:=[⟨on,ad,da⟩]) (by simp) (fun y hy=>by
    obtain rfl:=List.mem_singleton.1 hy
    exact ⟨k2,k3,k1,k4,k5⟩)
  have p0:=rowG_i (v:=t.v+A) (k:=1) (by omega)
  have e6:=rowG_v (v:=t.v+A+1+W) h3
  refine ⟨⟨s11.v,s11.i,s11.l,[],[z],[],[ecM t.v A W [⟨on,ad,da⟩]],s11.a⟩,?_,fc,rfl⟩
  refine Zba w0 (br_ff rfl (Zba e1 (br_ff rfl (Zba f1 (Zaj (q1 _) (Zba f2 (Zaj p0 (Zaj (q1 _) (Zba f3 (Zaj p0 (Zaj (Sh.Zb5s _) (Zaj (q1 _) (Zba f4 ?_)))))))))))))
  refine Zaj (rowG_i h3) (Zba e6 (Zaj (Zsm (a:=72) (L:=([]:List Za1.T)) (x:=memT (ecM t.v A W [⟨on,ad,da⟩])) (Nat.zero_le _) (by omega)) ?_))
  refine Zba f5 (Zba f6 (Zba f7 (Zaj f8 (Zaj (q1 _) (Zba f9 (Zba f10 (Zba f11 (Zba f12 (Zaj rfl ?_)))))))))
  rfl
theorem kind_is (k a b:Int):GR (gen_Kind_FF (k,(a,(b,()))))∨gen_Kind_FF (k,(a,(b,())))=some (netT ⟨0,[],[],[],[],[],[],[]⟩,((1:Int),())):=by
 have pass:∀{x:Option (Za5.T×Int×Unit)},(GR x∨x=some (netT ⟨0,[],[],[],[],[],[],[]⟩,((1:Int),())))→∀{y:Option (Za5.T×Int×Unit)},(∀n:NetD,∀f:Int,x=some (netT n,(f,()))→y=some (netT n,(f,())))→GR y∨y=some (netT ⟨0,[],[],[],[],[],[],[]⟩,((1:Int),())):=by
  rintro x (⟨n,e,h1,h2⟩ | e) y h
  ·exact .inl ⟨n,h n 0 e,h1,h2⟩
  ·exact .inr (h _ 1 e)
 by_cases q0:k=0
 ·have hx:GR (gen_Counter_FF (a,(IntKind.wrap .u64 b,())))∨gen_Counter_FF (a,(IntKind.wrap .u64 b,()))=some (netT ⟨0,[],[],[],[],[],[],[]⟩,((1:Int),())):=by
   by_cases h:a<1∨20<a
   ·exact .inr (counter_no h)
   ·have e:a=(a.toNat:Int):=by omega
    rw [e]
    exact .inl (counter_is (by omega) (by omega) _)
  exact pass hx (fun n f e=>br_tt (dec_t q0) (Zba e rfl))
 have he:∀second:Bool,GR (gen_Echo_FF (a,(b,(second,()))))∨gen_Echo_FF (a,(b,(second,())))=some (netT ⟨0,[],[],[],[],[],[],[]⟩,((1:Int),())):=by
  intro second
  by_cases h:1≤a∧a≤16∧1≤b∧b≤16
  ·have e:a=(a.toNat:Int):=by omega
   have e':b=(b.toNat:Int):=by omega
   rw [e,e']
   exact .inl (echo_is second (by omega) (by omega) (by omega) (by omega))
  ·exact .inr (echo_no second h)
 by_cases q2:k=2
 ·exact pass (he true) (fun n f e=>br_ff (dec_f q0) (br_tt (dec_t q2) (Zba e rfl)))
 by_cases q1:k=1
 ·exact pass (he false) (fun n f e=>br_ff (dec_f q0) (br_ff (dec_f q2) (br_tt (dec_t q1) (Zba e rfl))))
 by_cases q3:k=3
 ·have hx:GR (gen_Stack_FF (a,(b,())))∨gen_Stack_FF (a,(b,()))=some (netT ⟨0,[],[],[],[],[],[],[]⟩,((1:Int),())):=by
   by_cases h:1≤a∧a≤16∧1≤b∧b≤16
   ·have e:a=(a.toNat:Int):=by omega
    have e':b=(b.toNat:Int):=by omega
    rw [e,e']
    exact .inl (stack_is (by omega) (by omega) (by omega) (by omega))
   ·exact .inr (stack_no h)
  exact pass hx (fun n f e=>br_ff (dec_f q0) (br_ff (dec_f q2) (br_ff (dec_f q1) (br_tt (dec_t q3) (Zba e rfl)))))
 ·exact .inr (br_ff (dec_f q0) (br_ff (dec_f q2) (br_ff (dec_f q1) (br_ff (dec_f q3) rfl))))
end Go.Proofs.YtkcpdpplobhpaaaGreat.V
end
section
namespace Go.Proofs.YtkcpdpplobhpaaaGreat.V
open Go Go.RowKit
set_option maxRecDepth 1000000
abbrev astrariumlaw39_alive_σs:List Sh:=[]
abbrev astrariumlaw39_alive_τs:List Sh:=[.bool]
abbrev astrariumlaw39_alive_T:=TL astrariumlaw39_alive_σs→Option (TL astrariumlaw39_alive_τs)
abbrev astrariumlaw39_alive_D:=Kd 37 astrariumlaw39_alive_σs astrariumlaw39_alive_τs
def astrariumlaw39_alive_F (F0:reach_Search_T) (F1:gen_Counter_T)  :Option (TL astrariumlaw39_alive_τs):=
 bnd (F1 ((1:Int),((1:Int),()))) fun x0=>
 bnd (F0 ((x0.1.1,(x0.1.2.1,(x0.1.2.2.1,(x0.1.2.2.2.1,(x0.1.2.2.2.2.1,(x0.1.2.2.2.2.2.1,(x0.1.2.2.2.2.2.2.1,(x0.1.2.2.2.2.2.2.2.1,())))))))),((9:Int),()))) fun x1=>
 br (iQ x0.2.1 (0:Int))
 (
  br (selB true (iQ (Int.ofNat (List.length x0.1.2.2.1)) (1:Int)) false)
  (
   br (selB true (iQ (Int.ofNat (List.length x0.1.2.2.2.2.2.2.2.1)) (5:Int)) false)
   (
    br (selB true (iQ x1.2.1 (0:Int)) false)
    (
     some ((selB true (iQ x1.1.2.1 (2:Int)) false),()))
    (
     some (false,())))
   (
    some (false,())))
  (
   some (false,())))
 (
  some (false,()))
def astrariumlaw39_alive_G (c0:reach_Search_D) (c1:gen_Counter_D) :astrariumlaw39_alive_D:=⟨fun d=>astrariumlaw39_alive_F c0.F c1.F  ,pZ Tryz.func37 37 (kD c0 (kD c1 k0)) e0 1 (sS l0) fun d=>by kernel_rfl⟩
def astrariumlaw39_alive_K:astrariumlaw39_alive_D:=astrariumlaw39_alive_G reach_Search_K gen_Counter_K 
def astrariumlaw39_alive_FF:astrariumlaw39_alive_T:=astrariumlaw39_alive_K.F
theorem alive39_is:astrariumlaw39_alive_FF ()=some (true,()):=by kernel_rfl
end Go.Proofs.YtkcpdpplobhpaaaGreat.V
end
