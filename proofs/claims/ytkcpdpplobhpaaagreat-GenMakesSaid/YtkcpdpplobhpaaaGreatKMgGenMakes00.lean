import Derived.Test.YtkcpdpplobhpaaaGreatKRi
import Derived.Test.YtkcpdpplobhpaaaGreatKRh
import Derived.Test.YtkcpdpplobhpaaaGreatKMf
set_option linter.unusedSectionVars false
set_option linter.unusedVariables false
set_option linter.unusedSimpArgs false
set_option linter.unnecessarySimpa false
/- gen's Echo, Kind, and the document's: the same; the law GenMakes: true. -/
namespace Go.Proofs.YtkcpdpplobhpaaaGreat.V
open Go Go.RowKit
open Go.Proofs.YtkcpdpplobhpaaaGreat.Pl
set_option maxRecDepth 10000
theorem recho_no {a b:Int} (second:Bool) (h:¬(1≤a∧a≤16∧1≤b∧b≤16)):astrariumref39_Echo_FF (a,(b,(second,())))=some (netT ⟨0,[],[],[],[],[],[],[]⟩,((1:Int),())):=by
 refine Zba (widths_is a b) (br_tt ?_ rfl)
 rw [decide_eq_false h];rfl
theorem gecho_no {a b:Int} (second:Bool) (h:¬(1≤a∧a≤16∧1≤b∧b≤16)):gen_Echo_FF (a,(b,(second,())))=some (netT ⟨0,[],[],[],[],[],[],[]⟩,((1:Int),())):=by
 refine Zba (within_is a b) (br_tt ?_ rfl)
 rw [decide_eq_false h];rfl
theorem pecho {A W:Nat} (second:Bool) (h1:1≤A) (h2:A≤16) (h3:1≤W) (h4:W≤16):PR (gen_Echo_FF ((A:Int),((W:Int),(second,())))) (astrariumref39_Echo_FF ((A:Int),((W:Int),(second,())))):=by
 have w0:gen_within_FF ((A:Int),((W:Int),()))=some (true,()):=by rw [within_is,decide_eq_true (by omega)]
 have w1:astrariumref39_widths_FF ((A:Int),((W:Int),()))=some (true,()):=by rw [widths_is,decide_eq_true (by omega)]
 obtain ⟨e1,a1,a2,a3,G,li⟩:=pwrite (s:=gk0) gi0 h2 h4 (by show 0≤1000;omega) (by show 0≤1000;omega)
 obtain ⟨t,ht⟩:∃t:Gk,t=wrS gk0 A W:=⟨_,rfl⟩
 have v1:t.v=0+1+A+W:=by rw [ht];rfl
 have l1:t.l=[]:=by rw [ht];rfl
 have d1:t.a=[]:=by rw [ht];rfl
 have li:t.i.length=0+1+A+W:=by rw [ht];exact li
 have q1:∀a:Int,iQ a a=true:=fun a=>decide_eq_true rfl
 have p1:=rowG_i (v:=0) (k:=1) (by omega)
 have k1:LitOk t.v (g0 (rowG 0 1)):=rowG_o (by omega) (by omega)
 have k4:∀x∈rowG 1 A,LitOk t.v x:=fun x hx=>(rowG_ok x hx).up (by omega)
 have k5:∀x∈rowG (1+A) W,LitOk t.v x:=fun x hx=>(rowG_ok x hx).up (by omega)
 have e1:ngen_maker__write_FF ((A:Int),((W:Int),gT [] [] [] [] gk0))=some (g0 (rowG 0 1),(rowG 1 A,(rowG (1+A) W,((t.v:Int),(t.l.map latT,([],([],([],([],(t.a.map andT,(t.i,()))))))))))):=by rw [ht];exact e1
 have a1:nastrariumref39_Maker__Inputs_FF ((1:Int),rT [] [] [] [] gk0)=some (rowG 0 1,(((1:Nat):Int),([],([],([],([],([],([],(fr 0 1,()))))))))):=a1
 have a2:nastrariumref39_Maker__Inputs_FF ((A:Int),rT [] [] [] [] ⟨1,fr 0 1,[],[]⟩)=some (rowG 1 A,(((1+A:Nat):Int),([],([],([],([],([],([],(fr 0 1++fr 1 (1+A),()))))))))):=a2
 have a3:nastrariumref39_Maker__Inputs_FF ((W:Int),rT [] [] [] [] ⟨1+A,fr 0 1++fr 1 (1+A),[],[]⟩)=some (rowG (1+A) W,((t.v:Int),([],([],([],([],(t.l.map latT,(t.a.map andT,(t.i,()))))))))):=by rw [ht];exact a3
 have G:GI t []:=by rw [ht];exact G
 clear ht
 cases second with
 | true=>
  obtain ⟨e2,b1,b2,b3,G2,lj⟩:=pwrite (s:=t) G h2 h4 (by omega) (by omega)
  obtain ⟨u,hu⟩:∃u:Gk,u=wrS t A W:=⟨_,rfl⟩
  have v2:u.v=t.v+1+A+W:=by rw [hu]
  have l2:u.l=[]:=by rw [hu];exact l1
  have d2:u.a=[]:=by rw [hu];exact d1
  rw [←hu] at e2 b3 G2 lj
  have e2:ngen_maker__write_FF ((A:Int),((W:Int),gT [] [] [] [] t))=some (g0 (rowG t.v 1),(rowG (t.v+1) A,(rowG (t.v+1+A) W,((u.v:Int),(u.l.map latT,([],([],([],([],(u.a.map andT,(u.i,()))))))))))):=by rw [l2,d2];rw [l1,d1] at e2;exact e2
  have b3:nastrariumref39_Maker__Inputs_FF ((W:Int),rT [] [] [] [] ⟨t.v+1+A,t.i++fr t.v (t.v+1)++fr (t.v+1) (t.v+1+A),t.l,t.a⟩)=some (rowG (t.v+1+A) W,((u.v:Int),([],([],([],([],(u.l.map latT,(u.a.map andT,(u.i,()))))))))):=by rw [l2,d2];rw [l1,d1] at b3;rw [l1,d1];exact b3
  clear hu
  obtain ⟨s4,s5,s6,s7,s9,s10,s11,sm,he,x,eq,z,⟨f1,f2,f3,f4,f5,f6,f7,f9,f10,f11,f12⟩,f8,⟨c1,c2,c3,c4,c5,c6,c7,c9,c10,c11,c12⟩,fc⟩:=ptail (s:=u) G2 h1 h2 h3 h4 l2 d2 (by omega) (by omega) (on:=g0 (rowG 0 1)) (ad:=rowG 1 A) (da:=rowG (1+A) W) (k1.up (by omega)) (rowG_len ..) (rowG_len ..) (fun y hy=>(k4 y hy).up (by omega)) (fun y hy=>(k5 y hy).up (by omega))
   (ws:=[⟨g0 (rowG 0 1),rowG 1 A,rowG (1+A) W⟩,⟨g0 (rowG t.v 1),rowG (t.v+1) A,rowG (t.v+1+A) W⟩]) (by simp) (fun y hy=>by
    rcases List.mem_cons.1 hy with rfl | hy
    ·exact ⟨rowG_len ..,rowG_len ..⟩
    ·obtain rfl:=List.mem_singleton.1 hy
     exact ⟨rowG_len ..,rowG_len ..⟩)
  have p0:=rowG_i (v:=u.v+A) (k:=1) (by omega)
  have p2:=rowG_i (v:=t.v) (k:=1) (by omega)
  have e6:=rowG_v (v:=u.v+A+1+W) h3
  have p6:=rowG_i (v:=u.v+A+1+W) h3
  refine ⟨⟨s11.v,s11.i,s11.l,[],[z],[],[ecN u.v A W [⟨g0 (rowG 0 1),rowG 1 A,rowG (1+A) W⟩,⟨g0 (rowG t.v 1),rowG (t.v+1) A,rowG (t.v+1+A) W⟩]],s11.a⟩,0,?_,?_,fc⟩
  ·refine Zba w0 (br_ff rfl (Zba e1 (br_tt rfl (Zba e2 (Zba f1 (Zaj (q1 _) (Zba f2 (Zaj p0 (Zaj (q1 _) (Zba f3 (Zaj p0 (Zaj (Sh.Zb5s _) (Zaj (q1 _) (Zba f4 ?_))))))))))))))
   refine Zaj (rowG_i h3) (Zba e6 (Zaj (Zsm (a:=72) (L:=([]:List Za1.T)) (x:=memT (ecN u.v A W [⟨g0 (rowG 0 1),rowG 1 A,rowG (1+A) W⟩,⟨g0 (rowG t.v 1),rowG (t.v+1) A,rowG (t.v+1+A) W⟩])) (Nat.zero_le _) (by omega)) ?_))
   refine Zba f5 (Zba f6 (Zba f7 (Zaj f8 (Zaj (q1 _) (Zba f9 (Zba f10 (Zba f11 (Zba f12 (Zaj rfl ?_)))))))))
   rfl
  ·refine Zba w1 (br_ff rfl (Zba a1 (Zaj p1 (Zba a2 (Zba a3 (br_tt rfl (Zba b1 (Zaj p2 (Zba b2 (Zba b3 ?_))))))))))
   refine Zba c1 (Zba c2 (Zaj p0 (Zba c3 (Zba c4 (Zaj p6 (Zba c5 (Zba c6 (Zba c7 (Zaj f8 (Zaj (q1 _) ?_))))))))))
   refine Zba c9 (Zba c10 (Zba c11 (Zba c12 ?_)))
   rfl
 | false=>
  obtain ⟨s4,s5,s6,s7,s9,s10,s11,sm,he,x,eq,z,⟨f1,f2,f3,f4,f5,f6,f7,f9,f10,f11,f12⟩,f8,⟨c1,c2,c3,c4,c5,c6,c7,c9,c10,c11,c12⟩,fc⟩:=ptail (s:=t) G h1 h2 h3 h4 l1 d1 (by omega) (by omega) (on:=g0 (rowG 0 1)) (ad:=rowG 1 A) (da:=rowG (1+A) W) k1 (rowG_len ..) (rowG_len ..) k4 k5
   (ws:=[⟨g0 (rowG 0 1),rowG 1 A,rowG (1+A) W⟩]) (by simp) (fun y hy=>by
    obtain rfl:=List.mem_singleton.1 hy
    exact ⟨rowG_len ..,rowG_len ..⟩)
  have p0:=rowG_i (v:=t.v+A) (k:=1) (by omega)
  have e6:=rowG_v (v:=t.v+A+1+W) h3
  have p6:=rowG_i (v:=t.v+A+1+W) h3
  refine ⟨⟨s11.v,s11.i,s11.l,[],[z],[],[ecN t.v A W [⟨g0 (rowG 0 1),rowG 1 A,rowG (1+A) W⟩]],s11.a⟩,0,?_,?_,fc⟩
  ·refine Zba w0 (br_ff rfl (Zba e1 (br_ff rfl (Zba f1 (Zaj (q1 _) (Zba f2 (Zaj p0 (Zaj (q1 _) (Zba f3 (Zaj p0 (Zaj (Sh.Zb5s _) (Zaj (q1 _) (Zba f4 ?_)))))))))))))
   refine Zaj (rowG_i h3) (Zba e6 (Zaj (Zsm (a:=72) (L:=([]:List Za1.T)) (x:=memT (ecN t.v A W [⟨g0 (rowG 0 1),rowG 1 A,rowG (1+A) W⟩])) (Nat.zero_le _) (by omega)) ?_))
   refine Zba f5 (Zba f6 (Zba f7 (Zaj f8 (Zaj (q1 _) (Zba f9 (Zba f10 (Zba f11 (Zba f12 (Zaj rfl ?_)))))))))
   rfl
  ·refine Zba w1 (br_ff rfl (Zba a1 (Zaj p1 (Zba a2 (Zba a3 (br_ff rfl ?_))))))
   refine Zba c1 (Zba c2 (Zaj p0 (Zba c3 (Zba c4 (Zaj p6 (Zba c5 (Zba c6 (Zba c7 (Zaj f8 (Zaj (q1 _) ?_))))))))))
   refine Zba c9 (Zba c10 (Zba c11 (Zba c12 ?_)))
   rfl
theorem pcnt_all (a:Int) {bad:Int} (hb:0≤bad∧bad<18446744073709551616):PR (gen_Counter_FF (a,(bad,()))) (astrariumref39_Counter_FF (a,(bad,()))):=by
 by_cases h:a<1∨20<a
 ·exact ⟨_,1,counter_no h,rcounter_no h,few_0⟩
 ·obtain ⟨w,rfl⟩:∃w:Nat,a=(w:Int):=⟨a.toNat,by omega⟩
  obtain ⟨q,rfl⟩:∃q:Nat,bad=(q:Int):=⟨bad.toNat,by omega⟩
  exact pcounter (by omega) (by omega) (by omega)
theorem pecho_all (a b:Int) (second:Bool):PR (gen_Echo_FF (a,(b,(second,())))) (astrariumref39_Echo_FF (a,(b,(second,())))):=by
 by_cases h:1≤a∧a≤16∧1≤b∧b≤16
 ·obtain ⟨w,rfl⟩:∃w:Nat,a=(w:Int):=⟨a.toNat,by omega⟩
  obtain ⟨q,rfl⟩:∃q:Nat,b=(q:Int):=⟨b.toNat,by omega⟩
  exact pecho second (by omega) (by omega) (by omega) (by omega)
 ·exact ⟨_,1,gecho_no second h,recho_no second h,few_0⟩
theorem pstack_all (a b:Int):PR (gen_Stack_FF (a,(b,()))) (astrariumref39_Stack_FF (a,(b,()))):=by
 by_cases h:1≤a∧a≤16∧1≤b∧b≤16
 ·obtain ⟨w,rfl⟩:∃w:Nat,a=(w:Int):=⟨a.toNat,by omega⟩
  obtain ⟨q,rfl⟩:∃q:Nat,b=(q:Int):=⟨b.toNat,by omega⟩
  exact pstack (by omega) (by omega) (by omega) (by omega)
 ·exact ⟨_,1,stack_no h,rstack_no h,few_0⟩
theorem pkind (k a b:Int):PR (gen_Kind_FF (k,(a,(b,())))) (astrariumref39_Kind_FF (k,(a,(b,())))):=by
 by_cases q0:k=0
 ·obtain ⟨n,f,e,r,F⟩:=pcnt_all a (bad:=IntKind.wrap .u64 b) (by
   show 0≤b.emod (2^64)∧b.emod (2^64)<18446744073709551616
   exact ⟨Int.emod_nonneg _ (by decide),Int.emod_lt_of_pos _ (by decide)⟩)
  exact ⟨n,f,br_tt (dec_t q0) (Zba e rfl),br_tt (dec_t q0) (Zba r rfl),F⟩
 by_cases q1:k=1
 ·obtain ⟨n,f,e,r,F⟩:=pecho_all a b false
  exact ⟨n,f,br_ff (dec_f q0) (br_ff (dec_f (by omega)) (br_tt (dec_t q1) (Zba e rfl))),br_ff (dec_f q0) (br_tt (dec_t q1) (Zba r rfl)),F⟩
 by_cases q2:k=2
 ·obtain ⟨n,f,e,r,F⟩:=pecho_all a b true
  exact ⟨n,f,br_ff (dec_f q0) (br_tt (dec_t q2) (Zba e rfl)),br_ff (dec_f q0) (br_ff (dec_f q1) (br_tt (dec_t q2) (Zba r rfl))),F⟩
 by_cases q3:k=3
 ·obtain ⟨n,f,e,r,F⟩:=pstack_all a b
  exact ⟨n,f,br_ff (dec_f q0) (br_ff (dec_f q2) (br_ff (dec_f q1) (br_tt (dec_t q3) (Zba e rfl)))),br_ff (dec_f q0) (br_ff (dec_f q1) (br_ff (dec_f q2) (br_tt (dec_t q3) (Zba r rfl)))),F⟩
 ·exact ⟨⟨0,[],[],[],[],[],[],[]⟩,1,br_ff (dec_f q0) (br_ff (dec_f q2) (br_ff (dec_f q1) (br_ff (dec_f q3) rfl))),br_ff (dec_f q0) (br_ff (dec_f q1) (br_ff (dec_f q2) (br_ff (dec_f q3) rfl))),few_0⟩
theorem genMakes_is (k a b bad:Int) (k0:okD (.int .i64) k) (k1:okD (.int .i64) a) (k2:okD (.int .i64) b) (k3:okD (.int .u64) bad):astrariumlaw39_GenMakes_FF (k,(a,(b,(bad,()))))=some (true,()):=by
 have hb:0≤bad∧bad<18446744073709551616:=by
  have k3:(decide (IntKind.min .u64≤bad)&&decide (bad≤IntKind.max .u64))=true:=k3
  rw [Bool.and_eq_true,decide_eq_true_iff,decide_eq_true_iff] at k3
  have h1:(0:Int)≤bad:=k3.1
  have h2:bad≤18446744073709551615:=k3.2
  omega
 have al:=alive39_is
 obtain ⟨n,f,e,r,F⟩:=pkind k a b
 obtain ⟨n',f',e',r',F'⟩:=pcnt_all a hb
 have qt:∀x:Int,selB true (iQ x x) false=true:=fun x=>by rw [iQ_self];rfl
 have bt:∀x:ByteArray,selB true (List.beq (ByteArray.toList x) (ByteArray.toList x)) false=true:=fun x=>by
  have:List.beq (ByteArray.toList x) (ByteArray.toList x)=true:=by
   have h:∀L:List UInt8,List.beq L L=true:=fun L=>by
    induction L with
    | nil=>rfl
    | cons a L ih=>show ((a == a)&&List.beq L L)=true;rw [ih];simp
   exact h _
  rw [this];rfl
 refine Zba e (Zba r (Zba e' (Zba r' ?_)))
 refine Zba (a:=(gen_Names_F.map (·.1) |>.getD [],())) rfl ?_
 refine Zba (same05_self F) (br_tt rfl (br_tt (qt _) (Zba (same05_self F') (br_tt rfl (br_tt (qt _) ?_)))))
 refine br_tt rfl (Zaj rfl (br_tt (bt _) (Zaj rfl (br_tt (bt _) (Zaj rfl (br_tt (bt _) (Zba al rfl)))))))
end Go.Proofs.YtkcpdpplobhpaaaGreat.V
