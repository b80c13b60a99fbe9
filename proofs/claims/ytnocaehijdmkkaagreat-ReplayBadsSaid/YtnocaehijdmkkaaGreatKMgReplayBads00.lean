import Derived.Test.YtnocaehijdmkkaaGreatKTl
import Derived.Test.YtnocaehijdmkkaaGreatKTe
import Derived.Test.YtnocaehijdmkkaaGreatKTh
set_option linter.unusedSectionVars false
set_option linter.unusedVariables false
set_option linter.unusedSimpArgs false
set_option linter.unnecessarySimpa false
section
namespace Go.Proofs.YtnocaehijdmkkaaGreat.V
open Go Go.RowKit
set_option maxRecDepth 1000000
abbrev astrariumlaw14_Bad_lay7:Lay:={ T:=[(2,.ptr 0 0),(3,.ptr 1 0),(5,.fz Zaa7),(8,.int .i64)],h:=[(0,.cells lNet 27),(1,.cells [.fz .bool,.fz (.sl Za3),.fz (.sl .bool),.int .i64] 34)],nx:=2 }
abbrev astrariumlaw14_Bad_outs7:List (Ev.Ex×Lay):=[(.ret,{ T:=[(4,.bool)],h:=[],nx:=0 }),((.exit 0),{ T:=[(3,.ptr 0 0),(5,.fz Zaa7)],h:=[(0,.cells [.fz .bool,.fz (.sl Za3),.fz (.sl .bool),.int .i64] 34)],nx:=1 })]
abbrev astrariumlaw14_Bad_T7:=TL astrariumlaw14_Bad_lay7.σs→Option (Out astrariumlaw14_Bad_outs7)
abbrev astrariumlaw14_Bad_D7:=Ld 0 88 (Zb5 [0] (Zaa Tryz.f39)) astrariumlaw14_Bad_lay7 astrariumlaw14_Bad_outs7
def astrariumlaw14_Bad_B7 (t5:List (Sh.T Zaa7)) (t8 b0_0:Int) (b0_1:List Int) (b0_2:List (Sh.T Za0)) (b0_3 b0_4 b0_5:List Int) (b0_6:List (Sh.T Za1)) (b0_7:List (Sh.T Za0)) (b1_0:List Bool) (b1_1:List (List (Sh.T Za3))) (b1_2:List (List Bool)) (b1_3:Int):Option (TL astrariumlaw14_Bad_lay7.σs⊕Out astrariumlaw14_Bad_outs7):=
 br (iL t8 (Int.ofNat (List.length t5)))
 (
  chk (inb t8 (List.length t5))<|
  br (Bool.not (gt Zaa7 t5 t8).2.1)
  (
   some (.inr (.inl (false,()))))
  (
   chk (inb t8 (List.length t5))<|
   br (selB false true (Bool.not (iQ (Int.ofNat (List.length (gt Zaa7 t5 t8).1)) (Int.ofNat (List.length b0_4)))))
   (
    some (.inr (.inl (false,()))))
   (
    some (.inl (t5,((IntKind.wrap .i64 (t8+(1:Int))),(b0_0,(b0_1,(b0_2,(b0_3,(b0_4,(b0_5,(b0_6,(b0_7,(b1_0,(b1_1,(b1_2,(b1_3,()))))))))))))))))))
 (
  some (.inr (.inr (t5,(b1_0,(b1_1,(b1_2,(b1_3,()))))))))
def astrariumlaw14_Bad_N7  :astrariumlaw14_Bad_D7:=mkL (u14 astrariumlaw14_Bad_B7) (pL k0 e0 1 l0 fun d=>by kernel_rfl)
def astrariumlaw14_Bad_L7:astrariumlaw14_Bad_T7:=lpD (u14 astrariumlaw14_Bad_B7) NN
abbrev astrariumlaw14_Bad_σs:List Sh:=[Za5,Zaah]
abbrev astrariumlaw14_Bad_τs:List Sh:=[.bool]
abbrev astrariumlaw14_Bad_T:=TL astrariumlaw14_Bad_σs→Option (TL astrariumlaw14_Bad_τs)
abbrev astrariumlaw14_Bad_D:=Kd 39 astrariumlaw14_Bad_σs astrariumlaw14_Bad_τs
def astrariumlaw14_Bad_F (F0:sim_Run_T) (F1:Zakd) (L7:astrariumlaw14_Bad_T7) (a0:Sh.T Za5) (a1:Sh.T Zaah):Option (TL astrariumlaw14_Bad_τs):=
 bnd (F1 (a0,((a1.1.1,(a1.1.2.1,())),()))) fun x0=>
 br (Bool.not (iQ x0.1 (0:Int)))
 (
  some (false,()))
 (
  br (selB false true (iQ (Int.ofNat (List.length a1.2.1)) (0:Int)))
  (
   some (false,()))
  (
   br (selB false true (iL a1.2.2.1 (0:Int)))
   (
    some (false,()))
   (
    br (selB false true (iE (Int.ofNat (List.length a0.2.2.2.2.1)) a1.2.2.1))
    (
     some (false,()))
    (
     bnd (F0 (a0,((a1.1.1,(a1.1.2.1,())),(a1.2.1,())))) fun x1=>
     br (Bool.not (iQ x1.2.2.1 (0:Int)))
     (
      some (false,()))
     (
      br (selB false true (Bool.not (iQ (Int.ofNat (List.length x1.1)) (Int.ofNat (List.length a1.2.1)))))
      (
       some (false,()))
      (
       bnd (L7 (x1.1,((0:Int),(a0.1,(a0.2.1,(a0.2.2.1,(a0.2.2.2.1,(a0.2.2.2.2.1,(a0.2.2.2.2.2.1,(a0.2.2.2.2.2.2.1,(a0.2.2.2.2.2.2.2.1,(a1.1.1,(a1.1.2.1,a1.2))))))))))))) fun x2=>
       (match x2 with
       | .inl x3=>
        some (x3.1,())
       | .inr x3=>
        chk (inb (IntKind.wrap .i64 ((Int.ofNat (List.length x3.1)) - (1:Int))) (List.length x3.1))<|
        chk (inb x3.2.2.2.2.1 (List.length (gt Zaa7 x3.1 (IntKind.wrap .i64 ((Int.ofNat (List.length x3.1)) - (1:Int)))).1))<|
        some ((gt .bool (gt Zaa7 x3.1 (IntKind.wrap .i64 ((Int.ofNat (List.length x3.1)) - (1:Int)))).1 x3.2.2.2.2.1),())
       )))))))
def astrariumlaw14_Bad_G (c0:sim_Run_D) (c1:Zado) (M7:astrariumlaw14_Bad_D7):astrariumlaw14_Bad_D:=⟨u2 (astrariumlaw14_Bad_F c0.F c1.F M7.L),pD Tryz.func39 88 (kD c0 (kD c1 k0)) e0 1 (sS (sC M7 l0)) fun d=>by kernel_rfl⟩
def astrariumlaw14_Bad_K:astrariumlaw14_Bad_D:=astrariumlaw14_Bad_G sim_Run_K Zake astrariumlaw14_Bad_N7
def astrariumlaw14_Bad_FF:astrariumlaw14_Bad_T:=astrariumlaw14_Bad_K.F
abbrev astrariumlaw16_ReplayBads_σs:List Sh:=[Za5,Zaah]
abbrev astrariumlaw16_ReplayBads_τs:List Sh:=[.bool]
abbrev astrariumlaw16_ReplayBads_T:=TL astrariumlaw16_ReplayBads_σs→Option (TL astrariumlaw16_ReplayBads_τs)
abbrev astrariumlaw16_ReplayBads_D:=Kd 10 astrariumlaw16_ReplayBads_σs astrariumlaw16_ReplayBads_τs
def astrariumlaw16_ReplayBads_F (F0:Zb3r) (F1:astrariumlaw14_Bad_T) (F2:Zays) (F3:Zapl) (F4:Zapj) (a0:Sh.T Za5) (a1:Sh.T Zaah):Option (TL astrariumlaw16_ReplayBads_τs):=
 bnd (F4 (a0,(((a1.1.1,(a1.1.2.1,())),a1.2),()))) fun x0=>
 br (Bool.not x0.1)
 (
  bnd (F3 ()) fun x1=>
  some (x1.1,()))
 (
  bnd (F2 (a0,(((a1.1.1,(a1.1.2.1,())),a1.2),()))) fun x1=>
  bnd (F1 (a0,(((a1.1.1,(a1.1.2.1,())),a1.2),()))) fun x2=>
  br (Bool.not (@decide _ (Bool.decEq (iQ x1.2.1 (0:Int)) x2.1)))
  (
   some (false,()))
  (
   bnd (F0 (a0,(((a1.1.1,(a1.1.2.1,())),a1.2),()))) fun x3=>
   bnd (F2 (a0,(((x3.1.1.1,(x3.1.1.2.1,())),(x3.1.2.1,(x3.1.2.2.1,()))),()))) fun x4=>
   br (iQ x4.2.1 x1.2.1)
   (
    br (selB true (iE (Int.ofNat (List.length x3.1.2.1)) (Int.ofNat (List.length a1.2.1))) false)
    (
     bnd (F3 ()) fun x5=>
     some ((selB true x5.1 false),()))
    (
     some (false,())))
   (
    some (false,()))))
def astrariumlaw16_ReplayBads_G (c0:Zayr) (c1:astrariumlaw14_Bad_D) (c2:Zawh) (c3:Zakp) (c4:Zako) :astrariumlaw16_ReplayBads_D:=⟨u2 (astrariumlaw16_ReplayBads_F c0.F c1.F c2.F c3.F c4.F),pD Tryz.func10 51 (kD c0 (kD c1 (kD c2 (kD c3 (kD c4 k0))))) e0 1 (sS l0) fun d=>by kernel_rfl⟩
def astrariumlaw16_ReplayBads_K:astrariumlaw16_ReplayBads_D:=astrariumlaw16_ReplayBads_G Zb3s astrariumlaw14_Bad_K Zayt Zapm Zapk 
def astrariumlaw16_ReplayBads_FF:astrariumlaw16_ReplayBads_T:=astrariumlaw16_ReplayBads_K.F
end Go.Proofs.YtnocaehijdmkkaaGreat.V
end
section
namespace Go.Proofs.YtnocaehijdmkkaaGreat.V
open Go Go.RowKit
open Go.Proofs.YtnocaehijdmkkaaGreat.Pl
theorem run_play (n:NetD):∀(xs:List (List Bool)) (i:Nat) (s:StD) (acc:List CycT),
  ((playF n xs i s acc).2.2=0→∃t,trF n xs s acc=some ((playF n xs i s acc).1,t)) ∧
  ((playF n xs i s acc).2.2=0→(∀c∈acc,c.2.1=true)→∀c∈(playF n xs i s acc).1,c.2.1=true) ∧
  (∀r,trF n xs s acc=some r→(∀c∈acc,c∈r.1)∧((playF n xs i s acc).2.2≠0→∃c∈r.1,c.2.1=false)):=by
 intro xs
 induction xs with
 | nil=>
  intro i s acc
  refine ⟨fun _=>⟨s,rfl⟩,fun _ h=>h,fun r hr=>?_⟩
  rw [trF] at hr
  obtain rfl:=Option.some.inj hr
  exact ⟨fun c hc=>hc,fun h=>absurd rfl h⟩
 | cons x xs ih=>
  intro i s acc
  by_cases hw:x.length≠n.inputs.length
  ·rw [playF,if_pos hw,trF,if_pos hw]
   exact ⟨fun h=>by simp at h,fun h=>by simp at h,fun r hr=>by cases hr⟩
  ·have hr:trF n (x :: xs) s acc=trF n xs (stp n s x) (acc++[cyc n s x]):=by rw [trF,if_neg hw]
   by_cases hf:fineF n (valF n s.1 s.2 x)=false
   ·have hp:playF n (x :: xs) i s acc=(acc,(i:Int),16):=by rw [playF,if_neg hw,if_pos hf]
    rw [hp]
    refine ⟨fun h=>by simp at h,fun h=>by simp at h,fun r q=>?_⟩
    rw [hr] at q
    obtain ⟨h1,_⟩:=(ih (i+1) _ _).2.2 r q
    refine ⟨fun c hc=>h1 c (by simp [hc]),fun _=>⟨cyc n s x,h1 _ (by simp),?_⟩⟩
    exact hf
   ·have hp:playF n (x :: xs) i s acc=playF n xs (i+1) (stp n s x) (acc++[cyc n s x]):=by rw [playF,if_neg hw,if_neg hf]
    rw [hp,hr]
    obtain ⟨h1,h2,h3⟩:=ih (i+1) (stp n s x) (acc++[cyc n s x])
    refine ⟨h1,fun q ha=>h2 q ?_,fun r q=>⟨fun c hc=>(h3 r q).1 c (by simp [hc]),(h3 r q).2⟩⟩
    intro c hc
    rw [List.mem_append] at hc
    rcases hc with hc | hc
    ·exact ha c hc
    ·obtain rfl:=List.mem_singleton.1 hc
     show fineF n (valF n s.1 s.2 x)=true
     simpa using hf
theorem legal_check {n:NetD} {ls:List Bool} {cs:List (List CellT)} {ins:List (List Bool)} {bad:Int} (h:Zym (netT n) ls cs≠0):(chF n ls cs ins bad).2≠0:=by
 unfold chF
 split
 ·assumption
 ·split
  ·show (1:Int)≠0;decide
  ·first | (rw [if_pos h];show (14:Int)≠0;decide) | (show (14:Int)≠0;decide)
section
variable {n:NetD} (ft:Fit n) (ls:List Bool) (cs:List (List CellT)) (ins:List (List Bool)) (bad:Int)
include ft
theorem bad_7 (L:List CycT) (hL:L.length≤100000) (hb:∀c∈L,c.1.length=n.bads.length) :
  astrariumlaw14_Bad_L7 (L,((0:Int),nt n (ls,(cs,(ins,(bad,()))))))=some (match (List.range L.length).all (fun i=>(gt Zaa7 L ((i:Nat):Int)).2.1) with | true=>.inr (L,(ls,(cs,(ins,(bad,()))))) | false=>.inl (false,())):=by
 unfold astrariumlaw14_Bad_L7;delta u14
 refine Zlj (fun i:Nat=>(L,((i:Int),nt n (ls,(cs,(ins,(bad,()))))))) (fun i=>(gt Zaa7 L ((i:Nat):Int)).2.1) L.length ?_ ?_ ?_ rfl (Ze8 (by omega))
 ·intro i hi hp
  have hx:=List.getElem?_eq_getElem hi
  have g:gt Zaa7 L (i:Int)=L[i]:=gt_at (σ:=Zaa7) hx
  have hin:inb (i:Int) (List.length L)=true:=Zar ⟨by omega,by omega⟩
  have hbl:=hb _ (List.getElem_mem hi)
  have e:∀p q:Int,p=q→(some (.inl (L,(p,nt n (ls,(cs,(ins,(bad,()))))))):Option (TL astrariumlaw14_Bad_lay7.σs⊕Out astrariumlaw14_Bad_outs7))=some (.inl (L,(q,nt n (ls,(cs,(ins,(bad,()))))))):=by rintro _ _ rfl;rfl
  exact br_tt (dec_t (show (i:Int)<((L.length:Nat):Int) by omega)) (Zaj hin (br_ff (not_f hp) (Zaj hin (br_ff (show selB false true (Bool.not (iQ (Int.ofNat (List.length (gt Zaa7 L (i:Int)).1)) (Int.ofNat (List.length n.bads))))=false from not_f (dec_t (by rw [g];exact congrArg Int.ofNat hbl))) (e _ _ (i64n (show (i:Int)+1=((i+1:Nat):Int) by omega) (by omega)))))))
 ·intro i hi hp
  have hin:inb (i:Int) (List.length L)=true:=Zar ⟨by omega,by omega⟩
  exact br_tt (dec_t (show (i:Int)<((L.length:Nat):Int) by omega)) (Zaj hin (br_tt (not_t hp) rfl))
 ·exact br_ff (dec_f (show ¬(L.length:Int)<(L.length:Int) by omega)) rfl
theorem bad_is (hok:okS cs) (hI:ins.length≤200) (hb:ls.length≤1000000) :
  astrariumlaw14_Bad_FF (netT n,(((ls,(cs,())),(ins,(bad,()))),()))=some (decide ((chF n ls cs ins bad).2=0),()):=by
 have el:=Za3d (netT n) ls cs (ft' ft) (Zb7k ft).1 (Zb7k ft).2 hok
 by_cases h4:Zym (netT n) ls cs=0
 ·obtain ⟨hc,hf⟩:=Zb4p h4
  refine Zba el (br_ff (not_f (dec_t h4)) ?_)
  by_cases h3:ins=[]
  ·rw [chF_a hc (.inr (.inr h3))]
   exact br_tt (show selB false true (iQ (Int.ofNat (List.length ins)) (0:Int))=true by rw [h3];rfl) rfl
  ·have hl0:ins.length≠0:=fun h=>h3 (List.eq_nil_of_length_eq_zero h)
   refine br_ff (show selB false true (iQ (Int.ofNat (List.length ins)) (0:Int))=false from dec_f (by show ¬(ins.length:Int)=0;omega)) ?_
   by_cases h1:bad<0
   ·rw [chF_a hc (.inl h1)]
    exact br_tt (show selB false true (iL bad (0:Int))=true from dec_t h1) rfl
   ·refine br_ff (show selB false true (iL bad (0:Int))=false from dec_f h1) ?_
    by_cases h2:(n.bads.length:Int)≤bad
    ·rw [chF_a hc (.inr (.inl h2))]
     exact br_tt (show selB false true (iE (Int.ofNat (List.length n.bads)) bad)=true from dec_t h2) rfl
    ·refine br_ff (show selB false true (iE (Int.ofNat (List.length n.bads)) bad)=false from dec_f h2) ?_
     have hno:¬(bad<0∨(n.bads.length:Int)≤bad∨ins=[]):=fun h=>by
      rcases h with h | h | h
      ·exact h1 h
      ·exact h2 h
      ·exact h3 h
     rw [chF_r hc hno h4]
     have er:=run_is ft ls cs ins hok hI hb
     obtain ⟨p1,p2⟩:=Zb4k n bad ins 0 (ls,cs) []
     obtain ⟨q1,q2,q3⟩:=run_play n ins 0 (ls,cs) []
     cases hr:trF n ins (ls,cs) [] with
     | none=>
      have hR:runR n ls cs ins=([],([],[]),1):=by unfold runR;rw [if_neg (fun q=>q hc),if_neg (by rw [hf];simp),hr]
      rw [hR] at er
      have hz:(playF n ins 0 (ls,cs) []).2.2≠0:=fun q=>by
       obtain ⟨t,ht⟩:=q1 q
       rw [hr] at ht;cases ht
      rw [p1 hz,decide_eq_false (show ¬((playF n ins 0 (ls,cs) []).2.1,(playF n ins 0 (ls,cs) []).2.2).2=0 from hz)]
      exact Zba er (br_tt rfl rfl)
     | some r=>
      have hR:runR n ls cs ins=(r.1,r.2,0):=by unfold runR;rw [if_neg (fun q=>q hc),if_neg (by rw [hf];simp),hr]
      rw [hR] at er
      obtain ⟨k1,k2⟩:=trF_len ins (ls,cs) [] r hr (fun c hc=>by cases hc)
      have k1:r.1.length=ins.length:=by rw [k1];simp
      have e7:=bad_7 ft ls cs ins bad r.1 (by omega) k2
      refine Zba er (br_ff rfl (br_ff (show selB false true (Bool.not (iQ (Int.ofNat (List.length r.1)) (Int.ofNat (List.length ins))))=false from not_f (dec_t (by rw [k1]))) ?_))
      by_cases hz:(playF n ins 0 (ls,cs) []).2.2=0
      ·obtain ⟨t,ht⟩:=q1 hz
       rw [hr] at ht
       have hr1:r.1=(playF n ins 0 (ls,cs) []).1:=congrArg Prod.fst (Option.some.inj ht)
       have hall:(List.range r.1.length).all (fun i=>(gt Zaa7 r.1 ((i:Nat):Int)).2.1)=true:=by
        refine List.all_eq_true.2 fun i hi=>?_
        have hi:=List.mem_range.1 hi
        have g:gt Zaa7 r.1 (i:Int)=r.1[i]:=gt_at (σ:=Zaa7) (List.getElem?_eq_getElem hi)
        rw [g]
        exact q2 hz (fun c hc=>by cases hc) _ (by rw [←hr1];exact List.getElem_mem hi)
       rw [hall] at e7
       obtain ⟨_,_,p3⟩:=p2 hz
       obtain ⟨c,c1,c2,c3⟩:=p3 h3
       have hc0:([]:List CycT).length+ins.length - 1=ins.length - 1:=by simp
       rw [hc0,←hr1] at c1
       rw [c3]
       have hw1:IntKind.wrap .i64 ((Int.ofNat (List.length r.1)) - (1:Int))=((ins.length - 1:Nat):Int):=i64n (by show (r.1.length:Int) - 1=_;omega) (by omega)
       have gL:gt Zaa7 r.1 (IntKind.wrap .i64 ((Int.ofNat (List.length r.1)) - (1:Int)))=c:=by rw [hw1];exact gt_at (σ:=Zaa7) c1
       have i1:inb (IntKind.wrap .i64 ((Int.ofNat (List.length r.1)) - (1:Int))) (List.length r.1)=true:=by rw [hw1];exact Zar ⟨by omega,by omega⟩
       have i2:inb bad (List.length (gt Zaa7 r.1 (IntKind.wrap .i64 ((Int.ofNat (List.length r.1)) - (1:Int)))).1)=true:=by rw [gL];exact Zar ⟨by omega,by show bad<((c.1.length:Nat):Int);omega⟩
       have gb:gt .bool (gt Zaa7 r.1 (IntKind.wrap .i64 ((Int.ofNat (List.length r.1)) - (1:Int)))).1 bad=c.1.getD bad.toNat false:=by rw [gL];exact gt_b (by omega)
       have e:∀p q:Bool,p=q→(some (p,()):Option (TL astrariumlaw14_Bad_τs))=some (q,()):=by rintro _ _ rfl;rfl
       refine Zba e7 (Zaj i1 (Zaj i2 (e _ _ (gb.trans ?_))))
       cases c.1.getD bad.toNat false with
       | true=>rw [if_neg (by simp)];rfl
       | false=>rw [if_pos rfl];rfl
      ·rw [p1 hz,decide_eq_false (show ¬((playF n ins 0 (ls,cs) []).2.1,(playF n ins 0 (ls,cs) []).2.2).2=0 from hz)]
       obtain ⟨c,hcm,hcf⟩:=(q3 r hr).2 hz
       have hall:(List.range r.1.length).all (fun i=>(gt Zaa7 r.1 ((i:Nat):Int)).2.1)=false:=by
        refine Bool.eq_false_iff.2 fun q=>?_
        have q:=List.all_eq_true.1 q
        obtain ⟨i,hi,rfl⟩:=List.getElem_of_mem hcm
        have:=q i (List.mem_range.2 hi)
        have g:gt Zaa7 r.1 (i:Int)=r.1[i]:=gt_at (σ:=Zaa7) (List.getElem?_eq_getElem hi)
        rw [g,hcf] at this
        cases this
       rw [hall] at e7
       exact Zba e7 rfl
 ·rw [decide_eq_false (legal_check h4)]
  exact Zba el (br_tt (not_t (dec_f h4)) rfl)
end
theorem least_ch {n:NetD} {ls:List Bool} {cs:List (List CellT)} {ins:List (List Bool)} {bad:Int} :
  (chF n (Zb2t n ls cs ins bad).1.1 (Zb2t n ls cs ins bad).1.2.1 (Zb2t n ls cs ins bad).2.1 (Zb2t n ls cs ins bad).2.2.1).2=(chF n ls cs ins bad).2∧(Zb2t n ls cs ins bad).2.1.length≤ins.length:=by
 unfold Zb2t
 by_cases h:(chF n ls cs ins bad).2=0
 ·rw [if_pos h]
  obtain ⟨i,hi,hil,hge⟩:=hit_of h
  rw [hi]
  obtain ⟨k,hk,hkl,hf⟩:=idx_of hge
  obtain ⟨_,_,hp,_⟩:=Zb8a _ _ _ _ hf
  obtain ⟨c1,c2⟩:=Zb8e h (i+1) (by omega) (by omega)
  rw [show i+1 - 1=i by omega] at c1 c2
  have:=c2 k (by omega)
  rw [if_pos hp] at this
  refine ⟨?_,?_⟩
  ·show (chF n ls cs (ins.take (i+1)) (idx ((playF n ins 0 (ls,cs) []).1.getD i cdef).1)).2=_
   rw [hk,this,h]
  ·show (ins.take (i+1)).length≤_
   rw [List.length_take];omega
 ·rw [if_neg h]
  exact ⟨rfl,Nat.le_refl _⟩
theorem leastF_st {n:NetD} {ls:List Bool} {cs:List (List CellT)} {ins:List (List Bool)} (bad:Int):(Zb2t n ls cs ins bad).1=(ls,(cs,())):=by
 unfold Zb2t
 split
 ·split<;>rfl
 ·rfl
theorem replayBads_is (d:Za5.T) (t:Zaah.T) (hd:okD Za5 d) (ht:okD Zaah t):astrariumlaw16_ReplayBads_FF (d,(t,()))=some (true,()):=by
 obtain ⟨⟨ls,cs,u1⟩,ins,bad,u2⟩:=t
 obtain ⟨b,eb,hb⟩:=Za6b d ls cs ins
 have el:Zauw (d,(((ls,(cs,())),(ins,(bad,()))),()))=some (b,()):=Zba eb rfl
 cases b with
 | false=>exact Zba el (br_tt rfl (Zba Zb3i rfl))
 | true=>
  obtain ⟨h5,hL⟩:=hb rfl
  have ft:=fit_of hd h5
  have hok:okS cs:=okS_of ht.1.2.1
  have tr:TrOk ls cs ins:=trOk_of hL
  have hI:ins.length≤200:=Nat.le_trans hL.2.2.1 (by decide)
  have hl:ls.length≤1000000:=Nat.le_trans hL.1 (by decide)
  have e1:=check_is ft ls cs ins bad hok hI hl
  have e2:=bad_is ft ls cs ins bad hok hI hl
  have e3:=least_is ft ls cs ins bad hok tr
  obtain ⟨k1,k2⟩:=least_ch (n:=netD d) (ls:=ls) (cs:=cs) (ins:=ins) (bad:=bad)
  have k3:=leastF_st (n:=netD d) (ls:=ls) (cs:=cs) (ins:=ins) bad
  generalize Zb2t (netD d) ls cs ins bad=x at e3 k1 k2 k3
  obtain ⟨⟨lx,cx,u3⟩,ix,bx,u4⟩:=x
  obtain ⟨rfl,rfl⟩:lx=ls∧cx=cs:=by cases k3;exact ⟨rfl,rfl⟩
  have k2:ix.length≤ins.length:=k2
  have k1:(chF (netD d) lx cx ix bx).2=(chF (netD d) lx cx ins bad).2:=k1
  have e4:=check_is ft lx cx ix bx hok (by omega) hl
  rw [Zri] at e1 e2 e3 e4
  have q1:Bool.not (@decide _ (Bool.decEq (iQ (chF (netD d) lx cx ins bad).2 (0:Int)) (decide ((chF (netD d) lx cx ins bad).2=0))))=false:=bself _
  exact Zba el (br_ff rfl (Zba e1 (Zba e2 (br_ff q1 (Zba e3 (Zba e4 (br_tt (dec_t k1) (br_tt (show selB true (iE (Int.ofNat (List.length ix)) (Int.ofNat (List.length ins))) false=true from dec_t (show (ix.length:Int)≤(ins.length:Int) by omega)) (Zba Zb3i rfl)))))))))
end Go.Proofs.YtnocaehijdmkkaaGreat.V
end
