import Derived.Test.YtnocaehijdmkkaaGreatKTp
set_option linter.unusedSectionVars false
set_option linter.unusedVariables false
set_option linter.unusedSimpArgs false
set_option linter.unnecessarySimpa false
section
namespace Go.Proofs.YtnocaehijdmkkaaGreat.V
open Go Go.RowKit
set_option maxRecDepth 1000000
abbrev yMgSimSets000:List (Nat×LO):=[(0,.cells [.int .i64,.fz (.int .i64),.fz Za0,.fz (.int .i64),.fz (.int .i64),.fz (.int .i64),.fz Za1,.fz Za0,.fz Za4,.hd 1 .bool,.rhd 2] 90),(1,.arr .bool 4),(2,.rams 157)]
abbrev nsim_Machine__Set_lay:Lay:={ T:=[(0,.ptr 0 0),(1,.agg [.fz .bool,.fz (.sl Za3)])],h:=yMgSimSets000,nx:=3 }
abbrev nsim_Machine__Set_outs:List (Ev.Ex×Lay):=[(.ret,{ T:=[(0,.int .i64)],h:=yMgSimSets000,nx:=3 }),(.ret,{ T:=[(0,.int .i64)],h:=[(0,.cells [.int .i64,.fz (.int .i64),.fz Za0,.fz (.int .i64),.fz (.int .i64),.fz (.int .i64),.fz Za1,.fz Za0,.fz Za4,.hd 3 .bool,.rhd 4] 90),(1,.arr .bool 4),(2,.rams 157),(3,.arr .bool 4),(4,.rams 157)],nx:=5 })]
abbrev nsim_Machine__Set_T:=TL nsim_Machine__Set_lay.σs→Option (Out nsim_Machine__Set_outs)
abbrev nsim_Machine__Set_D:=Kb 34 2 nsim_Machine__Set_lay 1 nsim_Machine__Set_outs
def nsim_Machine__Set_F (F0:Zaj5) (F1:Zaey) (F2:Zaxx) (t1_0:List Bool) (t1_1:List (List (Sh.T Za3))) (b0_0:Int) (b0_1:List Int) (b0_2:List (Sh.T Za0)) (b0_3 b0_4 b0_5:List Int) (b0_6:List (Sh.T Za1)) (b0_7:List (Sh.T Za0)) (b0_8:List (Sh.T Za4)) (b1:List Bool) (b2:List (Sh.T (.agg [(.int .i64),(.int .i64),(.sl Za3)]))):Option (Out nsim_Machine__Set_outs):=
 bnd (F2 (b0_0,(b0_1,(b0_2,(b0_3,(b0_4,(b0_5,(b0_6,(b0_7,(t1_0,(t1_1,()))))))))))) fun x0=>
 br (Bool.not (iQ x0.1 (0:Int)))
 (
  some (.inl (x0.1,(b0_0,(b0_1,(b0_2,(b0_3,(b0_4,(b0_5,(b0_6,(b0_7,(b0_8,(b1,(b2,()))))))))))))))
 (
  bnd (F1 (t1_0,())) fun x1=>
  some (.inr ((0:Int),(b0_0,(b0_1,(b0_2,(b0_3,(b0_4,(b0_5,(b0_6,(b0_7,(b0_8,(b1,(b2,(x1.1,(x0.2.1,()))))))))))))))))
def nsim_Machine__Set_G (c0:Zaj7) (c1:Zaez) (c2:Zasw) :nsim_Machine__Set_D:=⟨u13 (nsim_Machine__Set_F c0.F c1.F c2.F),pB Tryz.func34 31 (kB c0 (kB c1 (kB c2 k0))) e0 1 (sS l0) fun d=>by kernel_rfl⟩
def nsim_Machine__Set_K:nsim_Machine__Set_D:=nsim_Machine__Set_G Zaj6 Zacy Zaxy 
def nsim_Machine__Set_FF:nsim_Machine__Set_T:=nsim_Machine__Set_K.F
abbrev astrariumlaw12_SimSets_σs:List Sh:=[Za5,Zab,Zab,(.sl .bool)]
abbrev astrariumlaw12_SimSets_τs:List Sh:=[.bool]
abbrev astrariumlaw12_SimSets_T:=TL astrariumlaw12_SimSets_σs→Option (TL astrariumlaw12_SimSets_τs)
abbrev astrariumlaw12_SimSets_D:=Kd 8 astrariumlaw12_SimSets_σs astrariumlaw12_SimSets_τs
def astrariumlaw12_SimSets_F (F0:Zalg) (F1:astrariumlaw12_alive_T) (F2:Zahu) (F3:Zakq) (F4:astrariumlaw12_cycle_T) (F5:nsim_Machine__State_T) (F6:nsim_Machine__Set_T) (F7:Zb7x) (a0:Sh.T Za5) (a1 a2:Sh.T Zab) (a3:List Bool):Option (TL astrariumlaw12_SimSets_τs):=
 bnd (F3 (a0,(a1,((a3 :: []),())))) fun x0=>
 br (Bool.not x0.1)
 (
  bnd (F1 ()) fun x1=>
  some (x1.1,()))
 (
  bnd (F3 (a0,(a2,([],())))) fun x1=>
  br (selB false true (Bool.not x1.1))
  (
   bnd (F1 ()) fun x2=>
   some (x2.1,()))
  (
   bnd (F2 (a0,(a1,()))) fun x2=>
   br (selB false true (Bool.not (iQ x2.1 (0:Int))))
   (
    bnd (F1 ()) fun x3=>
    some (x3.1,()))
   (
    bnd (F7 (a0.1,(a0.2.1,(a0.2.2.1,(a0.2.2.2.1,(a0.2.2.2.2.1,(a0.2.2.2.2.2.1,(a0.2.2.2.2.2.2.1,(a0.2.2.2.2.2.2.2.1,a1))))))))) fun x3=>
    (match x3 with
    | .inl x4=>
     chk (Bool.not (iQ x4.1 (0:Int)))<|
     some (false,())
    | .inr x4=>
     br (Bool.not (iQ x4.1 (0:Int)))
     (
      some (false,()))
     (
      bnd (F6 (a2.1,(a2.2.1,x4.2))) fun x5=>
      (match x5 with
      | .inl x6=>
       bnd (F2 (a0,(a2,()))) fun x7=>
       br (Bool.not (iQ x6.1 x7.1))
       (
        some (false,()))
       (
        br (iQ x6.1 (0:Int))
        (
         bnd (F5 x6.2) fun x8=>
         chk (both (Zqo (Sh.beq .bool) a2.1 a2.1) (both (Zqo (Sh.beq (.sl Za3)) a2.2.1 a2.2.1) true))<|
         bnd (F0 (x8.2.2.2.2.2.2.2.2.2.2.2,(a2,()))) fun x9=>
         br (Bool.not x9.1)
         (
          some (false,()))
         (
          bnd (F4 (a0.1,(a0.2.1,(a0.2.2.1,(a0.2.2.2.1,(a0.2.2.2.2.1,(a0.2.2.2.2.2.1,(a0.2.2.2.2.2.2.1,(a0.2.2.2.2.2.2.2.1,(a2.1,(a2.2.1,(a3,(x8.1,(x8.2.1,(x8.2.2.1,(x8.2.2.2.1,(x8.2.2.2.2.1,(x8.2.2.2.2.2.1,(x8.2.2.2.2.2.2.1,(x8.2.2.2.2.2.2.2.1,(x8.2.2.2.2.2.2.2.2.1,(x8.2.2.2.2.2.2.2.2.2.1,(x8.2.2.2.2.2.2.2.2.2.2.1,()))))))))))))))))))))))) fun x10=>
          br x10.2.2.1
          (
           bnd (F1 ()) fun x11=>
           some ((selB true x11.1 false),()))
          (
           some (false,()))))
        (
         bnd (F5 x6.2) fun x8=>
         chk (both (Zqo (Sh.beq .bool) a1.1 a1.1) (both (Zqo (Sh.beq (.sl Za3)) a1.2.1 a1.2.1) true))<|
         bnd (F0 (x8.2.2.2.2.2.2.2.2.2.2.2,(a1,()))) fun x9=>
         br (Bool.not x9.1)
         (
          some (false,()))
         (
          bnd (F4 (a0.1,(a0.2.1,(a0.2.2.1,(a0.2.2.2.1,(a0.2.2.2.2.1,(a0.2.2.2.2.2.1,(a0.2.2.2.2.2.2.1,(a0.2.2.2.2.2.2.2.1,(a1.1,(a1.2.1,(a3,(x8.1,(x8.2.1,(x8.2.2.1,(x8.2.2.2.1,(x8.2.2.2.2.1,(x8.2.2.2.2.2.1,(x8.2.2.2.2.2.2.1,(x8.2.2.2.2.2.2.2.1,(x8.2.2.2.2.2.2.2.2.1,(x8.2.2.2.2.2.2.2.2.2.1,(x8.2.2.2.2.2.2.2.2.2.2.1,()))))))))))))))))))))))) fun x10=>
          br x10.2.2.1
          (
           bnd (F1 ()) fun x11=>
           some ((selB true x11.1 false),()))
          (
           some (false,())))))
      | .inr x6=>
       bnd (F2 (a0,(a2,()))) fun x7=>
       br (Bool.not (iQ x6.1 x7.1))
       (
        some (false,()))
       (
        br (iQ x6.1 (0:Int))
        (
         bnd (F5 (x6.2.1,(x6.2.2.1,(x6.2.2.2.1,(x6.2.2.2.2.1,(x6.2.2.2.2.2.1,(x6.2.2.2.2.2.2.1,(x6.2.2.2.2.2.2.2.1,(x6.2.2.2.2.2.2.2.2.1,(x6.2.2.2.2.2.2.2.2.2.1,x6.2.2.2.2.2.2.2.2.2.2.2.2)))))))))) fun x8=>
         chk (both (Zqo (Sh.beq .bool) a2.1 a2.1) (both (Zqo (Sh.beq (.sl Za3)) a2.2.1 a2.2.1) true))<|
         bnd (F0 (x8.2.2.2.2.2.2.2.2.2.2.2,(a2,()))) fun x9=>
         br (Bool.not x9.1)
         (
          some (false,()))
         (
          bnd (F4 (a0.1,(a0.2.1,(a0.2.2.1,(a0.2.2.2.1,(a0.2.2.2.2.1,(a0.2.2.2.2.2.1,(a0.2.2.2.2.2.2.1,(a0.2.2.2.2.2.2.2.1,(a2.1,(a2.2.1,(a3,(x8.1,(x8.2.1,(x8.2.2.1,(x8.2.2.2.1,(x8.2.2.2.2.1,(x8.2.2.2.2.2.1,(x8.2.2.2.2.2.2.1,(x8.2.2.2.2.2.2.2.1,(x8.2.2.2.2.2.2.2.2.1,(x8.2.2.2.2.2.2.2.2.2.1,(x8.2.2.2.2.2.2.2.2.2.2.1,()))))))))))))))))))))))) fun x10=>
          br x10.2.2.1
          (
           bnd (F1 ()) fun x11=>
           some ((selB true x11.1 false),()))
          (
           some (false,()))))
        (
         bnd (F5 (x6.2.1,(x6.2.2.1,(x6.2.2.2.1,(x6.2.2.2.2.1,(x6.2.2.2.2.2.1,(x6.2.2.2.2.2.2.1,(x6.2.2.2.2.2.2.2.1,(x6.2.2.2.2.2.2.2.2.1,(x6.2.2.2.2.2.2.2.2.2.1,x6.2.2.2.2.2.2.2.2.2.2.2.2)))))))))) fun x8=>
         chk (both (Zqo (Sh.beq .bool) a1.1 a1.1) (both (Zqo (Sh.beq (.sl Za3)) a1.2.1 a1.2.1) true))<|
         bnd (F0 (x8.2.2.2.2.2.2.2.2.2.2.2,(a1,()))) fun x9=>
         br (Bool.not x9.1)
         (
          some (false,()))
         (
          bnd (F4 (a0.1,(a0.2.1,(a0.2.2.1,(a0.2.2.2.1,(a0.2.2.2.2.1,(a0.2.2.2.2.2.1,(a0.2.2.2.2.2.2.1,(a0.2.2.2.2.2.2.2.1,(a1.1,(a1.2.1,(a3,(x8.1,(x8.2.1,(x8.2.2.1,(x8.2.2.2.1,(x8.2.2.2.2.1,(x8.2.2.2.2.2.1,(x8.2.2.2.2.2.2.1,(x8.2.2.2.2.2.2.2.1,(x8.2.2.2.2.2.2.2.2.1,(x8.2.2.2.2.2.2.2.2.2.1,(x8.2.2.2.2.2.2.2.2.2.2.1,()))))))))))))))))))))))) fun x10=>
          br x10.2.2.1
          (
           bnd (F1 ()) fun x11=>
           some ((selB true x11.1 false),()))
          (
           some (false,())))))
      ))
    ))))
def astrariumlaw12_SimSets_G (c0:Zaec) (c1:astrariumlaw12_alive_D) (c2:Zad0) (c3:Zadr) (c4:astrariumlaw12_cycle_D) (c5:nsim_Machine__State_D) (c6:nsim_Machine__Set_D) (c7:Zb5x) :astrariumlaw12_SimSets_D:=⟨u4 (astrariumlaw12_SimSets_F c0.F c1.F c2.F c3.F c4.F c5.F c6.F c7.F),pD Tryz.func8 71 (kD c0 (kD c1 (kD c2 (kD c3 (kB c4 (kB c5 (kB c6 (kB c7 k0)))))))) e0 1 (sS l0) fun d=>by kernel_rfl⟩
def astrariumlaw12_SimSets_K:astrariumlaw12_SimSets_D:=astrariumlaw12_SimSets_G Zalh astrariumlaw12_alive_K Zahv Zakr astrariumlaw12_cycle_K nsim_Machine__State_K nsim_Machine__Set_K Zb7y 
def astrariumlaw12_SimSets_FF:astrariumlaw12_SimSets_T:=astrariumlaw12_SimSets_K.F
end Go.Proofs.YtnocaehijdmkkaaGreat.V
end
section
namespace Go.Proofs.YtnocaehijdmkkaaGreat.V
open Go Go.RowKit
open Go.Proofs.YtnocaehijdmkkaaGreat.Pl
section
variable {n:NetD} (ft:Fit n)
include ft
theorem set_is (ord:List (NodeD×NodeI)) (ls lt:List Bool) (rs:List RamT) (ct:List (List CellT)) (hct:ct.length=n.mems.length∨fitsS (netT n) (lt,(ct,()))=false) (hb:lt.length≤1000000) :
  nsim_Machine__Set_FF (lt,(ct,mc n ord ls rs ()))=some (match fitsS (netT n) (lt,(ct,())) with | true=>.inr ((0:Int),mc n ord ls rs (lt,(rms n ct,()))) | false=>.inl ((14:Int),mc n ord ls rs ())):=by
 have el:=Zbaq ft lt ct
 cases hf:fitsS (netT n) (lt,(ct,())) with
 | true=>
  rw [hf] at el hct
  have hr:=rms_eq n ct (by simpa using hct)
  have e:∀R R':List RamT,R=R'→(some (.inr ((0:Int),mc n ord ls rs (lt,(R,())))):Option (Out nsim_Machine__Set_outs))=some (.inr ((0:Int),mc n ord ls rs (lt,(R',())))):=by rintro _ _ rfl;rfl
  exact Zba el (br_ff rfl (Zba (clB hb) (e _ _ hr)))
 | false=>
  rw [hf] at el
  exact Zba el (br_tt rfl rfl)
theorem simSets_n (ls:List Bool) (cs:List (List CellT)) (lt:List Bool) (ct:List (List CellT)) (x:List Bool) (hok:okS cs) (hokt:okS ct) (hL:lightS ls cs [x]) (el:Zfz (netT n,((ls,(cs,())),([x],())))=some (true,()))
  (b:Bool) (hLt:b=true→lightS lt ct []) (et:Zfz (netT n,((lt,(ct,())),([],())))=some (b,())) :
  astrariumlaw12_SimSets_FF (netT n,((ls,(cs,())),((lt,(ct,())),(x,()))))=some (true,()):=by
 have ef:=refFits_n ft (ls:=ls) hok
 have eg:=refFits_n ft (ls:=lt) hokt
 refine Zba el (br_ff rfl (Zba et ?_))
 cases b with
 | false=>exact br_tt rfl (Zba alive12_is rfl)
 | true=>
  have hLt:=hLt rfl
  refine br_ff rfl (Zba ef ?_)
  by_cases hc:Pl.Zkz n=0
  ·cases hf:fitsS (netT n) (ls,(cs,())) with
   | false=>
    rw [fitsF_f hc hf]
    exact br_tt rfl (Zba alive12_is rfl)
   | true=>
    rw [fitsF_t hc hf]
    obtain ⟨V,hs,h0,hV,ha⟩:=Zb6f hc
    have en:=new_ok ft ls cs hc hf (by have:=hL.1;omega)
    rw [hV] at en
    have ok:=Zba6 hf hok
    refine br_ff rfl (Zba en (br_ff rfl ?_))
    cases hg:fitsS (netT n) (lt,(ct,())) with
    | false=>
     rw [fitsF_f hc hg] at eg
     have e1:=set_is ft (ordF n V) ls lt (rms n cs) ct (.inr hg) (by have:=hLt.1;omega)
     rw [hg] at e1
     have es:=state_is hs (ordF n V) (K:=4096) (by omega) ok
     have e2:=same12_ok ft (by omega) ok
     have ec:=cycle_is hs ft h0 ha (K:=4096) (by omega) (ls,cs) ok x
     exact Zba e1 (Zba eg (br_ff rfl (br_ff rfl (Zba es (Zaj (both_self ls cs) (Zba e2 (br_ff rfl (Zba ec (br_tt rfl (Zba alive12_is rfl))))))))))
    | true=>
     rw [fitsF_t hc hg] at eg
     have okt:=Zba6 hg hokt
     have e1:=set_is ft (ordF n V) ls lt (rms n cs) ct (.inl okt.csL) (by have:=hLt.1;omega)
     rw [hg] at e1
     have es:=state_is hs (ordF n V) (K:=4096) (by omega) okt
     have e2:=same12_ok ft (by omega) okt
     have ec:=cycle_is hs ft h0 ha (K:=4096) (by omega) (lt,ct) okt x
     exact Zba e1 (Zba eg (br_ff rfl (br_tt rfl (Zba es (Zaj (both_self lt ct) (Zba e2 (br_ff rfl (Zba ec (br_tt rfl (Zba alive12_is rfl))))))))))
  ·rw [fitsF_c hc]
   exact br_tt (show selB false true (Bool.not (iQ (Pl.Zkz n) (0:Int)))=true from not_t (dec_f hc)) (Zba alive12_is rfl)
end
theorem simSets_is (d:Za5.T) (s t:Zab.T) (x:List Bool) (hd:okD Za5 d) (hs:okD Zab s) (ht:okD Zab t) (hx:okD (.sl .bool) x):astrariumlaw12_SimSets_FF (d,(s,(t,(x,()))))=some (true,()):=by
 obtain ⟨ls,cs,⟨⟩⟩:=s
 obtain ⟨lt,ct,⟨⟩⟩:=t
 obtain ⟨b,eb,hb⟩:=Za6b d ls cs [x]
 cases b with
 | false=>exact Zba eb (br_tt rfl (Zba alive12_is rfl))
 | true=>
  obtain ⟨h5,hL⟩:=hb rfl
  have ft:=fit_of hd h5
  obtain ⟨b2,eb2,hb2⟩:=Za6b d lt ct []
  have r:=simSets_n ft ls cs lt ct x (okS_of hs.2.1) (okS_of ht.2.1) hL (by rw [Zri];exact eb) b2 (fun q=>(hb2 q).2) (by rw [Zri];exact eb2)
  rw [Zri] at r
  exact r
end Go.Proofs.YtnocaehijdmkkaaGreat.V
end
