import Derived.Test.YtnocaehijdmkkaaGreatKTe
import Derived.Test.YtnocaehijdmkkaaGreatKSb
set_option linter.unusedSectionVars false
set_option linter.unusedVariables false
set_option linter.unusedSimpArgs false
set_option linter.unnecessarySimpa false
section
namespace Go.Proofs.YtnocaehijdmkkaaGreat.V
open Go Go.RowKit
set_option maxRecDepth 1000000
end Go.Proofs.YtnocaehijdmkkaaGreat.V
end
section
namespace Go.Proofs.YtnocaehijdmkkaaGreat.V
open Go Go.RowKit
open Go.Proofs.YtnocaehijdmkkaaGreat.Pl
def trF (n:NetD):List (List Bool)→StD→List CycT→Option (List CycT×StD)
 | [],s,acc=>some (acc,s)
 | x :: xs,s,acc=>if x.length≠n.inputs.length then none else trF n xs (stp n s x) (acc++[cyc n s x])
theorem trF_ok {n:NetD} {V:Nat} (hs:Snd n V):∀(xs:List (List Bool)) (s:StD) (acc:List CycT) (K:Nat) (r:List CycT×StD),StOk n K s.1 s.2→trF n xs s acc=some r→StOk n (K+4*xs.length) r.2.1 r.2.2:=by
 intro xs
 induction xs with
 | nil=>
  intro s acc K r ok h
  rw [trF] at h
  obtain rfl:=Option.some.inj h
  exact ok
 | cons x xs ih=>
  intro s acc K r ok h
  rw [trF] at h
  by_cases hw:x.length≠n.inputs.length
  ·rw [if_pos hw] at h;cases h
  ·rw [if_neg hw] at h
   have:=ih (stp n s x) _ (K+4) r (Zbak hs ok _) h
   rw [List.length_cons,show K+4*(xs.length+1)=K+4+4*xs.length by omega]
   exact this
theorem trF_len {n:NetD}:∀(xs:List (List Bool)) (s:StD) (acc:List CycT) (r:List CycT×StD),trF n xs s acc=some r→(∀c∈acc,c.1.length=n.bads.length)→r.1.length=acc.length+xs.length∧∀c∈r.1,c.1.length=n.bads.length:=by
 intro xs
 induction xs with
 | nil=>
  intro s acc r h ha
  rw [trF] at h
  obtain rfl:=Option.some.inj h
  exact ⟨rfl,ha⟩
 | cons x xs ih=>
  intro s acc r h ha
  rw [trF] at h
  by_cases hw:x.length≠n.inputs.length
  ·rw [if_pos hw] at h;cases h
  ·rw [if_neg hw] at h
   obtain ⟨h1,h2⟩:=ih (stp n s x) _ r h (by
    intro c hc
    rw [List.mem_append] at hc
    rcases hc with hc | hc
    ·exact ha c hc
    ·obtain rfl:=List.mem_singleton.1 hc
     exact badsF_len _)
   refine ⟨?_,h2⟩
   rw [h1,List.length_append,List.length_cons,List.length_cons,List.length_nil];omega
def runR (n:NetD) (ls:List Bool) (cs:List (List CellT)) (ins:List (List Bool)):List CycT×StD×Int:=
 if Pl.Zkz n≠0 then ([],([],[]),Pl.Zkz n) else if fitsS (netT n) (ls,(cs,()))=false then ([],([],[]),14) else match trF n ins (ls,cs) [] with
  | none=>([],([],[]),1)
  | some r=>(r.1,r.2,0)
section
variable {n:NetD} {V:Nat} (hs:Snd n V) (ft:Fit n)
include hs ft
theorem run_5 (ins:List (List Bool)) (hI:ins.length≤200):∀(xs:List (List Bool)) (i:Nat) (s:StD) (acc:List CycT) (N:Nat),ins.drop i=xs→i+xs.length=ins.length→xs.length<N→StOk n (4096+4*i) s.1 s.2→acc.length≤i →
  lpD (fun d=>sim_Run_B5 Zaak d.1 d.2.1 d.2.2.1 d.2.2.2.1 d.2.2.2.2.1 d.2.2.2.2.2.1 d.2.2.2.2.2.2.1 d.2.2.2.2.2.2.2.1 d.2.2.2.2.2.2.2.2.1 d.2.2.2.2.2.2.2.2.2.1 d.2.2.2.2.2.2.2.2.2.2.1 d.2.2.2.2.2.2.2.2.2.2.2.1 d.2.2.2.2.2.2.2.2.2.2.2.2.1 d.2.2.2.2.2.2.2.2.2.2.2.2.2.1 d.2.2.2.2.2.2.2.2.2.2.2.2.2.2.1) N (ins,((ins.length:Int),((i:Int),(acc,mc n (ordF n V) s.1 (rms n s.2) ())))) =
   some (match trF n xs s acc with | none=>.inl ((1:Int),()) | some r=>.inr (r.1,mc n (ordF n V) r.2.1 (rms n r.2.2) ())):=by
 intro xs
 induction xs with
 | nil=>
  intro i s acc N hd hl hN ok ha
  obtain ⟨N,rfl⟩:∃M,N=M+1:=⟨N - 1,by simp at hN;omega⟩
  have hil:¬(i:Int)<(ins.length:Int):=by simp at hl;omega
  have hB:sim_Run_B5 Zaak ins (ins.length:Int) (i:Int) acc n.vars n.inputs (n.latches.map latT) n.outputs n.bads n.constraints (n.mems.map memT) (n.ands.map andT) ((ordF n V).map (fun x=>nodeT x.1)) s.1 (rms n s.2)=some (.inr (.inr (acc,mc n (ordF n V) s.1 (rms n s.2) ()))):=by
   unfold sim_Run_B5
   exact br_ff (dec_f hil) rfl
  unfold mc nt at hB ⊢
  simp only [lpD,hB,trF]
 | cons x xs ih=>
  intro i s acc N hd hl hN ok ha
  rw [List.length_cons] at hl hN
  obtain ⟨N,rfl⟩:∃M,N=M+1:=⟨N - 1,by omega⟩
  have hil:i<ins.length:=by omega
  have hx:ins[i]?=some x:=by
   have:=congrArg (fun l:List (List Bool)=>l[0]?) hd
   simpa using this
  have hd':ins.drop (i+1)=xs:=by
   have:=congrArg List.tail hd
   simpa using this
  have g:gt (.sl .bool) ins (i:Int)=x:=gt_at (σ:=.sl .bool) hx
  have hin:inb (i:Int) (List.length ins)=true:=Zar ⟨by omega,by omega⟩
  have hlt:iL (i:Int) (ins.length:Int)=true:=dec_t (by omega)
  by_cases hw:x.length≠n.inputs.length
  ·have es:Zaak (gt (.sl .bool) ins (i:Int),mc n (ordF n V) s.1 (rms n s.2) ())=some (false,((1:Int),mc n (ordF n V) s.1 (rms n s.2) ([],()))):=by rw [g];exact Zba4 hs (ordF n V) s.1 x (rms n s.2) hw
   have hB:sim_Run_B5 Zaak ins (ins.length:Int) (i:Int) acc n.vars n.inputs (n.latches.map latT) n.outputs n.bads n.constraints (n.mems.map memT) (n.ands.map andT) ((ordF n V).map (fun x=>nodeT x.1)) s.1 (rms n s.2)=some (.inr (.inl ((1:Int),()))):=by
    unfold sim_Run_B5
    exact br_tt hlt (Zaj hin (Zba es (br_tt rfl (Zaj rfl rfl))))
   unfold mc nt
   simp only [lpD,hB,trF,if_pos hw]
  ·have hw':x.length=n.inputs.length:=by simpa using hw
   have es:Zaak (gt (.sl .bool) ins (i:Int),mc n (ordF n V) s.1 (rms n s.2) ())=some (fineF n (valF n s.1 s.2 x),((0:Int),mc n (ordF n V) (stp n s x).1 (rms n (stp n s x).2) (badsF n (valF n s.1 s.2 x),()))):=by rw [g];exact stepS_is hs ft (by omega) s.1 x s.2 ok hw'
   have okn:=Zbak hs ok (valF n s.1 s.2 x)
   have hB:sim_Run_B5 Zaak ins (ins.length:Int) (i:Int) acc n.vars n.inputs (n.latches.map latT) n.outputs n.bads n.constraints (n.mems.map memT) (n.ands.map andT) ((ordF n V).map (fun x=>nodeT x.1)) s.1 (rms n s.2)=some (.inl (ins,((ins.length:Int),(((i+1:Nat):Int),(acc++[cyc n s x],mc n (ordF n V) (stp n s x).1 (rms n (stp n s x).2) ()))))):=by
    unfold sim_Run_B5
    have e:∀(p q:Int) (A B:List CycT),p=q→A=B→(some (.inl (ins,((ins.length:Int),(p,(A,mc n (ordF n V) (stp n s x).1 (rms n (stp n s x).2) ()))))):Option (TL sim_Run_lay5.σs⊕Out sim_Run_outs5))=some (.inl (ins,((ins.length:Int),(q,(B,mc n (ordF n V) (stp n s x).1 (rms n (stp n s x).2) ()))))):=by rintro _ _ _ _ rfl rfl;rfl
    exact br_tt hlt (Zaj hin (Zba es (br_ff rfl (Zaj (room32 acc _ (by omega)) (e _ _ _ _ (i64n (show (i:Int)+1=((i+1:Nat):Int) by omega) (by omega)) rfl)))))
   have hI2:=ih (i+1) (stp n s x) (acc++[cyc n s x]) N hd' (by omega) (by omega) (by rw [show 4096+4*(i+1)=4096+4*i+4 by omega];exact okn) (by rw [List.length_append];simp;omega)
   have hp:trF n (x :: xs) s acc=trF n xs (stp n s x) (acc++[cyc n s x]):=by
    rw [trF,if_neg hw]
   rw [hp,←hI2]
   unfold mc nt at hB ⊢
   simp only [lpD,hB]
end
section
variable {n:NetD} (ft:Fit n) (ls:List Bool) (cs:List (List CellT)) (ins:List (List Bool))
include ft
theorem run_is (hok:okS cs) (hI:ins.length≤200) (hb:ls.length≤1000000) :
  sim_Run_FF (netT n,((ls,(cs,())),(ins,())))=some ((runR n ls cs ins).1,(((runR n ls cs ins).2.1.1,((runR n ls cs ins).2.1.2,())),((runR n ls cs ins).2.2,()))):=by
 by_cases hc:Pl.Zkz n=0
 ·cases hf:fitsS (netT n) (ls,(cs,())) with
  | false=>
   have hr:runR n ls cs ins=([],([],[]),14):=by unfold runR;rw [if_neg (fun q=>q hc),if_pos hf]
   rw [hr]
   exact Zba (new_bad ft ls cs hc hf) (Zaj rfl (Zaj rfl rfl))
  | true=>
   obtain ⟨V,hs,h0,hV,ha⟩:=Zb6f hc
   have en:=new_ok ft ls cs hc hf hb
   rw [hV] at en
   have ok:=Zba6 hf hok
   have e5:=run_5 hs ft ins hI ins 0 (ls,cs) [] NN rfl (by omega) (Ze8 (by omega)) ok (Nat.le_refl _)
   have e5':sim_Run_L5 (ins,((Int.ofNat (List.length ins)),((0:Int),([],mc n (ordF n V) ls (rms n cs) ()))))=some (match trF n ins (ls,cs) [] with | none=>.inl ((1:Int),()) | some r=>.inr (r.1,mc n (ordF n V) r.2.1 (rms n r.2.2) ())):=e5
   cases hr:trF n ins (ls,cs) [] with
   | none=>
    have hR:runR n ls cs ins=([],([],[]),1):=by unfold runR;rw [if_neg (fun q=>q hc),if_neg (by rw [hf];simp),hr]
    rw [hr] at e5'
    rw [hR]
    exact Zba en (br_ff rfl (Zba e5' rfl))
   | some r=>
    have hR:runR n ls cs ins=(r.1,r.2,0):=by unfold runR;rw [if_neg (fun q=>q hc),if_neg (by rw [hf];simp),hr]
    rw [hr] at e5'
    rw [hR]
    have okr:=trF_ok hs ins (ls,cs) [] 4096 r ok hr
    have es:=state_is hs (ordF n V) (K:=4096+4*ins.length) (by omega) okr
    exact Zba en (br_ff rfl (Zba e5' (Zba es rfl)))
 ·have hr:runR n ls cs ins=([],([],[]),Pl.Zkz n):=by unfold runR;rw [if_pos hc]
  rw [hr]
  exact Zba (new_no ft ls cs hc) (Zaj (not_t (dec_f hc)) (Zaj (dec_t rfl) rfl))
end
section
variable {n:NetD} {V:Nat} (hs:Snd n V) (ft:Fit n)
include hs ft
end
section
variable {n:NetD} (ft:Fit n)
include ft
end
end Go.Proofs.YtnocaehijdmkkaaGreat.V
end
