import Derived.Test.YtnocaehijdmkkaaGreatKTc
import Derived.Test.YtnocaehijdmkkaaGreatKTd
import Derived.Test.YtnocaehijdmkkaaGreatKSb
set_option linter.unusedSectionVars false
set_option linter.unusedVariables false
set_option linter.unusedSimpArgs false
set_option linter.unnecessarySimpa false
section
namespace Go.Proofs.YtnocaehijdmkkaaGreat.V
open Go Go.RowKit
set_option maxRecDepth 1000000
abbrev Zadn:Lay:={ T:=[(0,.fz .bool),(1,.bool),(7,.int .i64),(8,.int .i64)],h:=[],nx:=0 }
abbrev Zad9:List (Ev.Ex×Lay):=[(.ret,{ T:=[(4,.int .i64)],h:=[],nx:=0 }),((.exit 0),{ T:=[],h:=[],nx:=0 })]
abbrev Zapv:=TL Zadn.σs→Option (Out Zad9)
abbrev Zapx:=Ld 0 19 (Zb5 [0] (Zaa Tryz.f46)) Zadn Zad9
def Zacu (t0:List Bool) (t1:Bool) (t7 t8:Int):Option (TL Zadn.σs⊕Out Zad9):=
 br (iL t8 t7)
 (
  chk (inb t8 (List.length t0))<|
  br (@decide _ (Bool.decEq t1 (gt .bool t0 t8)))
  (
   some (.inr (.inl (t8,()))))
  (
   some (.inl (t0,(t1,(t7,((IntKind.wrap .i64 (t8+(1:Int))),())))))))
 (
  some (.inr (.inr ())))
def Zaxn  :Zapx:=mkL (u4 Zacu) (pL k0 e0 1 l0 fun d=>by kernel_rfl)
def Zaj4:Zapv:=lpD (u4 Zacu) NN
abbrev Zapu:List Sh:=[(.sl .bool),.bool]
abbrev Zaj3:List Sh:=[(.int .i64)]
abbrev Zajz:=TL Zapu→Option (TL Zaj3)
abbrev Zaew:=Kd 46 Zapu Zaj3
def Zay1 (L2:Zapv) (a0:List Bool) (a1:Bool):Option (TL Zaj3):=
 bnd (L2 (a0,(a1,((Int.ofNat (List.length a0)),((0:Int),()))))) fun x0=>
 (match x0 with
 | .inl x1=>
  some (x1.1,())
 | .inr x1=>
  some ((Int.negSucc 0),())
 )
def Zay0 (M2:Zapx):Zaew:=⟨u2 (Zay1 M2.L),pD Tryz.func46 19 k0 e0 1 (sS (sC M2 l0)) fun d=>by kernel_rfl⟩
def Zak0:Zaew:=Zay0  Zaxn
def Zapw:Zajz:=Zak0.F
abbrev Zam8:List Sh:=[(.sl .bool),.bool]
abbrev Zags:List Sh:=[.bool]
abbrev Zamx:=TL Zam8→Option (TL Zags)
abbrev Zaho:=Kd 45 Zam8 Zags
def Zawm (F0:Zajz) (a0:List Bool) (a1:Bool):Option (TL Zags):=
 bnd (F0 (a0,(a1,()))) fun x0=>
 some ((iE (0:Int) x0.1),())
def Zawl (c0:Zaew) :Zaho:=⟨u2 (Zawm c0.F),pD Tryz.func45 9 (kD c0 k0) e0 1 (sS l0) fun d=>by kernel_rfl⟩
def Zamy:Zaho:=Zawl Zak0 
def Zaw8:Zamx:=Zamy.F
abbrev Zb2g:Lay:={ T:=[(0,.agg lNet),(1,.agg [.fz .bool,.fz (.sl Za3),.fz (.sl .bool),.int .i64])],h:=[],nx:=0 }
abbrev Zax3:List (Ev.Ex×Lay):=[(.ret,{ T:=[(0,.hd 0 Zaa7),(1,.int .i64),(2,.int .i64)],h:=[(0,.arr Zaa7 58)],nx:=1 })]
abbrev Zb4i:=TL Zb2g.σs→Option (Out Zax3)
abbrev Zb07:=Kb 70 2 Zb2g 3 Zax3
abbrev Zasl:Lay:={ T:=[(4,.hd 0 Zaa7),(8,.func 57 [.ptr 1 0] []),(26,.fz (.sl .bool)),(27,.int .i64),(28,.int .i64)],h:=[(0,.arr Zaa7 58),(1,.cells [.int .i64,.fz (.int .i64),.fz Za0,.fz (.int .i64),.fz (.int .i64),.fz (.int .i64),.fz Za1,.fz Za0,.fz Za4,.hd 2 .bool,.rhd 3] 90),(2,.arr .bool 4),(3,.rams 157)],nx:=4 }
abbrev Zara:List (Ev.Ex×Lay):=[(.ret,{ T:=[(4,.hd 0 Zaa7),(5,.int .i64),(6,.int .i64)],h:=[(0,.arr Zaa7 58)],nx:=1 }),((.exit 0),{ T:=[(4,.hd 0 Zaa7)],h:=[(0,.arr Zaa7 58)],nx:=1 })]
abbrev Zb3o:=TL Zasl.σs→Option (Out Zara)
abbrev Zayp:=Ld 0 56 (Zb5 [0] (Zaa Tryz.f70)) Zasl Zara
def Zae1 (F0:Zar1) (t26:List (List Bool)) (t27 t28:Int) (b0:List (Sh.T Zaa7)) (b1_0:Int) (b1_1:List Int) (b1_2:List (Sh.T Za0)) (b1_3 b1_4 b1_5:List Int) (b1_6:List (Sh.T Za1)) (b1_7:List (Sh.T Za0)) (b1_8:List (Sh.T Za4)) (b2:List Bool) (b3:List (Sh.T (.agg [(.int .i64),(.int .i64),(.sl Za3)]))):Option (TL Zasl.σs⊕Out Zara):=
 br (iL t28 t27)
 (
  chk (inb t28 (List.length t26))<|
  bnd (F0 ((gt (.sl .bool) t26 t28),(b1_0,(b1_1,(b1_2,(b1_3,(b1_4,(b1_5,(b1_6,(b1_7,(b1_8,(b2,(b3,()))))))))))))) fun x0=>
  br (Bool.not (iQ x0.2.1 (0:Int)))
  (
   some (.inr (.inl (t28,((9:Int),(b0,()))))))
  (
   br (Bool.not x0.1)
   (
    some (.inr (.inl (t28,((16:Int),(b0,()))))))
   (
    chk (room 32 (List.length (ap b0 ((x0.2.2.2.2.2.2.2.2.2.2.2.2.2.1,(x0.1,())) :: []))))<|
    some (.inl (t26,(t27,((IntKind.wrap .i64 (t28+(1:Int))),((ap b0 ((x0.2.2.2.2.2.2.2.2.2.2.2.2.2.1,(x0.1,())) :: [])),(x0.2.2.1,(x0.2.2.2.1,(x0.2.2.2.2.1,(x0.2.2.2.2.2.1,(x0.2.2.2.2.2.2.1,(x0.2.2.2.2.2.2.2.1,(x0.2.2.2.2.2.2.2.2.1,(x0.2.2.2.2.2.2.2.2.2.1,(x0.2.2.2.2.2.2.2.2.2.2.1,(x0.2.2.2.2.2.2.2.2.2.2.2.1,(x0.2.2.2.2.2.2.2.2.2.2.2.2.1,())))))))))))))))))))
 (
  some (.inr (.inr (b0,()))))
def Zb6k (c0:Zaln) :Zayp:=mkL (u15 (Zae1 c0.F)) (pL (kB c0 k0) e0 1 l0 fun d=>by kernel_rfl)
def Zb6j:Zayp:=Zb6k Zar2 
def Zb6l:Zb3o:=lpD (u15 (Zae1 Zaak)) NN
def Zb7c (F0:Zar1) (F1:Zb7x) (L6:Zb3o) (t0_0:Int) (t0_1:List Int) (t0_2:List (Sh.T Za0)) (t0_3 t0_4 t0_5:List Int) (t0_6:List (Sh.T Za1)) (t0_7:List (Sh.T Za0)) (t1_0:List Bool) (t1_1:List (List (Sh.T Za3))) (t1_2:List (List Bool)) (t1_3:Int):Option (Out Zax3):=
 bnd (F1 (t0_0,(t0_1,(t0_2,(t0_3,(t0_4,(t0_5,(t0_6,(t0_7,(t1_0,(t1_1,()))))))))))) fun x0=>
 (match x0 with
 | .inl x1=>
  chk (Bool.not (iQ x1.1 (0:Int)))<|
  some ((Int.negSucc 0),(x1.1,([],())))
 | .inr x1=>
  br (Bool.not (iQ x1.1 (0:Int)))
  (
   some ((Int.negSucc 0),(x1.1,([],()))))
  (
   bnd (L6 (t1_2,((Int.ofNat (List.length t1_2)),((0:Int),([],x1.2))))) fun x2=>
   (match x2 with
   | .inl x3=>
    some x3
   | .inr x3=>
    some ((Int.negSucc 0),((0:Int),(x3.1,())))
   ))
 )
def Zb7b (c0:Zaln) (c1:Zb5x) (M6:Zayp):Zb07:=⟨u12 (Zb7c c0.F c1.F M6.L),pB Tryz.func70 56 (kB c0 (kB c1 k0)) e0 1 (sS (sC M6 l0)) fun d=>by kernel_rfl⟩
def Zb4j:Zb07:=Zb7b Zar2 Zb7y Zb6j
def Zb6m:Zb4i:=Zb4j.F
abbrev Zaz9:List Sh:=[Za5,Zaah]
abbrev Zarb:List Sh:=[(.sl Zaa7),(.int .i64),(.int .i64)]
abbrev Zax4:=TL Zaz9→Option (TL Zarb)
abbrev Zasm:=Kd 40 Zaz9 Zarb
def Zb5n (F0:Zb04) (F1:Zaq7) (F2:Zb4i) (a0:Sh.T Za5) (a1:Sh.T Zaah):Option (TL Zarb):=
 bnd (F1 (a0,())) fun x0=>
 br (Bool.not (iQ x0.1 (0:Int)))
 (
  some ([],((Int.negSucc 0),(x0.1,()))))
 (
  br (iL a1.2.2.1 (0:Int))
  (
   some ([],((Int.negSucc 0),((1:Int),()))))
  (
   br (selB false true (iE (Int.ofNat (List.length a0.2.2.2.2.1)) a1.2.2.1))
   (
    some ([],((Int.negSucc 0),((1:Int),()))))
   (
    br (selB false true (iQ (Int.ofNat (List.length a1.2.1)) (0:Int)))
    (
     some ([],((Int.negSucc 0),((1:Int),()))))
    (
     bnd (F0 (a0,((a1.1.1,(a1.1.2.1,())),()))) fun x1=>
     br (Bool.not (iQ x1.1 (0:Int)))
     (
      some ([],((Int.negSucc 0),((14:Int),()))))
     (
      bnd (F2 (a0.1,(a0.2.1,(a0.2.2.1,(a0.2.2.2.1,(a0.2.2.2.2.1,(a0.2.2.2.2.2.1,(a0.2.2.2.2.2.2.1,(a0.2.2.2.2.2.2.2.1,(a1.1.1,(a1.1.2.1,a1.2))))))))))) fun x2=>
      br (Bool.not (iQ x2.2.1 (0:Int)))
      (
       some ([],(x2.1,(x2.2.1,()))))
      (
       chk (inb (IntKind.wrap .i64 ((Int.ofNat (List.length x2.2.2.1)) - (1:Int))) (List.length x2.2.2.1))<|
       chk (inb a1.2.2.1 (List.length (gt Zaa7 x2.2.2.1 (IntKind.wrap .i64 ((Int.ofNat (List.length x2.2.2.1)) - (1:Int)))).1))<|
       br (Bool.not (gt .bool (gt Zaa7 x2.2.2.1 (IntKind.wrap .i64 ((Int.ofNat (List.length x2.2.2.1)) - (1:Int)))).1 a1.2.2.1))
       (
        some ([],((IntKind.wrap .i64 ((Int.ofNat (List.length x2.2.2.1)) - (1:Int))),((16:Int),()))))
       (
        some (x2.2.2.1,((Int.negSucc 0),((0:Int),()))))))))))
def Zb5m (c0:Zaw9) (c1:Zamw) (c2:Zb07) :Zasm:=⟨u2 (Zb5n c0.F c1.F c2.F),pD Tryz.func40 67 (kD c0 (kD c1 (kB c2 k0))) e0 1 (sS l0) fun d=>by kernel_rfl⟩
def Zax5:Zasm:=Zb5m Zb06 Zaq8 Zb4j 
def Zb51:Zax4:=Zax5.F
abbrev Zb2n:List Sh:=[Za5,Zaah]
abbrev Zay8:List Sh:=[(.int .i64),(.int .i64)]
abbrev Zays:=TL Zb2n→Option (TL Zay8)
abbrev Zawh:=Kd 13 Zb2n Zay8
def Zb6s (F0:Zax4) (a0:Sh.T Za5) (a1:Sh.T Zaah):Option (TL Zay8):=
 bnd (F0 (a0,(((a1.1.1,(a1.1.2.1,())),a1.2),()))) fun x0=>
 some x0.2
def Zb6r (c0:Zasm) :Zawh:=⟨u2 (Zb6s c0.F),pD Tryz.func13 18 (kD c0 k0) e0 1 (sS l0) fun d=>by kernel_rfl⟩
def Zayt:Zawh:=Zb6r Zax5 
def Zb65:Zays:=Zayt.F
abbrev Zauv:List Sh:=[Za5,Zaah]
abbrev Zanw:List Sh:=[.bool]
abbrev Zapj:=TL Zauv→Option (TL Zanw)
abbrev Zako:=Kd 11 Zauv Zanw
def Zb22 (F0:Zakq) (a0:Sh.T Za5) (a1:Sh.T Zaah):Option (TL Zanw):=
 bnd (F0 (a0,((a1.1.1,(a1.1.2.1,())),(a1.2.1,())))) fun x0=>
 some (x0.1,())
def Zb21 (c0:Zadr) :Zako:=⟨u2 (Zb22 c0.F),pD Tryz.func11 11 (kD c0 k0) e0 1 (sS l0) fun d=>by kernel_rfl⟩
def Zapk:Zako:=Zb21 Zakr 
def Zauw:Zapj:=Zapk.F
abbrev Zaux:List Sh:=[]
abbrev Zanx:List Sh:=[.bool]
abbrev Zapl:=TL Zaux→Option (TL Zanx)
abbrev Zakp:=Kd 12 Zaux Zanx
def Zb24 (F0:Zays)  :Option (TL Zanx):=
 bnd (F0 (((0:Int),([],([],([],(((1:Int) :: []),([],([],([],())))))))),((([],([],())),(([] :: []),((0:Int),()))),()))) fun x0=>
 bnd (F0 (((0:Int),([],([],([],(((0:Int) :: []),([],([],([],())))))))),((([],([],())),(([] :: []),((0:Int),()))),()))) fun x1=>
 br (iQ x0.1 (Int.negSucc 0))
 (
  br (selB true (iQ x0.2.1 (0:Int)) false)
  (
   some ((selB true (iQ x1.2.1 (16:Int)) false),()))
  (
   some (false,())))
 (
  some (false,()))
def Zb23 (c0:Zawh) :Zakp:=⟨fun d=>Zb24 c0.F  ,pZ Tryz.func12 31 (kD c0 k0) e0 1 (sS l0) fun d=>by kernel_rfl⟩
def Zapm:Zakp:=Zb23 Zayt 
def Zb0y:Zapl:=Zapm.F
end Go.Proofs.YtnocaehijdmkkaaGreat.V
end
section
namespace Go.Proofs.YtnocaehijdmkkaaGreat.V
open Go Go.RowKit
open Go.Proofs.YtnocaehijdmkkaaGreat.Pl
def playF (n:NetD):List (List Bool)→Nat→StD→List CycT→List CycT×Int×Int
 | [],i,s,acc=>(acc,-1,0)
 | x :: xs,i,s,acc=>if x.length≠n.inputs.length then (acc,(i:Int),9) else if fineF n (valF n s.1 s.2 x)=false then (acc,(i:Int),16) else playF n xs (i+1) (stp n s x) (acc++[cyc n s x])
section
variable {n:NetD} {V:Nat} (hs:Snd n V) (ft:Fit n)
include hs ft
theorem play_6 (ins:List (List Bool)) (hI:ins.length≤200):∀(xs:List (List Bool)) (i:Nat) (s:StD) (acc:List CycT) (N:Nat),ins.drop i=xs→i+xs.length=ins.length→xs.length<N→StOk n (4096+4*i) s.1 s.2→acc.length≤i →
  lpD (fun d=>Zae1 Zaak d.1 d.2.1 d.2.2.1 d.2.2.2.1 d.2.2.2.2.1 d.2.2.2.2.2.1 d.2.2.2.2.2.2.1 d.2.2.2.2.2.2.2.1 d.2.2.2.2.2.2.2.2.1 d.2.2.2.2.2.2.2.2.2.1 d.2.2.2.2.2.2.2.2.2.2.1 d.2.2.2.2.2.2.2.2.2.2.2.1 d.2.2.2.2.2.2.2.2.2.2.2.2.1 d.2.2.2.2.2.2.2.2.2.2.2.2.2.1 d.2.2.2.2.2.2.2.2.2.2.2.2.2.2.1) N (ins,((ins.length:Int),((i:Int),(acc,mc n (ordF n V) s.1 (rms n s.2) ())))) =
   some (if (playF n xs i s acc).2.2=0 then .inr ((playF n xs i s acc).1,()) else .inl ((playF n xs i s acc).2.1,((playF n xs i s acc).2.2,((playF n xs i s acc).1,())))):=by
 intro xs
 induction xs with
 | nil=>
  intro i s acc N hd hl hN ok ha
  obtain ⟨N,rfl⟩:∃M,N=M+1:=⟨N - 1,by simp at hN;omega⟩
  have hil:¬(i:Int)<(ins.length:Int):=by simp at hl;omega
  have hB:Zae1 Zaak ins (ins.length:Int) (i:Int) acc n.vars n.inputs (n.latches.map latT) n.outputs n.bads n.constraints (n.mems.map memT) (n.ands.map andT) ((ordF n V).map (fun x=>nodeT x.1)) s.1 (rms n s.2)=some (.inr (.inr (acc,()))):=by
   unfold Zae1
   exact br_ff (dec_f hil) rfl
  unfold mc nt
  simp only [lpD,hB,playF]
  rfl
 | cons x xs ih=>
  intro i s acc N hd hl hN ok ha
  rw [List.length_cons] at hl hN
  obtain ⟨N,rfl⟩:∃M,N=M+1:=⟨N - 1,by omega⟩
  have hil:i<ins.length:=by omega
  have hx:ins[i]?=some x:=by
   have:=congrArg (fun l:List (List Bool)=>l[0]?) hd
   simpa using this
  have hd':ins.drop (i+1)=xs:=by
   have:=congrArg List.tail hd
   simpa using this
  have g:gt (.sl .bool) ins (i:Int)=x:=gt_at (σ:=.sl .bool) hx
  have hin:inb (i:Int) (List.length ins)=true:=Zar ⟨by omega,by omega⟩
  have hlt:iL (i:Int) (ins.length:Int)=true:=dec_t (by omega)
  by_cases hw:x.length≠n.inputs.length
  ·have es:Zaak (gt (.sl .bool) ins (i:Int),mc n (ordF n V) s.1 (rms n s.2) ())=some (false,((1:Int),mc n (ordF n V) s.1 (rms n s.2) ([],()))):=by rw [g];exact Zba4 hs (ordF n V) s.1 x (rms n s.2) hw
   have hB:Zae1 Zaak ins (ins.length:Int) (i:Int) acc n.vars n.inputs (n.latches.map latT) n.outputs n.bads n.constraints (n.mems.map memT) (n.ands.map andT) ((ordF n V).map (fun x=>nodeT x.1)) s.1 (rms n s.2)=some (.inr (.inl ((i:Int),((9:Int),(acc,()))))):=by
    unfold Zae1
    exact br_tt hlt (Zaj hin (Zba es (br_tt rfl rfl)))
   unfold mc nt
   simp only [lpD,hB,playF,if_pos hw]
   rfl
  ·have hw':x.length=n.inputs.length:=by simpa using hw
   have es:Zaak (gt (.sl .bool) ins (i:Int),mc n (ordF n V) s.1 (rms n s.2) ())=some (fineF n (valF n s.1 s.2 x),((0:Int),mc n (ordF n V) (stp n s x).1 (rms n (stp n s x).2) (badsF n (valF n s.1 s.2 x),()))):=by rw [g];exact stepS_is hs ft (by omega) s.1 x s.2 ok hw'
   have okn:=Zbak hs ok (valF n s.1 s.2 x)
   cases hf:fineF n (valF n s.1 s.2 x) with
   | false=>
    have hB:Zae1 Zaak ins (ins.length:Int) (i:Int) acc n.vars n.inputs (n.latches.map latT) n.outputs n.bads n.constraints (n.mems.map memT) (n.ands.map andT) ((ordF n V).map (fun x=>nodeT x.1)) s.1 (rms n s.2)=some (.inr (.inl ((i:Int),((16:Int),(acc,()))))):=by
     unfold Zae1
     exact br_tt hlt (Zaj hin (Zba es (br_ff rfl (br_tt (show Bool.not (fineF n (valF n s.1 s.2 x))=true by rw [hf];rfl) rfl))))
    unfold mc nt
    simp only [lpD,hB,playF,if_neg hw,if_pos hf]
    rfl
   | true=>
    have hB:Zae1 Zaak ins (ins.length:Int) (i:Int) acc n.vars n.inputs (n.latches.map latT) n.outputs n.bads n.constraints (n.mems.map memT) (n.ands.map andT) ((ordF n V).map (fun x=>nodeT x.1)) s.1 (rms n s.2)=some (.inl (ins,((ins.length:Int),(((i+1:Nat):Int),(acc++[cyc n s x],mc n (ordF n V) (stp n s x).1 (rms n (stp n s x).2) ()))))):=by
     unfold Zae1
     have e:∀(p q:Int) (A B:List CycT),p=q→A=B→(some (.inl (ins,((ins.length:Int),(p,(A,mc n (ordF n V) (stp n s x).1 (rms n (stp n s x).2) ()))))):Option (TL Zasl.σs⊕Out Zara))=some (.inl (ins,((ins.length:Int),(q,(B,mc n (ordF n V) (stp n s x).1 (rms n (stp n s x).2) ()))))):=by rintro _ _ _ _ rfl rfl;rfl
     exact br_tt hlt (Zaj hin (Zba es (br_ff rfl (br_ff (show Bool.not (fineF n (valF n s.1 s.2 x))=false by rw [hf];rfl) (Zaj (room32 acc _ (by omega)) (e _ _ _ _ (i64n (by omega) (by omega)) rfl))))))
    have hI2:=ih (i+1) (stp n s x) (acc++[cyc n s x]) N hd' (by omega) (by omega) (by rw [show 4096+4*(i+1)=4096+4*i+4 by omega];exact okn) (by rw [List.length_append];simp;omega)
    have hp:playF n (x :: xs) i s acc=playF n xs (i+1) (stp n s x) (acc++[cyc n s x]):=by
     rw [playF,if_neg hw,if_neg (by rw [hf];simp)]
    rw [hp,←hI2]
    unfold mc nt at hB ⊢
    simp only [lpD,hB]
end
def refF (n:NetD) (bad:Int):List (List Bool)→Nat→StD→Int×Int
 | [],i,s=>(-1,0)
 | x :: xs,i,s=>if x.length≠n.inputs.length then ((i:Int),9) else if fineF n (valF n s.1 s.2 x)=false then ((i:Int),16)
  else if xs=[]∧(badsF n (valF n s.1 s.2 x)).getD bad.toNat false=false then ((i:Int),16) else refF n bad xs (i+1) (stp n s x)
theorem Zb4k (n:NetD) (bad:Int):∀(xs:List (List Bool)) (i:Nat) (s:StD) (acc:List CycT),
  ((playF n xs i s acc).2.2≠0→refF n bad xs i s=((playF n xs i s acc).2.1,(playF n xs i s acc).2.2)) ∧
  ((playF n xs i s acc).2.2=0→(playF n xs i s acc).2.1 = -1∧(playF n xs i s acc).1.length=acc.length+xs.length∧(xs≠[]→∃c,(playF n xs i s acc).1[acc.length+xs.length - 1]?=some c∧c.1.length=n.bads.length∧refF n bad xs i s=if c.1.getD bad.toNat false=false then (((i+xs.length - 1:Nat):Int),16) else (-1,0))):=by
 intro xs
 induction xs with
 | nil=>intro i s acc;exact ⟨fun h=>absurd rfl h,fun _=>⟨rfl,rfl,fun h=>absurd rfl h⟩⟩
 | cons x xs ih=>
  intro i s acc
  by_cases hw:x.length≠n.inputs.length
  ·rw [playF,refF,if_pos hw,if_pos hw]
   exact ⟨fun _=>rfl,fun h=>by simp at h⟩
  ·by_cases hf:fineF n (valF n s.1 s.2 x)=false
   ·rw [playF,refF,if_neg hw,if_neg hw,if_pos hf,if_pos hf]
    exact ⟨fun _=>rfl,fun h=>by simp at h⟩
   ·obtain ⟨h1,h2⟩:=ih (i+1) (stp n s x) (acc++[cyc n s x])
    have hp:playF n (x :: xs) i s acc=playF n xs (i+1) (stp n s x) (acc++[cyc n s x]):=by rw [playF,if_neg hw,if_neg hf]
    rw [hp]
    cases xs with
    | nil=>
     refine ⟨fun h=>absurd rfl h,fun _=>⟨rfl,by simp [playF],fun _=>⟨cyc n s x,by simp [playF],by unfold cyc badsF;simp,?_⟩⟩⟩
     rw [refF,if_neg hw,if_neg hf]
     by_cases hb:(badsF n (valF n s.1 s.2 x)).getD bad.toNat false=false
     ·rw [if_pos ⟨rfl,hb⟩]
      show ((i:Int),(16:Int))=if (badsF n (valF n s.1 s.2 x)).getD bad.toNat false=false then ((i:Int),(16:Int)) else ((-1:Int),(0:Int))
      rw [if_pos hb]
     ·rw [if_neg (fun h=>hb h.2)]
      show ((-1:Int),(0:Int))=if (badsF n (valF n s.1 s.2 x)).getD bad.toNat false=false then ((i:Int),(16:Int)) else ((-1:Int),(0:Int))
      rw [if_neg hb]
    | cons y ys=>
     have hr:refF n bad (x :: y :: ys) i s=refF n bad (y :: ys) (i+1) (stp n s x):=by rw [refF,if_neg hw,if_neg hf,if_neg (by simp)]
     rw [hr]
     refine ⟨h1,fun h=>?_⟩
     obtain ⟨a1,a2,a3⟩:=h2 h
     obtain ⟨c,c1,c2,c3⟩:=a3 (by simp)
     refine ⟨a1,by rw [a2];simp;omega,fun _=>⟨c,?_,c2,?_⟩⟩
     ·rw [←c1];congr 1;simp;omega
     ·rw [c3]
      simp only [List.length_cons]
      rw [show i+1+(ys.length+1) - 1=i+(ys.length+1+1) - 1 by omega]
section
variable {n:NetD} {V:Nat} (hs:Snd n V) (ft:Fit n)
include hs ft
end
end Go.Proofs.YtnocaehijdmkkaaGreat.V
end
section
namespace Go.Proofs.YtnocaehijdmkkaaGreat.V
open Go Go.RowKit
set_option maxRecDepth 1000000
theorem Zb3i:Zb0y ()=some (true,()):=by kernel_rfl
end Go.Proofs.YtnocaehijdmkkaaGreat.V
end
section
namespace Go.Proofs.YtnocaehijdmkkaaGreat.V
open Go Go.RowKit
open Go.Proofs.YtnocaehijdmkkaaGreat.Pl
def chF (n:NetD) (ls:List Bool) (cs:List (List CellT)) (ins:List (List Bool)) (bad:Int):Int×Int:=
 if Pl.Zkz n≠0 then (-1,Pl.Zkz n) else if bad<0∨(n.bads.length:Int)≤bad∨ins=[] then (-1,1)
 else if Zym (netT n) ls cs≠0 then (-1,14) else refF n bad ins 0 (ls,cs)
theorem chF_c {n:NetD} {ls:List Bool} {cs:List (List CellT)} {ins:List (List Bool)} {bad:Int} (h:Pl.Zkz n≠0):chF n ls cs ins bad=(-1,Pl.Zkz n):=by unfold chF;rw [if_pos h]
theorem chF_a {n:NetD} {ls:List Bool} {cs:List (List CellT)} {ins:List (List Bool)} {bad:Int} (h:Pl.Zkz n=0) (h1:bad<0∨(n.bads.length:Int)≤bad∨ins=[]):chF n ls cs ins bad=(-1,1):=by
 unfold chF;rw [if_neg (fun q=>q h),if_pos h1]
theorem chF_l {n:NetD} {ls:List Bool} {cs:List (List CellT)} {ins:List (List Bool)} {bad:Int} (h:Pl.Zkz n=0) (h1:¬(bad<0∨(n.bads.length:Int)≤bad∨ins=[])) (h2:Zym (netT n) ls cs≠0):chF n ls cs ins bad=(-1,14):=by
 unfold chF;rw [if_neg (fun q=>q h),if_neg h1,if_pos h2]
theorem chF_r {n:NetD} {ls:List Bool} {cs:List (List CellT)} {ins:List (List Bool)} {bad:Int} (h:Pl.Zkz n=0) (h1:¬(bad<0∨(n.bads.length:Int)≤bad∨ins=[])) (h2:Zym (netT n) ls cs=0):chF n ls cs ins bad=refF n bad ins 0 (ls,cs):=by
 unfold chF;rw [if_neg (fun q=>q h),if_neg h1,if_neg (fun q=>q h2)]
theorem Zb4p {n:NetD} {ls:List Bool} {cs:List (List CellT)} (h:Zym (netT n) ls cs=0):Pl.Zkz n=0∧fitsS (netT n) (ls,(cs,()))=true:=by
 unfold Zym at h
 by_cases q:fitsF (netT n) (ls,(cs,()))=0
 ·have hz:=Zys q
  rw [Zww] at hz
  refine ⟨hz.1,?_⟩
  unfold fitsF at q
  rw [Zww,if_neg (fun w=>w hz.1)] at q
  cases hf:fitsS (netT n) (ls,(cs,())) with
  | true=>rfl
  | false=>rw [hf] at q;simp at q
 ·rw [decide_eq_false q] at h
  exact absurd h q
section
variable {n:NetD} (ft:Fit n) (ls:List Bool) (cs:List (List CellT)) (ins:List (List Bool)) (bad:Int)
include ft
theorem play_is (hok:okS cs) (hI:ins.length≤200) (hb:ls.length≤1000000) (hc:Pl.Zkz n=0) (hf:fitsS (netT n) (ls,(cs,()))=true) :
  Zb6m (nt n (ls,(cs,(ins,(bad,())))))=some ((playF n ins 0 (ls,cs) []).2.1,((playF n ins 0 (ls,cs) []).2.2,((playF n ins 0 (ls,cs) []).1,()))):=by
 obtain ⟨V,hs,h0,hV,ha⟩:=Zb6f hc
 have e1:=new_ok ft ls cs hc hf hb
 rw [hV] at e1
 have ok:=Zba6 hf hok
 have e6:=play_6 hs ft ins hI ins 0 (ls,cs) [] NN rfl (by omega) (Ze8 (by omega)) ok (Nat.le_refl _)
 have e6':Zb6l (ins,((Int.ofNat (List.length ins)),((0:Int),([],mc n (ordF n V) ls (rms n cs) ()))))=some (if (playF n ins 0 (ls,cs) []).2.2=0 then .inr ((playF n ins 0 (ls,cs) []).1,()) else .inl ((playF n ins 0 (ls,cs) []).2.1,((playF n ins 0 (ls,cs) []).2.2,((playF n ins 0 (ls,cs) []).1,())))):=e6
 have hp:=(Zb4k n bad ins 0 (ls,cs) []).2
 by_cases hz:(playF n ins 0 (ls,cs) []).2.2=0
 ·replace e6':=e6'.trans (congrArg some (if_pos hz))
  rw [hz,(hp hz).1]
  exact Zba e1 (br_ff rfl (Zba e6' rfl))
 ·replace e6':=e6'.trans (congrArg some (if_neg hz))
  exact Zba e1 (br_ff rfl (Zba e6' rfl))
theorem Zb73 (hok:okS cs) (hI:ins.length≤200) (hb:ls.length≤1000000) :
  Zb51 (netT n,(((ls,(cs,())),(ins,(bad,()))),()))=some (if (chF n ls cs ins bad).2=0 then (playF n ins 0 (ls,cs) []).1 else [],((chF n ls cs ins bad).1,((chF n ls cs ins bad).2,()))):=by
 have ec:=Zq6 ft
 by_cases hc:Pl.Zkz n=0
 ·skip
  have hc1:Bool.not (iQ (Pl.Zkz n) (0:Int))=false:=by rw [hc];rfl
  by_cases h1:bad<0
  ·rw [chF_a hc (.inl h1)]
   exact Zba ec (br_ff hc1 (br_tt (dec_t h1) rfl))
  ·have e1:iL bad (0:Int)=false:=dec_f h1
   by_cases h2:(n.bads.length:Int)≤bad
   ·rw [chF_a hc (.inr (.inl h2))]
    exact Zba ec (br_ff hc1 (br_ff e1 (br_tt (show selB false true (iE (Int.ofNat (List.length n.bads)) bad)=true from dec_t h2) rfl)))
   ·have e2:selB false true (iE (Int.ofNat (List.length n.bads)) bad)=false:=dec_f h2
    by_cases h3:ins=[]
    ·rw [chF_a hc (.inr (.inr h3))]
     exact Zba ec (br_ff hc1 (br_ff e1 (br_ff e2 (br_tt (show selB false true (iQ (Int.ofNat (List.length ins)) (0:Int))=true by rw [h3];rfl) rfl))))
    ·have hl0:ins.length≠0:=fun h=>h3 (List.eq_nil_of_length_eq_zero h)
     have e3:selB false true (iQ (Int.ofNat (List.length ins)) (0:Int))=false:=dec_f (by show ¬(ins.length:Int)=0;omega)
     have hno:¬(bad<0∨(n.bads.length:Int)≤bad∨ins=[]):=fun h=>by
      rcases h with h | h | h
      ·exact h1 h
      ·exact h2 h
      ·exact h3 h
     have el:=Za32 (netT n) ls cs (ft' ft) (Zb7k ft).1 (Zb7k ft).2
     by_cases h4:Zym (netT n) ls cs=0
     ·rw [chF_r hc hno h4]
      obtain ⟨_,hf⟩:=Zb4p h4
      have ep:=play_is ft ls cs ins bad hok hI hb hc hf
      obtain ⟨p1,p2⟩:=Zb4k n bad ins 0 (ls,cs) []
      have e4:Bool.not (iQ (Zym (netT n) ls cs) (0:Int))=false:=by rw [h4];rfl
      by_cases hz:(playF n ins 0 (ls,cs) []).2.2=0
      ·obtain ⟨q1,q2,q3⟩:=p2 hz
       obtain ⟨c,c1,c2,c3⟩:=q3 h3
       have hl:(playF n ins 0 (ls,cs) []).1.length=ins.length:=by rw [q2];simp
       have hc0:([]:List CycT).length+ins.length - 1=ins.length - 1:=by simp
       rw [hc0] at c1
       rw [show 0+ins.length - 1=ins.length - 1 by omega] at c3
       rw [c3]
       generalize playF n ins 0 (ls,cs) []=P at ep hz hl c1
       obtain ⟨PL,P1,P2⟩:=P
       simp only at hz hl c1
       subst hz
       have hw1:IntKind.wrap .i64 ((Int.ofNat (List.length PL)) - (1:Int))=((ins.length - 1:Nat):Int):=i64n (by show (PL.length:Int) - 1=_;omega) (by omega)
       have gL:gt Zaa7 PL (IntKind.wrap .i64 ((Int.ofNat (List.length PL)) - (1:Int)))=c:=by rw [hw1];exact gt_at (σ:=Zaa7) c1
       have i1:inb (IntKind.wrap .i64 ((Int.ofNat (List.length PL)) - (1:Int))) (List.length PL)=true:=by rw [hw1];exact Zar ⟨by omega,by omega⟩
       have i2:inb bad (List.length (gt Zaa7 PL (IntKind.wrap .i64 ((Int.ofNat (List.length PL)) - (1:Int)))).1)=true:=by rw [gL];exact Zar ⟨by omega,by show bad<((c.1.length:Nat):Int);omega⟩
       have gb:gt .bool (gt Zaa7 PL (IntKind.wrap .i64 ((Int.ofNat (List.length PL)) - (1:Int)))).1 bad=c.1.getD bad.toNat false:=by rw [gL];exact gt_b (by omega)
       by_cases hcb:c.1.getD bad.toNat false=false
       ·rw [if_pos hcb]
        have e:∀p q:Int,p=q→(some ([],(p,((16:Int),()))):Option (TL Zarb))=some ([],(q,((16:Int),()))):=by rintro _ _ rfl;rfl
        exact Zba ec (br_ff hc1 (br_ff e1 (br_ff e2 (br_ff e3 (Zba el (br_ff e4 (Zba ep (br_ff rfl (Zaj i1 (Zaj i2 (br_tt (show Bool.not (gt .bool (gt Zaa7 PL (IntKind.wrap .i64 ((Int.ofNat (List.length PL)) - (1:Int)))).1 bad)=true by rw [gb,hcb];rfl) (e _ _ hw1))))))))))))
       ·rw [if_neg hcb]
        have hcb':c.1.getD bad.toNat false=true:=by simpa using hcb
        exact Zba ec (br_ff hc1 (br_ff e1 (br_ff e2 (br_ff e3 (Zba el (br_ff e4 (Zba ep (br_ff rfl (Zaj i1 (Zaj i2 (br_ff (show Bool.not (gt .bool (gt Zaa7 PL (IntKind.wrap .i64 ((Int.ofNat (List.length PL)) - (1:Int)))).1 bad)=false by rw [gb,hcb'];rfl) rfl)))))))))))
      ·rw [p1 hz,if_neg (show ¬((playF n ins 0 (ls,cs) []).2.1,(playF n ins 0 (ls,cs) []).2.2).2=0 from hz)]
       exact Zba ec (br_ff hc1 (br_ff e1 (br_ff e2 (br_ff e3 (Zba el (br_ff e4 (Zba ep (br_tt (by show Bool.not (decide _)=true;rw [decide_eq_false hz];rfl) rfl))))))))
     ·rw [chF_l hc hno h4]
      exact Zba ec (br_ff hc1 (br_ff e1 (br_ff e2 (br_ff e3 (Zba el (br_tt (by show Bool.not (decide _)=true;rw [decide_eq_false h4];rfl) rfl))))))
 ·rw [chF_c hc,if_neg (show ¬((-1:Int),Pl.Zkz n).2=0 from hc)]
  exact Zba ec (br_tt (by show Bool.not (decide _)=true;rw [decide_eq_false hc];rfl) rfl)
theorem check_is (hok:okS cs) (hI:ins.length≤200) (hb:ls.length≤1000000) :
  Zb65 (netT n,(((ls,(cs,())),(ins,(bad,()))),()))=some ((chF n ls cs ins bad).1,((chF n ls cs ins bad).2,())):=Zba (Zb73 ft ls cs ins bad hok hI hb) rfl
end
end Go.Proofs.YtnocaehijdmkkaaGreat.V
end
