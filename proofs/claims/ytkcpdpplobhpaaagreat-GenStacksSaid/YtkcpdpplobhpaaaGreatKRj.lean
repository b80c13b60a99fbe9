import Derived.Test.YtkcpdpplobhpaaaGreatKMf
import Derived.Test.YtkcpdpplobhpaaaGreatKRh
import Derived.Test.YtkcpdpplobhpaaaGreatKRe
set_option linter.unusedVariables false
set_option linter.unusedSimpArgs false
set_option linter.unnecessarySimpa false
section
namespace Go.Proofs.YtkcpdpplobhpaaaGreat.V
open Go Go.RowKit
def stepsD {D O:Type} (B:D→Option (D⊕O)):Nat→D→Option (D⊕O)
 | 0,d=>some (.inl d)
 | m+1,d=>match B d with
  | some r=>match r with
   | .inl d'=>stepsD B m d'
   | .inr o=>some (.inr o)
  | none=>none
def Goes {D O:Type} (B:D→Option (D⊕O)) (d:D) (T:Nat) (r:Option O):Prop:=∀N,lpD B (N+T) d=r
theorem steps_in {D O:Type} {B:D→Option (D⊕O)}:∀{m:Nat} {d d':D},stepsD B m d=some (.inl d')→∀N,lpD B (N+m) d=lpD B N d'
 | 0,d,d',h,N=>by simp only [stepsD,Option.some.injEq,Sum.inl.injEq] at h;subst h;rfl
 | m+1,d,d',h,N=>by
  simp only [stepsD] at h
  show lpD B ((N+m)+1) d=_
  simp only [lpD]
  cases hb:B d with
  | none=>rw [hb] at h;cases h
  | some r=>
   rw [hb] at h
   cases r with
   | inl d''=>exact steps_in h N
   | inr o=>cases h
theorem steps_end {D O:Type} {B:D→Option (D⊕O)}:∀{m:Nat} {d:D} {o:O},stepsD B m d=some (.inr o)→∀N,lpD B (N+m) d=some o
 | 0,d,o,h,N=>by simp [stepsD] at h
 | m+1,d,o,h,N=>by
  simp only [stepsD] at h
  show lpD B ((N+m)+1) d=_
  simp only [lpD]
  cases hb:B d with
  | none=>rw [hb] at h;cases h
  | some r=>
   rw [hb] at h
   cases r with
   | inl d''=>exact steps_end h N
   | inr o'=>simpa using h
theorem go_in {D O:Type} {B:D→Option (D⊕O)} {m T:Nat} {d d':D} {r:Option O} (h:stepsD B m d=some (.inl d')) (g:Goes B d' T r):Goes B d (T+m) r:=fun N=>(congrArg (fun k=>lpD B k d) (Nat.add_assoc N T m).symm).trans ((steps_in h (N+T)).trans (g N))
theorem go_end {D O:Type} {B:D→Option (D⊕O)} {m:Nat} {d:D} {o:O} (h:stepsD B m d=some (.inr o)):Goes B d m (some o):=fun N=>steps_end h N
theorem go_1 {D O:Type} {B:D→Option (D⊕O)} {T:Nat} {d d':D} {r:Option O} (h:B d=some (.inl d')) (g:Goes B d' T r):Goes B d (T+1) r:=go_in (by simp only [stepsD,h]) g
theorem go_x {D O:Type} {B:D→Option (D⊕O)} {d:D} {o:O} (h:B d=some (.inr o)):Goes B d 1 (some o):=go_end (by simp only [stepsD,h])
theorem go_nn {D O:Type} {B:D→Option (D⊕O)} {T:Nat} {d:D} {r:Option O} (g:Goes B d T r) (hT:Nat.ble T 1000000=true):lpD B NN d=r:=by
 have h:=Nat.le_of_ble_eq_true hT
 have e:NN=(NN - T)+T:=by have:=Ze8 (n:=1000000) (by omega);omega
 rw [e];exact g _
theorem bnd_k {α R:Type} {x x':Option α} {a:α} {k:α→Option R} {z:Option R} (h:x'=some a) (hx:x=x') (e:k a=z):bnd x k=z:=Zba (hx.trans h) e
abbrev I (n:Int):Int:=n
end Go.Proofs.YtkcpdpplobhpaaaGreat.V
end
section
namespace Go.Proofs.YtkcpdpplobhpaaaGreat.V
open Go Go.RowKit
set_option maxRecDepth 1000000
abbrev astrariumlaw39_GenStacks_σs:List Sh:=[(.int .i64)]
abbrev astrariumlaw39_GenStacks_τs:List Sh:=[.bool]
abbrev astrariumlaw39_GenStacks_T:=TL astrariumlaw39_GenStacks_σs→Option (TL astrariumlaw39_GenStacks_τs)
abbrev astrariumlaw39_GenStacks_D:=Kd 11 astrariumlaw39_GenStacks_σs astrariumlaw39_GenStacks_τs
def astrariumlaw39_GenStacks_F (F0:reach_Search_T) (F1:astrariumref14_Search_T) (F2:astrariumref14_Small_T) (F3:gen_Stack_T) (F4:astrariumlaw39_alive_T) (a0:Int):Option (TL astrariumlaw39_GenStacks_τs):=
 br (iL a0 (1:Int))
 (
  bnd (F4 ()) fun x0=>
  some (x0.1,()))
 (
  br (selB false true (iL (2:Int) a0))
  (
   bnd (F4 ()) fun x0=>
   some (x0.1,()))
  (
   bnd (F3 (a0,((1:Int),()))) fun x0=>
   br (Bool.not (iQ x0.2.1 (0:Int)))
   (
    some (false,()))
   (
    bnd (F2 ((x0.1.1,(x0.1.2.1,(x0.1.2.2.1,(x0.1.2.2.2.1,(x0.1.2.2.2.2.1,(x0.1.2.2.2.2.2.1,(x0.1.2.2.2.2.2.2.1,(x0.1.2.2.2.2.2.2.2.1,())))))))),())) fun x1=>
    br (selB false true (Bool.not (iQ x1.1 (0:Int))))
    (
     some (false,()))
    (
     bnd (F1 ((x0.1.1,(x0.1.2.1,(x0.1.2.2.1,(x0.1.2.2.2.1,(x0.1.2.2.2.2.1,(x0.1.2.2.2.2.2.1,(x0.1.2.2.2.2.2.2.1,(x0.1.2.2.2.2.2.2.2.1,())))))))),((20:Int),()))) fun x2=>
     bnd (F0 ((x0.1.1,(x0.1.2.1,(x0.1.2.2.1,(x0.1.2.2.2.1,(x0.1.2.2.2.2.1,(x0.1.2.2.2.2.2.1,(x0.1.2.2.2.2.2.2.1,(x0.1.2.2.2.2.2.2.2.1,())))))))),((20:Int),()))) fun x3=>
     br (iQ x3.2.1 (0:Int))
     (
      br (selB true (iQ x3.1.2.1 x2.1) false)
      (
       chk (iE (0:Int) (IntKind.wrap .u64 a0))<|
       br (selB true (iQ x2.1 (IntKind.wrap .i64 ((1:Int)*(HPow.hPow (2:Int) (Min.min (Int.toNat (IntKind.wrap .u64 a0)) 64))))) false)
       (
        bnd (F4 ()) fun x4=>
        some ((selB true x4.1 false),()))
       (
        some (false,())))
      (
       some (false,())))
     (
      some (false,()))))))
def astrariumlaw39_GenStacks_G (c0:reach_Search_D) (c1:astrariumref14_Search_D) (c2:astrariumref14_Small_D) (c3:gen_Stack_D) (c4:astrariumlaw39_alive_D) :astrariumlaw39_GenStacks_D:=⟨u1 (astrariumlaw39_GenStacks_F c0.F c1.F c2.F c3.F c4.F),pD Tryz.func11 58 (kD c0 (kD c1 (kD c2 (kD c3 (kD c4 k0))))) e0 1 (sS l0) fun d=>by kernel_rfl⟩
def astrariumlaw39_GenStacks_K:astrariumlaw39_GenStacks_D:=astrariumlaw39_GenStacks_G reach_Search_K astrariumref14_Search_K astrariumref14_Small_K gen_Stack_K astrariumlaw39_alive_K 
def astrariumlaw39_GenStacks_FF:astrariumlaw39_GenStacks_T:=astrariumlaw39_GenStacks_K.F
end Go.Proofs.YtkcpdpplobhpaaaGreat.V
end
section
namespace Go.Proofs.YtkcpdpplobhpaaaGreat.V
open Go Go.RowKit
set_option maxRecDepth 100000
abbrev gsS:TL reach_Starts_lay6.σs→Option (TL reach_Starts_lay6.σs⊕Out reach_Starts_outs6):=fun d=>reach_Starts_B6 expand_Back_FF Zaxv Zod  d.1 d.2.1 d.2.2.1 d.2.2.2.1 d.2.2.2.2.1 d.2.2.2.2.2.1 d.2.2.2.2.2.2.1 d.2.2.2.2.2.2.2.1 d.2.2.2.2.2.2.2.2.1 d.2.2.2.2.2.2.2.2.2.1 d.2.2.2.2.2.2.2.2.2.2.1 d.2.2.2.2.2.2.2.2.2.2.2.1 d.2.2.2.2.2.2.2.2.2.2.2.2.1 d.2.2.2.2.2.2.2.2.2.2.2.2.2.1 d.2.2.2.2.2.2.2.2.2.2.2.2.2.2.1 d.2.2.2.2.2.2.2.2.2.2.2.2.2.2.2.1 d.2.2.2.2.2.2.2.2.2.2.2.2.2.2.2.2.1 d.2.2.2.2.2.2.2.2.2.2.2.2.2.2.2.2.2.1 d.2.2.2.2.2.2.2.2.2.2.2.2.2.2.2.2.2.2.1 d.2.2.2.2.2.2.2.2.2.2.2.2.2.2.2.2.2.2.2.1
abbrev gs7:TL nreach_search__round_lay7.σs→Option (TL nreach_search__round_lay7.σs⊕Out nreach_search__round_outs7):=fun d=>nreach_search__round_B7 bits_Word_FF expand_Back_FF Zapw Zaxv expand_State_FF nsim_Machine__State_FF Zaak nsim_Machine__Set_FF  d.1 d.2.1 d.2.2.1 d.2.2.2.1 d.2.2.2.2.1 d.2.2.2.2.2.1 d.2.2.2.2.2.2.1 d.2.2.2.2.2.2.2.1 d.2.2.2.2.2.2.2.2.1 d.2.2.2.2.2.2.2.2.2.1 d.2.2.2.2.2.2.2.2.2.2.1 d.2.2.2.2.2.2.2.2.2.2.2.1 d.2.2.2.2.2.2.2.2.2.2.2.2.1 d.2.2.2.2.2.2.2.2.2.2.2.2.2.1 d.2.2.2.2.2.2.2.2.2.2.2.2.2.2.1 d.2.2.2.2.2.2.2.2.2.2.2.2.2.2.2.1 d.2.2.2.2.2.2.2.2.2.2.2.2.2.2.2.2.1 d.2.2.2.2.2.2.2.2.2.2.2.2.2.2.2.2.2.1 d.2.2.2.2.2.2.2.2.2.2.2.2.2.2.2.2.2.2.1 d.2.2.2.2.2.2.2.2.2.2.2.2.2.2.2.2.2.2.2.1 d.2.2.2.2.2.2.2.2.2.2.2.2.2.2.2.2.2.2.2.2.1 d.2.2.2.2.2.2.2.2.2.2.2.2.2.2.2.2.2.2.2.2.2.1 d.2.2.2.2.2.2.2.2.2.2.2.2.2.2.2.2.2.2.2.2.2.2.1 d.2.2.2.2.2.2.2.2.2.2.2.2.2.2.2.2.2.2.2.2.2.2.2.1 d.2.2.2.2.2.2.2.2.2.2.2.2.2.2.2.2.2.2.2.2.2.2.2.2.1 d.2.2.2.2.2.2.2.2.2.2.2.2.2.2.2.2.2.2.2.2.2.2.2.2.2.1 d.2.2.2.2.2.2.2.2.2.2.2.2.2.2.2.2.2.2.2.2.2.2.2.2.2.2.1 d.2.2.2.2.2.2.2.2.2.2.2.2.2.2.2.2.2.2.2.2.2.2.2.2.2.2.2.1 d.2.2.2.2.2.2.2.2.2.2.2.2.2.2.2.2.2.2.2.2.2.2.2.2.2.2.2.2.1 d.2.2.2.2.2.2.2.2.2.2.2.2.2.2.2.2.2.2.2.2.2.2.2.2.2.2.2.2.2.1
abbrev gs4:TL nreach_search__round_lay4.σs→Option (TL nreach_search__round_lay4.σs⊕Out nreach_search__round_outs4):=fun d=>nreach_search__round_B4  nreach_search__round_L7 d.1 d.2.1 d.2.2.1 d.2.2.2.1 d.2.2.2.2.1 d.2.2.2.2.2.1 d.2.2.2.2.2.2.1 d.2.2.2.2.2.2.2.1 d.2.2.2.2.2.2.2.2.1 d.2.2.2.2.2.2.2.2.2.1 d.2.2.2.2.2.2.2.2.2.2.1 d.2.2.2.2.2.2.2.2.2.2.2.1 d.2.2.2.2.2.2.2.2.2.2.2.2.1 d.2.2.2.2.2.2.2.2.2.2.2.2.2.1 d.2.2.2.2.2.2.2.2.2.2.2.2.2.2.1 d.2.2.2.2.2.2.2.2.2.2.2.2.2.2.2.1 d.2.2.2.2.2.2.2.2.2.2.2.2.2.2.2.2.1 d.2.2.2.2.2.2.2.2.2.2.2.2.2.2.2.2.2.1 d.2.2.2.2.2.2.2.2.2.2.2.2.2.2.2.2.2.2.1 d.2.2.2.2.2.2.2.2.2.2.2.2.2.2.2.2.2.2.2.1 d.2.2.2.2.2.2.2.2.2.2.2.2.2.2.2.2.2.2.2.2.1 d.2.2.2.2.2.2.2.2.2.2.2.2.2.2.2.2.2.2.2.2.2.1 d.2.2.2.2.2.2.2.2.2.2.2.2.2.2.2.2.2.2.2.2.2.2.1 d.2.2.2.2.2.2.2.2.2.2.2.2.2.2.2.2.2.2.2.2.2.2.2.1 d.2.2.2.2.2.2.2.2.2.2.2.2.2.2.2.2.2.2.2.2.2.2.2.2.1 d.2.2.2.2.2.2.2.2.2.2.2.2.2.2.2.2.2.2.2.2.2.2.2.2.2.1 d.2.2.2.2.2.2.2.2.2.2.2.2.2.2.2.2.2.2.2.2.2.2.2.2.2.2.1
abbrev gs2:TL nreach_search__run_lay2.σs→Option (TL nreach_search__run_lay2.σs⊕Out nreach_search__run_outs2):=fun d=>nreach_search__run_B2 nreach_search__round_FF  d.1 d.2.1 d.2.2.1 d.2.2.2.1 d.2.2.2.2.1 d.2.2.2.2.2.1 d.2.2.2.2.2.2.1 d.2.2.2.2.2.2.2.1 d.2.2.2.2.2.2.2.2.1 d.2.2.2.2.2.2.2.2.2.1 d.2.2.2.2.2.2.2.2.2.2.1 d.2.2.2.2.2.2.2.2.2.2.2.1 d.2.2.2.2.2.2.2.2.2.2.2.2.1 d.2.2.2.2.2.2.2.2.2.2.2.2.2.1 d.2.2.2.2.2.2.2.2.2.2.2.2.2.2.1 d.2.2.2.2.2.2.2.2.2.2.2.2.2.2.2.1 d.2.2.2.2.2.2.2.2.2.2.2.2.2.2.2.2.1 d.2.2.2.2.2.2.2.2.2.2.2.2.2.2.2.2.2.1 d.2.2.2.2.2.2.2.2.2.2.2.2.2.2.2.2.2.2.1 d.2.2.2.2.2.2.2.2.2.2.2.2.2.2.2.2.2.2.2.1 d.2.2.2.2.2.2.2.2.2.2.2.2.2.2.2.2.2.2.2.2.1 d.2.2.2.2.2.2.2.2.2.2.2.2.2.2.2.2.2.2.2.2.2.1 d.2.2.2.2.2.2.2.2.2.2.2.2.2.2.2.2.2.2.2.2.2.2.1 d.2.2.2.2.2.2.2.2.2.2.2.2.2.2.2.2.2.2.2.2.2.2.2.1 d.2.2.2.2.2.2.2.2.2.2.2.2.2.2.2.2.2.2.2.2.2.2.2.2.1 d.2.2.2.2.2.2.2.2.2.2.2.2.2.2.2.2.2.2.2.2.2.2.2.2.2.1 d.2.2.2.2.2.2.2.2.2.2.2.2.2.2.2.2.2.2.2.2.2.2.2.2.2.2.1
abbrev gdS:TL astrariumref14_Starts_lay3.σs→Option (TL astrariumref14_Starts_lay3.σs⊕Out astrariumref14_Starts_outs3):=fun d=>astrariumref14_Starts_B3 Zfp astrariumref14_state_FF astrariumref14_many_FF  d.1 d.2.1 d.2.2.1 d.2.2.2.1 d.2.2.2.2.1 d.2.2.2.2.2.1 d.2.2.2.2.2.2.1 d.2.2.2.2.2.2.2.1 d.2.2.2.2.2.2.2.2.1 d.2.2.2.2.2.2.2.2.2.1
abbrev gd5:TL astrariumref14_Search_lay5.σs→Option (TL astrariumref14_Search_lay5.σs⊕Out astrariumref14_Search_outs5):=fun d=>astrariumref14_Search_B5 astrariumref14_number_FF  d.1 d.2.1 d.2.2.1 d.2.2.2.1 d.2.2.2.2.1 d.2.2.2.2.2.1 d.2.2.2.2.2.2.1 d.2.2.2.2.2.2.2.1 d.2.2.2.2.2.2.2.2.1 d.2.2.2.2.2.2.2.2.2.1 d.2.2.2.2.2.2.2.2.2.2.1 d.2.2.2.2.2.2.2.2.2.2.2.1 d.2.2.2.2.2.2.2.2.2.2.2.2.1
abbrev gd14:TL astrariumref14_Search_lay14.σs→Option (TL astrariumref14_Search_lay14.σs⊕Out astrariumref14_Search_outs14):=fun d=>astrariumref14_Search_B14 astrariumref14_state_FF astrariumref14_cycle_FF  d.1 d.2.1 d.2.2.1 d.2.2.2.1 d.2.2.2.2.1 d.2.2.2.2.2.1 d.2.2.2.2.2.2.1 d.2.2.2.2.2.2.2.1 d.2.2.2.2.2.2.2.2.1 d.2.2.2.2.2.2.2.2.2.1 d.2.2.2.2.2.2.2.2.2.2.1 d.2.2.2.2.2.2.2.2.2.2.2.1 d.2.2.2.2.2.2.2.2.2.2.2.2.1 d.2.2.2.2.2.2.2.2.2.2.2.2.2.1 d.2.2.2.2.2.2.2.2.2.2.2.2.2.2.1
abbrev gd9:TL astrariumref14_Search_lay9.σs→Option (TL astrariumref14_Search_lay9.σs⊕Out astrariumref14_Search_outs9):=fun d=>astrariumref14_Search_B9 astrariumref14_many_FF astrariumref14_Search_L14 d.1 d.2.1 d.2.2.1 d.2.2.2.1 d.2.2.2.2.1 d.2.2.2.2.2.1 d.2.2.2.2.2.2.1 d.2.2.2.2.2.2.2.1 d.2.2.2.2.2.2.2.2.1 d.2.2.2.2.2.2.2.2.2.1 d.2.2.2.2.2.2.2.2.2.2.1 d.2.2.2.2.2.2.2.2.2.2.2.1
abbrev gd3:TL astrariumref14_cycle_lay3.σs→Option (TL astrariumref14_cycle_lay3.σs⊕Out astrariumref14_cycle_outs3):=fun d=>astrariumref14_cycle_B3 astrariumref14_number_FF Zabk Zabm Zabl Zaaj Zajf astrariumref14_cycle_L9 d.1 d.2.1 d.2.2.1 d.2.2.2.1 d.2.2.2.2.1 d.2.2.2.2.2.1 d.2.2.2.2.2.2.1 d.2.2.2.2.2.2.2.1 d.2.2.2.2.2.2.2.2.1 d.2.2.2.2.2.2.2.2.2.1 d.2.2.2.2.2.2.2.2.2.2.1 d.2.2.2.2.2.2.2.2.2.2.2.1 d.2.2.2.2.2.2.2.2.2.2.2.2.1
theorem reach_Starts_eq (d):reach_Starts_FF d=reach_Starts_F expand_Back_FF Zaxv Zod expand_Cells_FF reach_small_FF reach_Starts_L6 d.1:=by kernel_rfl
theorem reach_begin_eq (d):reach_begin_FF d=reach_begin_F bits_Word_FF Zqa expand_Cells_FF reach_Starts_FF expand_State_FF Zb4z reach_begin_L7 d.1 d.2.1 d.2.2.1 d.2.2.2.1 d.2.2.2.2.1 d.2.2.2.2.2.1 d.2.2.2.2.2.2.1 d.2.2.2.2.2.2.2.1:=by kernel_rfl
theorem reach_Search_eq (d):reach_Search_FF d=reach_Search_F nreach_search__run_FF reach_begin_FF  d.1 d.2.1:=by kernel_rfl
theorem nreach_search__round_eq (d):nreach_search__round_FF d=nreach_search__round_F bits_Word_FF expand_Back_FF Zapw Zaxv expand_State_FF nsim_Machine__State_FF Zaak nsim_Machine__Set_FF nreach_search__round_L4 nreach_search__round_L7 d.1 d.2.1 d.2.2.1 d.2.2.2.1 d.2.2.2.2.1 d.2.2.2.2.2.1 d.2.2.2.2.2.2.1 d.2.2.2.2.2.2.2.1 d.2.2.2.2.2.2.2.2.1 d.2.2.2.2.2.2.2.2.2.1 d.2.2.2.2.2.2.2.2.2.2.1 d.2.2.2.2.2.2.2.2.2.2.2.1 d.2.2.2.2.2.2.2.2.2.2.2.2.1 d.2.2.2.2.2.2.2.2.2.2.2.2.2.1 d.2.2.2.2.2.2.2.2.2.2.2.2.2.2.1 d.2.2.2.2.2.2.2.2.2.2.2.2.2.2.2.1 d.2.2.2.2.2.2.2.2.2.2.2.2.2.2.2.2.1 d.2.2.2.2.2.2.2.2.2.2.2.2.2.2.2.2.2.1 d.2.2.2.2.2.2.2.2.2.2.2.2.2.2.2.2.2.2.1 d.2.2.2.2.2.2.2.2.2.2.2.2.2.2.2.2.2.2.2.1 d.2.2.2.2.2.2.2.2.2.2.2.2.2.2.2.2.2.2.2.2.1 d.2.2.2.2.2.2.2.2.2.2.2.2.2.2.2.2.2.2.2.2.2.1:=by kernel_rfl
theorem nreach_search__run_eq (d):nreach_search__run_FF d=nreach_search__run_F nreach_search__round_FF nreach_search__run_L2 d.1 d.2.1 d.2.2.1 d.2.2.2.1 d.2.2.2.2.1 d.2.2.2.2.2.1 d.2.2.2.2.2.2.1 d.2.2.2.2.2.2.2.1 d.2.2.2.2.2.2.2.2.1 d.2.2.2.2.2.2.2.2.2.1 d.2.2.2.2.2.2.2.2.2.2.1 d.2.2.2.2.2.2.2.2.2.2.2.1 d.2.2.2.2.2.2.2.2.2.2.2.2.1 d.2.2.2.2.2.2.2.2.2.2.2.2.2.1 d.2.2.2.2.2.2.2.2.2.2.2.2.2.2.1 d.2.2.2.2.2.2.2.2.2.2.2.2.2.2.2.1 d.2.2.2.2.2.2.2.2.2.2.2.2.2.2.2.2.1 d.2.2.2.2.2.2.2.2.2.2.2.2.2.2.2.2.2.1 d.2.2.2.2.2.2.2.2.2.2.2.2.2.2.2.2.2.2.1 d.2.2.2.2.2.2.2.2.2.2.2.2.2.2.2.2.2.2.2.1 d.2.2.2.2.2.2.2.2.2.2.2.2.2.2.2.2.2.2.2.2.1 d.2.2.2.2.2.2.2.2.2.2.2.2.2.2.2.2.2.2.2.2.2.1 d.2.2.2.2.2.2.2.2.2.2.2.2.2.2.2.2.2.2.2.2.2.2.1:=by kernel_rfl
theorem astrariumref14_Starts_eq (d):astrariumref14_Starts_FF d=astrariumref14_Starts_F Zfp astrariumref14_state_FF astrariumref14_many_FF astrariumref14_Starts_L3 d.1:=by kernel_rfl
theorem astrariumref14_Search_eq (d):astrariumref14_Search_FF d=astrariumref14_Search_F astrariumref14_state_FF astrariumref14_number_FF astrariumref14_Starts_FF astrariumref14_many_FF astrariumref14_cycle_FF astrariumref14_Search_L5 astrariumref14_Search_L9 astrariumref14_Search_L14 astrariumref14_Search_L25 d.1 d.2.1:=by kernel_rfl
theorem astrariumref14_cycle_eq (d):astrariumref14_cycle_FF d=astrariumref14_cycle_F astrariumref14_number_FF Zabk Zabm Zabl Zaaj Zajf astrariumref14_cycle_L3 astrariumref14_cycle_L9 d.1 d.2.1 d.2.2.1 d.2.2.2.1 d.2.2.2.2.1 d.2.2.2.2.2.1 d.2.2.2.2.2.2.1 d.2.2.2.2.2.2.2.1 d.2.2.2.2.2.2.2.2.1 d.2.2.2.2.2.2.2.2.2.1 d.2.2.2.2.2.2.2.2.2.2.1:=by kernel_rfl
theorem astrariumlaw39_GenStacks_eq (d):astrariumlaw39_GenStacks_FF d=astrariumlaw39_GenStacks_F reach_Search_FF astrariumref14_Search_FF astrariumref14_Small_FF gen_Stack_FF astrariumlaw39_alive_FF  d.1:=by kernel_rfl
end Go.Proofs.YtkcpdpplobhpaaaGreat.V
end
section
namespace Go.Proofs.YtkcpdpplobhpaaaGreat.V
open Go Go.RowKit
def a1L:List (Sh.T Za0):=[(I 4,(I 19,(I 0,())))]
def a1M:List (Sh.T Za1):=[(I 1,(I 1,(false,([(I 5,([I 8],()))],([(I 2,([I 8],([I 6],())))],())))))]
def a1A:List (Sh.T Za0):=[(I 6,(I 2,(I 4,()))),(I 7,(I 8,(I 3,()))),(I 8,(I 9,(I 2,()))),(I 9,(I 15,(I 17,()))),(I 10,(I 8,(I 2,()))),(I 11,(I 1,(I 8,()))),(I 12,(I 2,(I 22,())))]
def a1n:Za5.T:=(I 12,([I 1,I 2,I 3],(a1L,([],([I 24],([I 13],(a1M,(a1A,()))))))))
theorem a1gn:gen_Stack_FF (I 1,(I 1,()))=some (a1n,(I 0,())):=by kernel_rfl
theorem a1s14:astrariumref14_Small_FF (a1n,())=some (I 0,()):=by kernel_rfl
def a2L:List (Sh.T Za0):=[(I 4,(I 21,(I 0,()))),(I 5,(I 29,(I 0,())))]
def a2M:List (Sh.T Za1):=[(I 2,(I 1,(false,([(I 6,([I 8,I 10],()))],([(I 2,([I 8,I 10],([I 6],())))],())))))]
def a2A:List (Sh.T Za0):=[(I 7,(I 2,(I 4,()))),(I 8,(I 8,(I 3,()))),(I 9,(I 9,(I 2,()))),(I 10,(I 17,(I 19,()))),(I 11,(I 8,(I 2,()))),(I 12,(I 10,(I 23,()))),(I 13,(I 11,(I 22,()))),(I 14,(I 25,(I 27,()))),(I 15,(I 10,(I 22,()))),(I 16,(I 1,(I 8,()))),(I 17,(I 32,(I 10,()))),(I 18,(I 2,(I 34,())))]
def a2n:Za5.T:=(I 18,([I 1,I 2,I 3],(a2L,([],([I 36],([I 15],(a2M,(a2A,()))))))))
theorem a2gn:gen_Stack_FF (I 2,(I 1,()))=some (a2n,(I 0,())):=by kernel_rfl
theorem a2s14:astrariumref14_Small_FF (a2n,())=some (I 0,()):=by kernel_rfl
end Go.Proofs.YtkcpdpplobhpaaaGreat.V
end
