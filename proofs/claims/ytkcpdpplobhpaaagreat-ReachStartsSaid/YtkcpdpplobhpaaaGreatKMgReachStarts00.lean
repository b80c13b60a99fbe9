import Derived.Test.YtkcpdpplobhpaaaGreatKRe
import Derived.Test.YtkcpdpplobhpaaaGreatKSb
set_option linter.unusedSectionVars false
set_option linter.unusedVariables false
set_option linter.unusedSimpArgs false
set_option linter.unnecessarySimpa false
section
namespace Go.Proofs.YtkcpdpplobhpaaaGreat.V
open Go Go.RowKit
set_option maxRecDepth 1000000
abbrev astrariumlaw14_ReachStarts_lay11:Lay:={ T:=[(3,.fz Zab),(6,.fz Zab),(7,.int .i64)],h:=[],nx:=0 }
abbrev astrariumlaw14_ReachStarts_outs11:List (Ev.Ex×Lay):=[(.ret,{ T:=[(2,.bool)],h:=[],nx:=0 }),((.exit 0),{ T:=[],h:=[],nx:=0 })]
abbrev astrariumlaw14_ReachStarts_T11:=TL astrariumlaw14_ReachStarts_lay11.σs→Option (Out astrariumlaw14_ReachStarts_outs11)
abbrev astrariumlaw14_ReachStarts_D11:=Ld 0 60 (Zb5 [0] (Zaa Tryz.f3)) astrariumlaw14_ReachStarts_lay11 astrariumlaw14_ReachStarts_outs11
def astrariumlaw14_ReachStarts_B11 (F0:Zalg) (t3 t6:List (Sh.T Zab)) (t7:Int):Option (TL astrariumlaw14_ReachStarts_lay11.σs⊕Out astrariumlaw14_ReachStarts_outs11):=
 br (iL t7 (Int.ofNat (List.length t3)))
 (
  chk (inb t7 (List.length t3))<|
  chk (inb t7 (List.length t6))<|
  bnd (F0 (((gt Zab t3 t7).1,((gt Zab t3 t7).2.1,())),(((gt Zab t6 t7).1,((gt Zab t6 t7).2.1,())),()))) fun x0=>
  br (Bool.not x0.1)
  (
   some (.inr (.inl (false,()))))
  (
   some (.inl (t3,(t6,((IntKind.wrap .i64 (t7+(1:Int))),()))))))
 (
  some (.inr (.inr ())))
def astrariumlaw14_ReachStarts_M11 (c0:Zaec) :astrariumlaw14_ReachStarts_D11:=mkL (u3 (astrariumlaw14_ReachStarts_B11 c0.F)) (pL (kD c0 k0) e0 1 l0 fun d=>by kernel_rfl)
def astrariumlaw14_ReachStarts_N11:astrariumlaw14_ReachStarts_D11:=astrariumlaw14_ReachStarts_M11 Zalh 
def astrariumlaw14_ReachStarts_L11:astrariumlaw14_ReachStarts_T11:=lpD (u3 (astrariumlaw14_ReachStarts_B11 Zgi)) NN
abbrev astrariumlaw14_ReachStarts_σs:List Sh:=[Za5]
abbrev astrariumlaw14_ReachStarts_τs:List Sh:=[.bool]
abbrev astrariumlaw14_ReachStarts_T:=TL astrariumlaw14_ReachStarts_σs→Option (TL astrariumlaw14_ReachStarts_τs)
abbrev astrariumlaw14_ReachStarts_D:=Kd 3 astrariumlaw14_ReachStarts_σs astrariumlaw14_ReachStarts_τs
def astrariumlaw14_ReachStarts_F (F0:Zalg) (F1:astrariumref14_Starts_T) (F2:astrariumref14_Small_T) (F3:reach_Starts_T) (F4:astrariumlaw14_alive_T) (F5:Zagn) (L11:astrariumlaw14_ReachStarts_T11) (a0:Sh.T Za5):Option (TL astrariumlaw14_ReachStarts_τs):=
 bnd (F5 (a0,())) fun x0=>
 br (Bool.not x0.1)
 (
  bnd (F4 ()) fun x1=>
  some (x1.1,()))
 (
  bnd (F3 (a0,())) fun x1=>
  bnd (F2 (a0,())) fun x2=>
  br (Bool.not (iQ x2.1 (0:Int)))
  (
   br (iQ x1.2.1 x2.1)
   (
    br (selB true (iQ (Int.ofNat (List.length x1.1)) (0:Int)) false)
    (
     bnd (F4 ()) fun x3=>
     some ((selB true x3.1 false),()))
    (
     some (false,())))
   (
    some (false,())))
  (
   bnd (F1 (a0,())) fun x3=>
   br (Bool.not (iQ x1.2.1 (0:Int)))
   (
    some (false,()))
   (
    br (selB false true (Bool.not (iQ (Int.ofNat (List.length x1.1)) (Int.ofNat (List.length x3.1)))))
    (
     some (false,()))
    (
     bnd (L11 (x1.1,(x3.1,((0:Int),())))) fun x4=>
     (match x4 with
     | .inl x5=>
      some (x5.1,())
     | .inr x5=>
      bnd (F4 ()) fun x6=>
      some (x6.1,())
     )))))
def astrariumlaw14_ReachStarts_G (c0:Zaec) (c1:astrariumref14_Starts_D) (c2:astrariumref14_Small_D) (c3:reach_Starts_D) (c4:astrariumlaw14_alive_D) (c5:Zacs) (M11:astrariumlaw14_ReachStarts_D11):astrariumlaw14_ReachStarts_D:=⟨u1 (astrariumlaw14_ReachStarts_F c0.F c1.F c2.F c3.F c4.F c5.F M11.L),pD Tryz.func3 60 (kD c0 (kD c1 (kD c2 (kD c3 (kD c4 (kD c5 k0)))))) e0 1 (sS (sC M11 l0)) fun d=>by kernel_rfl⟩
def astrariumlaw14_ReachStarts_K:astrariumlaw14_ReachStarts_D:=astrariumlaw14_ReachStarts_G Zalh astrariumref14_Starts_K astrariumref14_Small_K reach_Starts_K astrariumlaw14_alive_K Zago astrariumlaw14_ReachStarts_N11
def astrariumlaw14_ReachStarts_FF:astrariumlaw14_ReachStarts_T:=astrariumlaw14_ReachStarts_K.F
end Go.Proofs.YtkcpdpplobhpaaaGreat.V
end
section
namespace Go.Proofs.YtkcpdpplobhpaaaGreat.V
open Go Go.RowKit
open Go.Proofs.YtkcpdpplobhpaaaGreat.Pl
set_option maxRecDepth 10000
theorem reachStarts_is (d:Za5.T) (hd:okD Za5 d):astrariumlaw14_ReachStarts_FF (d,())=some (true,()):=by
 obtain ⟨b,e,h⟩:=Za6c d
 have al:=alive14_is
 cases b with
 | false=>exact Zba e (br_tt rfl (Zba al rfl))
 | true=>
  have ft:=fit_of hd (h rfl)
  obtain ⟨n,rfl⟩:∃n,d=netT n:=⟨netD d,(Zri d).symm⟩
  rw [Zww] at ft
  have s2:=(small_is ft).2
  by_cases hs:smallF n=0
  ·obtain ⟨V,t⟩:=tiny_of hs
   have e1:=starts_is t ft
   have e2:=starts14_is t ft
   have hp:=pow_wid t
   rw [hs] at s2
   have hlen:(startsT n (2^wid n)).length≤1024:=by
    unfold startsT;rw [List.length_map]
    exact Nat.le_trans (startL_len n _) hp
   have eL:astrariumlaw14_ReachStarts_L11 (startsT n (2^wid n),(startsT n (2^wid n),((0:Int),())))=some (.inr ()):=by
    unfold astrariumlaw14_ReachStarts_L11;delta u3
    refine Zif (fun k:Nat=>(startsT n (2^wid n),(startsT n (2^wid n),((k:Int),())))) (startsT n (2^wid n)).length rfl ?_ ?_ (Ze8 (by omega))
    ·intro k hk
     have hx:=List.getElem?_eq_getElem hk
     obtain ⟨j,hj⟩:∃j,(startsT n (2^wid n))[k]=stT n j:=by
      have hm:=List.getElem_mem hk
      unfold startsT at hm
      obtain ⟨j,_,hj⟩:=List.mem_map.1 hm
      exact ⟨j,hj.symm⟩
     have g:gt Zab (startsT n (2^wid n)) (k:Int)=stT n j:=(gt_at (σ:=Zab) hx).trans hj
     obtain ⟨l1,l2,l3⟩:=st_len t j
     have hla:=ft.lat.1
     have hme:=ft.mems.1
     have r:=Za34 (stN n j).1 (stN n j).2 (Nat.le_trans (Nat.le_of_eq l1) (by omega)) (Nat.le_trans (Nat.le_of_eq l2) (by omega)) (fun c hc=>Nat.le_trans (l3 c hc) (by omega))
     have r':Zgi (((gt Zab (startsT n (2^wid n)) (k:Int)).1,((gt Zab (startsT n (2^wid n)) (k:Int)).2.1,())),(((gt Zab (startsT n (2^wid n)) (k:Int)).1,((gt Zab (startsT n (2^wid n)) (k:Int)).2.1,())),()))=some (true,()):=by rw [g];exact r
     have hi:inb (k:Int) (List.length (startsT n (2^wid n)))=true:=Zar ⟨by omega,by omega⟩
     have ek:∀p q:Int,p=q→(some (.inl (startsT n (2^wid n),(startsT n (2^wid n),(p,())))):Option (TL astrariumlaw14_ReachStarts_lay11.σs⊕Out astrariumlaw14_ReachStarts_outs11))=some (.inl (startsT n (2^wid n),(startsT n (2^wid n),(q,())))):=by rintro _ _ rfl;rfl
     exact br_tt (dec_t (show (k:Int)<(((startsT n (2^wid n)).length:Nat):Int) by omega)) (Zaj hi (Zaj hi (Zba r' (br_ff rfl (ek _ _ (i64n (x:=(k:Int)+1) (n:=k+1) (by omega) (by omega)))))))
    ·exact br_ff (dec_f (show ¬(((startsT n (2^wid n)).length:Nat):Int)<(((startsT n (2^wid n)).length:Nat):Int) by omega)) rfl
   have hb:selB false true (Bool.not (iQ (Int.ofNat (List.length (startsT n (2^wid n)))) (Int.ofNat (List.length (startsT n (2^wid n))))))=false:=not_f (dec_t rfl)
   exact Zba e (br_ff rfl (Zba e1 (Zba s2 (br_ff (not_f (dec_t rfl)) (Zba e2 (br_ff (not_f (dec_t rfl)) (br_ff hb (Zba eL (Zba al rfl)))))))))
  ·have e1:=starts_no ft hs
   exact Zba e (br_ff rfl (Zba e1 (Zba s2 (br_tt (not_t (dec_f hs)) (br_tt (dec_t rfl) (br_tt rfl (Zba al rfl)))))))
end Go.Proofs.YtkcpdpplobhpaaaGreat.V
end
