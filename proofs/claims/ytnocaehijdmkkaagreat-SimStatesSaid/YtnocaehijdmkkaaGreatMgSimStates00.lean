import Derived.Test.YtnocaehijdmkkaaGreatEv
import Derived.Test.YtnocaehijdmkkaaGreatMf
import Derived.Test.YtnocaehijdmkkaaGreatSa
import Derived.Test.YtnocaehijdmkkaaGreatSb
section
/- law12's alive: true, as a contract. -/
namespace Go.Proofs.YtnocaehijdmkkaaGreat.V
open Go Go.RowKit
set_option linter.unusedVariables false
set_option maxRecDepth 1000000
theorem Za4b : Ev.isT (Ev.Za5g Tryz.prog Ev.env (Ev.Za98 Tryz.prog) Ev.orc 100000 19 []) = true := by kernel_rfl
def Zim : TL [] → Option (TL [.bool]) := fun _ => some (true, ())
theorem Za6q {P : Program} {f : FuncId} {fn : Func} {c : Code} (hf : P.funcs[f]? = some fn) (hname : (fn.name == "runtime.NumGoroutine") = false) (hb : fn.body = some c)
  (h : ∀ w, Calls P f #[] w fun e w' => e = .returned (.bool true) ∧ Below w.heap.size w w') : Comes P f [] [.bool] (fun _ => some (true, ())) := by
 refine ⟨⟨fn, c, hf, hname, hb⟩, ?_⟩
 intro d x hx w A args hA ha
 have hx : (true, ()) = x := Option.some.inj hx
 subst hx
 have : args = [] := ha
 subst this
 refine (h w).mono ?_
 rintro e w' ⟨rfl, hb⟩
 exact ⟨[.bool true], rfl, hb, _, [], rfl, ⟨rfl, rfl⟩, rfl⟩
theorem Zo0 : Comes Tryz.prog 19 [] [.bool] Zim :=
 Za6q (fn := Tryz.f19) (c := Zaa Tryz.f19) Tryz.func19 (by kernel_rfl) (by kernel_rfl) (fun w => Ev.evTrue Ev.env_ok (Ev.Za97 Zac) Ev.orc_ok Za4b rfl (fun _ => (0, 0)) w)
end Go.Proofs.YtnocaehijdmkkaaGreat.V
end
section
/- the law SimStates (printed by VTool.lean). -/
namespace Go.Proofs.YtnocaehijdmkkaaGreat.V
open Go Go.RowKit
set_option linter.unusedVariables false
set_option maxRecDepth 1000000
def Zgd : List Sh := [Za5, Zab]
def Zei : List Sh := [.bool]
def Zjk (F_astrariumref12_Same : TL [Zab, Zab] → Option (TL [.bool])) (F_astrariumref12_Zero : TL [Za5] → Option (TL [Zab])) (F_sim_Zero : TL [Za5] → Option (TL [Zab])) (F_astrariumref12_Legal : TL [Za5, Zab] → Option (TL [(.int .i64)])) (F_sim_Legal : TL [Za5, Zab] → Option (TL [(.int .i64)])) (F_astrariumref12_Fits : TL [Za5, Zab] → Option (TL [(.int .i64)])) (F_sim_Fits : TL [Za5, Zab] → Option (TL [(.int .i64)])) (F_astrariumlaw12_alive : TL [] → Option (TL [.bool])) (F_astrariumlaw12_Light : TL [Za5, Zab, (.sl (.sl .bool))] → Option (TL [.bool]))  (a0 : Sh.T Za5) (a1 : Sh.T Zab) : Option (TL Zei) :=
 bnd (F_astrariumlaw12_Light ((a0.1, (a0.2.1, (a0.2.2.1, (a0.2.2.2.1, (a0.2.2.2.2.1, (a0.2.2.2.2.2.1, (a0.2.2.2.2.2.2.1, (a0.2.2.2.2.2.2.2.1, ())))))))), ((a1.1, (a1.2.1, ())), ([], ())))) fun x0 =>
 br (Bool.not x0.1)
 (
  bnd (F_astrariumlaw12_alive ()) fun x1 =>
  some (x1.1, ()))
 (
  bnd (F_sim_Fits ((a0.1, (a0.2.1, (a0.2.2.1, (a0.2.2.2.1, (a0.2.2.2.2.1, (a0.2.2.2.2.2.1, (a0.2.2.2.2.2.2.1, (a0.2.2.2.2.2.2.2.1, ())))))))), ((a1.1, (a1.2.1, ())), ()))) fun x1 =>
  bnd (F_astrariumref12_Fits ((a0.1, (a0.2.1, (a0.2.2.1, (a0.2.2.2.1, (a0.2.2.2.2.1, (a0.2.2.2.2.2.1, (a0.2.2.2.2.2.2.1, (a0.2.2.2.2.2.2.2.1, ())))))))), ((a1.1, (a1.2.1, ())), ()))) fun x2 =>
  br (@decide _ (Int.instDecidableEq x1.1 x2.1))
  (
   bnd (F_sim_Legal ((a0.1, (a0.2.1, (a0.2.2.1, (a0.2.2.2.1, (a0.2.2.2.2.1, (a0.2.2.2.2.2.1, (a0.2.2.2.2.2.2.1, (a0.2.2.2.2.2.2.2.1, ())))))))), ((a1.1, (a1.2.1, ())), ()))) fun x3 =>
   bnd (F_astrariumref12_Legal ((a0.1, (a0.2.1, (a0.2.2.1, (a0.2.2.2.1, (a0.2.2.2.2.1, (a0.2.2.2.2.2.1, (a0.2.2.2.2.2.2.1, (a0.2.2.2.2.2.2.2.1, ())))))))), ((a1.1, (a1.2.1, ())), ()))) fun x4 =>
   br (selB true (@decide _ (Int.instDecidableEq x3.1 x4.1)) false)
   (
    bnd (F_sim_Zero ((a0.1, (a0.2.1, (a0.2.2.1, (a0.2.2.2.1, (a0.2.2.2.2.1, (a0.2.2.2.2.2.1, (a0.2.2.2.2.2.2.1, (a0.2.2.2.2.2.2.2.1, ())))))))), ())) fun x5 =>
    bnd (F_astrariumref12_Zero ((a0.1, (a0.2.1, (a0.2.2.1, (a0.2.2.2.1, (a0.2.2.2.2.1, (a0.2.2.2.2.2.1, (a0.2.2.2.2.2.2.1, (a0.2.2.2.2.2.2.2.1, ())))))))), ())) fun x6 =>
    bnd (F_astrariumref12_Same ((x5.1.1, (x5.1.2.1, ())), ((x6.1.1, (x6.1.2.1, ())), ()))) fun x7 =>
    br (selB true x7.1 false)
    (
     bnd (F_astrariumlaw12_alive ()) fun x8 =>
     some ((selB true x8.1 false), ()))
    (
     some (false, ())))
   (
    some (false, ())))
  (
   some (false, ())))
theorem Zm3 (F_astrariumref12_Same : TL [Zab, Zab] → Option (TL [.bool])) (F_astrariumref12_Zero : TL [Za5] → Option (TL [Zab])) (F_sim_Zero : TL [Za5] → Option (TL [Zab])) (F_astrariumref12_Legal : TL [Za5, Zab] → Option (TL [(.int .i64)])) (F_sim_Legal : TL [Za5, Zab] → Option (TL [(.int .i64)])) (F_astrariumref12_Fits : TL [Za5, Zab] → Option (TL [(.int .i64)])) (F_sim_Fits : TL [Za5, Zab] → Option (TL [(.int .i64)])) (F_astrariumlaw12_alive : TL [] → Option (TL [.bool])) (F_astrariumlaw12_Light : TL [Za5, Zab, (.sl (.sl .bool))] → Option (TL [.bool]))  (a0 : Sh.T Za5) (a1 : Sh.T Zab) : runF (τs := Zei) Tryz.prog (shOf Tryz.prog 20) (kn [(22, ⟨_, _, F_astrariumref12_Same⟩), (38, ⟨_, _, F_astrariumref12_Zero⟩), (37, ⟨_, _, F_sim_Zero⟩), (36, ⟨_, _, F_astrariumref12_Legal⟩), (35, ⟨_, _, F_sim_Legal⟩), (21, ⟨_, _, F_astrariumref12_Fits⟩), (32, ⟨_, _, F_sim_Fits⟩), (19, ⟨_, _, F_astrariumlaw12_alive⟩), (18, ⟨_, _, F_astrariumlaw12_Light⟩)] []) (envT []) 1 (tabL 0 36 []) Tryz.f9 (Zaa Tryz.f9) Zgd (a0, (a1, ())) = Zjk F_astrariumref12_Same F_astrariumref12_Zero F_sim_Zero F_astrariumref12_Legal F_sim_Legal F_astrariumref12_Fits F_sim_Fits F_astrariumlaw12_alive F_astrariumlaw12_Light  a0 a1 := by kernel_rfl
def Zjb : TL Zgd → Option (TL Zei) := fun d => Zjk Zgi Zgf Zqa Zfp Zod Zbn Zhp Zim Zfz  d.1 d.2.1
theorem Zv5 : Comes Tryz.prog 9 Zgd Zei Zjb :=
 Zd1 (e := Tryz.f9) (c := Zaa Tryz.f9) Tryz.func9 (by kernel_rfl) (by kernel_rfl) Zac (kn_ok (List.forall_mem_cons.2 ⟨Zow, (List.forall_mem_cons.2 ⟨Zot, (List.forall_mem_cons.2 ⟨Zxm, (List.forall_mem_cons.2 ⟨Zno, (List.forall_mem_cons.2 ⟨Zwe, (List.forall_mem_cons.2 ⟨Zf3, (List.forall_mem_cons.2 ⟨Zlo, (List.forall_mem_cons.2 ⟨Zo0, (List.forall_mem_cons.2 ⟨Zo1, (List.forall_mem_nil _)⟩)⟩)⟩)⟩)⟩)⟩)⟩)⟩)⟩) (List.forall_mem_nil _)) (Zak (List.forall_mem_nil _)) 36 (by kernel_rfl) (Zan (by kernel_rfl) Zae) (Zeq fun d => Zm3 Zgi Zgf Zqa Zfp Zod Zbn Zhp Zim Zfz  d.1 d.2.1)
end Go.Proofs.YtnocaehijdmkkaaGreat.V
end
section
/- the law SimStates: true of all data. -/
namespace Go.Proofs.YtnocaehijdmkkaaGreat.V
open Go Go.RowKit
set_option linter.unusedVariables false
theorem zero_len (d : Za5.T) (hL : d.2.2.1.length ≤ 100000) (hT : d.2.2.2.2.2.2.1.length ≤ 100000) : List.length (zeroF d).1 ≤ 100000 ∧ List.length (zeroF d).2.1 ≤ 100000 ∧ okAll (α := List Za3.T) (fun c => c.length ≤ 100000) (zeroF d).2.1 := by
 unfold zeroF
 cases decide (Pl.Zkz (netD d) = 0) with
 | false => exact ⟨Nat.zero_le _, Nat.zero_le _, fun c hc => by cases hc⟩
 | true =>
  refine ⟨Nat.le_trans (Nat.le_of_eq (Zu9 _ _)) hL, Nat.le_trans (Nat.le_of_eq List.length_replicate) hT, ?_⟩
  intro c hc
  have : c = [] := List.eq_of_mem_replicate hc
  subst this
  exact Nat.zero_le _
theorem simStates_is (d : Za5.T) (s : Zab.T) (hd : okD Za5 d) (hs : okD Zab s) : Zjb (d, (s, ())) = some (true, ()) := by
 obtain ⟨lat, C, ⟨⟩⟩ := s
 obtain ⟨b, e, h⟩ := Za6b d lat C []
 cases b with
 | false => exact Zba e (br_tt rfl rfl)
 | true =>
  obtain ⟨hl, _⟩ := h rfl
  have ft := fit_of hd hl
  have hL : d.2.2.1.length ≤ 100000 := Nat.le_trans hl.2.1 (by decide)
  have hT : d.2.2.2.2.2.2.1.length ≤ 100000 := Nat.le_trans hl.2.2.2.2.2.2.1 (by decide)
  have hok : okS C := okS_of hs.2.1
  have f1 := Zy6 d (lat, (C, ())) ft hT
  have f2 := Zya d (lat, (C, ())) ft hT hok
  have g1 := Za32 d lat C ft hL hT
  have g2 := Za3d d lat C ft hL hT hok
  have z1 := Za60 d ft hL hT
  have z2 := Za64 d ft hL hT
  obtain ⟨k1, k2, k3⟩ := zero_len d hL hT
  have z3 := Za34 (zeroF d).1 (zeroF d).2.1 k1 k2 k3
  refine Zba e (br_ff rfl (Zba f1 (Zba f2 (br_tt (dec_t rfl) (Zba g1 (Zba g2 (br_tt (show selB true (decide (Zym d lat C = Zym d lat C)) false = true by rw [decide_eq_true rfl]; rfl) (Zba z1 (Zba z2 (Zba z3 (br_tt rfl rfl)))))))))))
end Go.Proofs.YtnocaehijdmkkaaGreat.V
end
