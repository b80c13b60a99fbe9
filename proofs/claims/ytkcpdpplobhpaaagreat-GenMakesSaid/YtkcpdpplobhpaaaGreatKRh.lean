import Derived.Test.YtkcpdpplobhpaaaGreatKRg
set_option linter.unusedVariables false
set_option linter.unusedSimpArgs false
set_option linter.unnecessarySimpa false
section
namespace Go.Proofs.YtkcpdpplobhpaaaGreat.V
open Go Go.RowKit
open Go.Proofs.YtkcpdpplobhpaaaGreat.Pl
set_option maxRecDepth 10000
theorem ginp {s:Gk} {D:List Int} (h:GI s D) (k:Nat):GI ⟨s.v+k,s.i++fr s.v (s.v+k),s.l,s.a⟩ D:=by
 have g:=h.grow (w:=s.v+k) (by omega) (I:=fr s.v (s.v+k)) (L:=[]) (A:=[]) (E:=[]) (by simp) (fun x hx=>nomatch hx) (fun x hx=>nomatch hx)
 simp only [List.append_nil] at g
 exact g
theorem gdat {s:Gk} {D:List Int} (h:GI s D) (k:Nat):GI ⟨s.v+k,s.i,s.l,s.a⟩ (D++fr s.v (s.v+k)):=by
 have g:=h.grow (w:=s.v+k) (by omega) (I:=[]) (L:=[]) (A:=[]) (E:=fr s.v (s.v+k)) (by simp) (fun x hx=>nomatch hx) (fun x hx=>nomatch hx)
 simp only [List.append_nil] at g
 exact g
abbrev g0 (L:List Int):Int:=gt (.int .i64) L (0:Int)
theorem rowG_0 {v k:Nat} (h:1≤k):g0 (rowG v k)=2*((v+1:Nat):Int):=by
 have e:(rowG v k)[0]?=some (2*((v+1:Nat):Int)):=by
  unfold rowG
  rw [List.getElem?_map,List.getElem?_range (by omega)];rfl
 exact gt_at (σ:=.int .i64) e
theorem rowG_i {v k:Nat} (h:1≤k):inb (0:Int) (List.length (rowG v k))=true:=Zar (by rw [rowG_len];omega)
theorem rowG_o {v k w:Nat} (h:1≤k) (hw:v+1≤w):LitOk w (g0 (rowG v k)):=by
 rw [rowG_0 h]
 exact ⟨by omega,by omega⟩
theorem rowG_v {v k:Nat} (h:1≤k):Zhs (g0 (rowG v k),())=some (((v+1:Nat):Int),()):=by
 rw [rowG_0 h]
 exact Zwy (by omega)
theorem within_is (a b:Int):gen_within_FF (a,(b,()))=some (decide (1≤a∧a≤16∧1≤b∧b≤16),()):=by
 by_cases h1:(1:Int)≤a
 ·by_cases h2:a≤16
  ·by_cases h3:(1:Int)≤b
   ·refine br_tt (dec_t h1) (br_tt ?_ (br_tt ?_ ?_))
    ·have q:iE a 16=true:=dec_t h2
     rw [q];rfl
    ·have q:iE 1 b=true:=dec_t h3
     rw [q];rfl
    ·have q:selB true (iE b 16) false=decide (1≤a∧a≤16∧1≤b∧b≤16):=by
      by_cases h4:b≤16
      ·have q:iE b 16=true:=dec_t h4
       rw [q,decide_eq_true ⟨h1,h2,h3,h4⟩];rfl
      ·have q:iE b 16=false:=dec_f h4
       rw [q,decide_eq_false (fun h=>h4 h.2.2.2)];rfl
     rw [q];rfl
   ·refine br_tt (dec_t h1) (br_tt ?_ (br_ff ?_ ?_))
    ·have q:iE a 16=true:=dec_t h2
     rw [q];rfl
    ·have q:iE 1 b=false:=dec_f h3
     rw [q];rfl
    ·rw [decide_eq_false (fun h=>h3 h.2.2.1)];rfl
  ·refine br_tt (dec_t h1) (br_ff ?_ ?_)
   ·have q:iE a 16=false:=dec_f h2
    rw [q];rfl
   ·rw [decide_eq_false (fun h=>h2 h.2.1)];rfl
 ·refine br_ff (dec_f h1) ?_
  rw [decide_eq_false (fun h=>h1 h.1)];rfl
theorem stack_no {a b:Int} (h:¬(1≤a∧a≤16∧1≤b∧b≤16)):gen_Stack_FF (a,(b,()))=some (netT ⟨0,[],[],[],[],[],[],[]⟩,((1:Int),())):=by
 refine Zba (within_is a b) (br_tt ?_ rfl)
 rw [decide_eq_false h];rfl
def stM (A W:Nat):MemD:=⟨A,W,false,[⟨((2+W+A+1:Nat):Int),rowG (2+W) A⟩],[⟨g0 (rowG 0 1),rowG (2+W) A,rowG 2 W⟩]⟩
section
variable (o b c:List Int) (m:List Za1.T) {s:Gk} {D:List Int}
end
end Go.Proofs.YtkcpdpplobhpaaaGreat.V
end
section
namespace Go.Proofs.YtkcpdpplobhpaaaGreat.V
open Go Go.RowKit
set_option maxRecDepth 1000000
abbrev astrariumlaw39_alive_σs:List Sh:=[]
abbrev astrariumlaw39_alive_τs:List Sh:=[.bool]
abbrev astrariumlaw39_alive_T:=TL astrariumlaw39_alive_σs→Option (TL astrariumlaw39_alive_τs)
abbrev astrariumlaw39_alive_D:=Kd 37 astrariumlaw39_alive_σs astrariumlaw39_alive_τs
def astrariumlaw39_alive_F (F0:reach_Search_T) (F1:gen_Counter_T)  :Option (TL astrariumlaw39_alive_τs):=
 bnd (F1 ((1:Int),((1:Int),()))) fun x0=>
 bnd (F0 ((x0.1.1,(x0.1.2.1,(x0.1.2.2.1,(x0.1.2.2.2.1,(x0.1.2.2.2.2.1,(x0.1.2.2.2.2.2.1,(x0.1.2.2.2.2.2.2.1,(x0.1.2.2.2.2.2.2.2.1,())))))))),((9:Int),()))) fun x1=>
 br (iQ x0.2.1 (0:Int))
 (
  br (selB true (iQ (Int.ofNat (List.length x0.1.2.2.1)) (1:Int)) false)
  (
   br (selB true (iQ (Int.ofNat (List.length x0.1.2.2.2.2.2.2.2.1)) (5:Int)) false)
   (
    br (selB true (iQ x1.2.1 (0:Int)) false)
    (
     some ((selB true (iQ x1.1.2.1 (2:Int)) false),()))
    (
     some (false,())))
   (
    some (false,())))
  (
   some (false,())))
 (
  some (false,()))
def astrariumlaw39_alive_G (c0:reach_Search_D) (c1:gen_Counter_D) :astrariumlaw39_alive_D:=⟨fun d=>astrariumlaw39_alive_F c0.F c1.F  ,pZ Tryz.func37 37 (kD c0 (kD c1 k0)) e0 1 (sS l0) fun d=>by kernel_rfl⟩
def astrariumlaw39_alive_K:astrariumlaw39_alive_D:=astrariumlaw39_alive_G reach_Search_K gen_Counter_K 
def astrariumlaw39_alive_FF:astrariumlaw39_alive_T:=astrariumlaw39_alive_K.F
theorem alive39_is:astrariumlaw39_alive_FF ()=some (true,()):=by kernel_rfl
end Go.Proofs.YtkcpdpplobhpaaaGreat.V
end
