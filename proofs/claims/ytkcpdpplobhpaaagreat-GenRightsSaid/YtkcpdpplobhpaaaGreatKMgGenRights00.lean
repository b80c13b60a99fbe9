import Derived.Test.YtkcpdpplobhpaaaGreatKRh
import Derived.Test.YtkcpdpplobhpaaaGreatKNd
import Derived.Test.YtkcpdpplobhpaaaGreatKNe
set_option linter.unusedSectionVars false
set_option linter.unusedVariables false
set_option linter.unusedSimpArgs false
set_option linter.unnecessarySimpa false
section
namespace Go.Proofs.YtkcpdpplobhpaaaGreat.V
open Go Go.RowKit
set_option maxRecDepth 1000000
abbrev astrariumlaw39_GenRights_σs:List Sh:=[(.int .i64),(.int .i64),(.int .i64)]
abbrev astrariumlaw39_GenRights_τs:List Sh:=[.bool]
abbrev astrariumlaw39_GenRights_T:=TL astrariumlaw39_GenRights_σs→Option (TL astrariumlaw39_GenRights_τs)
abbrev astrariumlaw39_GenRights_D:=Kd 8 astrariumlaw39_GenRights_σs astrariumlaw39_GenRights_τs
def astrariumlaw39_GenRights_F (F0:Zadp) (F1:astrariumlaw39_alive_T) (F2:gen_Kind_T) (a0 a1 a2:Int):Option (TL astrariumlaw39_GenRights_τs):=
 bnd (F2 (a0,(a1,(a2,())))) fun x0=>
 br (Bool.not (iQ x0.2.1 (0:Int)))
 (
  br (iQ x0.1.1 (0:Int))
  (
   br (selB true (iQ x0.2.1 (1:Int)) false)
   (
    bnd (F1 ()) fun x1=>
    some ((selB true x1.1 false),()))
   (
    some (false,())))
  (
   some (false,())))
 (
  bnd (F0 ((x0.1.1,(x0.1.2.1,(x0.1.2.2.1,(x0.1.2.2.2.1,(x0.1.2.2.2.2.1,(x0.1.2.2.2.2.2.1,(x0.1.2.2.2.2.2.2.1,(x0.1.2.2.2.2.2.2.2.1,())))))))),())) fun x1=>
  br (iQ x1.1 (0:Int))
  (
   br (selB true (iQ (Int.ofNat (List.length x0.1.2.2.2.2.1)) (1:Int)) false)
   (
    bnd (F1 ()) fun x2=>
    some ((selB true x2.1 false),()))
   (
    some (false,())))
  (
   some (false,())))
def astrariumlaw39_GenRights_G (c0:Zacr) (c1:astrariumlaw39_alive_D) (c2:gen_Kind_D) :astrariumlaw39_GenRights_D:=⟨u3 (astrariumlaw39_GenRights_F c0.F c1.F c2.F),pD Tryz.func8 40 (kD c0 (kD c1 (kD c2 k0))) e0 1 (sS l0) fun d=>by kernel_rfl⟩
def astrariumlaw39_GenRights_K:astrariumlaw39_GenRights_D:=astrariumlaw39_GenRights_G Zadq astrariumlaw39_alive_K gen_Kind_K 
def astrariumlaw39_GenRights_FF:astrariumlaw39_GenRights_T:=astrariumlaw39_GenRights_K.F
end Go.Proofs.YtkcpdpplobhpaaaGreat.V
end
section
namespace Go.Proofs.YtkcpdpplobhpaaaGreat.V
open Go Go.RowKit
open Go.Proofs.YtkcpdpplobhpaaaGreat.Pl
set_option maxRecDepth 10000
theorem i64_lit {v:Nat} {l:Int} (h:0≤l∧l / 2≤(v:Int)) (hv:v≤2000):I64 l:=by
 obtain ⟨h1,h2⟩:=h
 unfold I64;omega
theorem fit_snd {n:NetD} {V:Nat} (S:Snd n V):Fit n:=by
 have hv:=S.v2
 have hr:∀x∈Zbm n,I64 x:=fun x hx=>by have:=S.rng x hx;unfold I64;omega
 have hl:∀x∈Zch n,I64 x:=fun x hx=>i64_lit (S.lits x hx) hv
 obtain ⟨l1,l2,l3,l4,l5⟩:=S.lens
 have hmem:∀m∈n.mems,∀x∈memL m,I64 x:=fun m hm x hx=>hl x (by unfold Zch;simp only [List.mem_append,List.mem_flatMap];exact .inl (.inr ⟨m,hm,hx⟩))
 refine ⟨by rw [S.vars];unfold I64;omega,⟨by omega,fun x hx=>hr x ?_⟩,⟨by omega,fun l h=>⟨hr _ ?_,hl _ ?_,?_⟩⟩,⟨by omega,fun x hx=>hl x ?_⟩,⟨by omega,fun x hx=>hl x ?_⟩,⟨by omega,fun x hx=>hl x ?_⟩,⟨by omega,fun m hm=>?_⟩,⟨by omega,fun a h=>⟨hr _ ?_,hl _ ?_,hl _ ?_⟩⟩⟩
 ·unfold Zbm;simp only [List.mem_append];exact .inl (.inl (.inl hx))
 ·unfold Zbm;simp only [List.mem_append,List.mem_map];exact .inl (.inl (.inr ⟨l,h,rfl⟩))
 ·unfold Zch;simp only [List.mem_append,List.mem_map];exact .inl (.inl (.inl (.inl (.inl ⟨l,h,rfl⟩))))
 ·have:=S.init l h;unfold I64;omega
 ·unfold Zch;simp only [List.mem_append];exact .inl (.inl (.inl (.inl (.inr hx))))
 ·unfold Zch;simp only [List.mem_append];exact .inl (.inl (.inl (.inr hx)))
 ·unfold Zch;simp only [List.mem_append];exact .inl (.inl (.inr hx))
 ·obtain ⟨a1,a2,w1,w2,hrd,hwr,p1,p2⟩:=S.mems m hm
  refine ⟨⟨by unfold I64;omega,by omega⟩,by unfold I64;omega,by omega,by omega,fun r hr'=>?_,fun x hx=>?_⟩
  ·have hd:r.var∈Zbm n:=by
    unfold Zbm;simp only [List.mem_append,List.mem_flatMap]
    refine .inl (.inr ⟨m,hm,?_⟩)
    unfold Zur
    refine List.mem_flatMap.2 ⟨r,hr',?_⟩
    unfold dataL
    exact List.mem_map.2 ⟨0,List.mem_range.2 (by omega),by show r.var+((0:Nat):Int)=r.var;omega⟩
   have:=S.rng _ hd
   have:=hrd r hr'
   refine ⟨by omega,by omega,by omega,fun y hy=>hmem m hm y ?_⟩
   unfold memL
   exact List.mem_append_left _ (List.mem_flatMap.2 ⟨r,hr',hy⟩)
  ·have hq:=hwr x hx
   have hy:∀y∈Za4e x,I64 y:=fun y hy=>hmem m hm y (by unfold memL;exact List.mem_append_right _ (List.mem_flatMap.2 ⟨x,hx,hy⟩))
   unfold Za4e at hy
   exact ⟨by omega,by omega,hy _ (List.mem_cons_self ..),fun y h=>hy y (List.mem_cons_of_mem _ (List.mem_append_left _ h)),fun y h=>hy y (List.mem_cons_of_mem _ (List.mem_append_right _ h))⟩
 ·unfold Zbm;simp only [List.mem_append,List.mem_map];exact .inr ⟨a,h,rfl⟩
 ·unfold Zch;simp only [List.mem_append,List.mem_flatMap];exact .inr ⟨a,h,by simp [andL]⟩
 ·unfold Zch;simp only [List.mem_append,List.mem_flatMap];exact .inr ⟨a,h,by simp [andL]⟩
theorem genRights_is (k a b:Int):astrariumlaw39_GenRights_FF (k,(a,(b,())))=some (true,()):=by
 have al:=alive39_is
 rcases kind_is k a b with ⟨n,e,h,hb⟩ | e
 ·obtain ⟨V,hs,h0,_⟩:=check_snd0 h
  have c:=Zxe (fit_snd hs)
  rw [h] at c
  refine Zba e (br_ff (not_f (dec_t rfl)) (Zba c (br_tt (dec_t rfl) (br_tt ?_ (Zba al rfl)))))
  show selB true (iQ (Int.ofNat (List.length n.bads)) 1) false=true
  rw [hb];rfl
 ·exact Zba e (br_tt (not_t (dec_f (by decide))) (br_tt rfl (br_tt rfl (Zba al rfl))))
end Go.Proofs.YtkcpdpplobhpaaaGreat.V
end
