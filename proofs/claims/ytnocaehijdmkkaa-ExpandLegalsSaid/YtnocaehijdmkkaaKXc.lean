import Derived.Test.YtnocaehijdmkkaaKXb
set_option linter.unusedVariables false
set_option linter.unusedSimpArgs false
set_option linter.unnecessarySimpa false
section
namespace Go.Proofs.Ytnocaehijdmkkaa.V
open Go Go.RowKit
open Go.Proofs.Ytnocaehijdmkkaa.Pl
def szM (m:MemD):Nat:=2^m.addr.toNat*m.word.toNat
def offL (L:List MemD):Nat:=L.foldl (fun a m=>a+szM m) 0
def offM (n:NetD) (k:Nat):Nat:=offL (n.mems.take k)
theorem offM_succ (n:NetD) {k:Nat} {m:MemD} (hm:n.mems[k]?=some m):offM n (k+1)=offM n k+szM m:=by
 unfold offM offL
 rw [Pl.Zd8 hm,List.foldl_append];rfl
theorem szM_tP {m:MemD} (h:Small m):(szM m:Int)=tP m:=by
 unfold szM tP
 rw [if_neg (by have:=h.a2;omega)]
 push_cast
 rw [show ((m.word.toNat:Nat):Int)=m.word by have:=h.w1;omega,Int.mul_comm]
theorem offL_sum:∀(L:List MemD) (a:Nat),(∀m∈L,Small m)→((L.foldl (fun a m=>a+szM m) a:Nat):Int)=L.foldl (fun a m=>a+tP m) (a:Int):=by
 intro L
 induction L with
 | nil=>intro a _;rfl
 | cons m L ih=>
  intro a h
  have e:=szM_tP (h m (by simp))
  rw [List.foldl_cons,List.foldl_cons,ih _ (fun x hx=>h x (by simp [hx]))]
  congr 1
  push_cast
  rw [e]
theorem offL_mono:∀(L:List MemD) (a:Nat),a≤L.foldl (fun a m=>a+szM m) a:=by
 intro L
 induction L with
 | nil=>intro a;exact Nat.le_refl _
 | cons m L ih=>intro a;rw [List.foldl_cons];exact Nat.le_trans (Nat.le_add_right ..) (ih _)
theorem offM_le (n:NetD) (k:Nat):offM n k≤offL n.mems:=by
 unfold offM offL
 conv=>rhs;rw [←List.take_append_drop k n.mems,List.foldl_append]
 exact offL_mono _ _
section
variable {n:NetD} {V:Nat} (hs:Snd n V)
include hs
end
section
variable {n:NetD} (ft:Fit n)
include ft
end
end Go.Proofs.Ytnocaehijdmkkaa.V
end
section
namespace Go.Proofs.Ytnocaehijdmkkaa.V
open Go Go.RowKit
open Go.Proofs.Ytnocaehijdmkkaa.Pl
set_option maxRecDepth 10000
theorem dup_zero {V:Int}:∀(l pre:List Int),(pre++l).Nodup→(∀x∈l,1≤x∧x≤V)→V≤((pre++l).length:Int)→dup V pre l=0
 | [],pre,_,_,h=>by
  rw [List.append_nil] at h
  rw [dup,if_neg (by omega)]
 | v :: l,pre,hn,hr,h=>by
  obtain ⟨r1,r2⟩:=hr v (List.mem_cons_self ..)
  have hc:pre.contains v=false:=by
   cases q:pre.contains v
   ·rfl
   ·have hv:v∈pre:=by simpa using q
    rw [List.nodup_append] at hn
    exact absurd rfl (hn.2.2 v hv v (List.mem_cons_self ..))
  have e:pre++v :: l=(pre++[v])++l:=by simp
  rw [dup,if_neg (by omega),if_neg (by rw [hc];simp)]
  exact dup_zero l (pre++[v]) (by rw [←e];exact hn) (fun x hx=>hr x (List.mem_cons_of_mem _ hx)) (by rw [←e];exact h)
theorem dup_len {V:Int}:∀(l pre:List Int),dup V pre l=0→V≤((pre++l).length:Int)
 | [],pre,h=>by
  rw [dup] at h
  rw [List.append_nil]
  by_cases q:(pre.length:Int)<V
  ·rw [if_pos q] at h;omega
  ·omega
 | v :: l,pre,h=>by
  rw [dup] at h
  by_cases q:v<1∨V<v
  ·rw [if_pos q] at h;omega
  rw [if_neg q] at h
  by_cases q2:pre.contains v=true
  ·rw [if_pos q2] at h;omega
  rw [if_neg q2] at h
  have:=dup_len l (pre++[v]) h
  rw [List.append_assoc] at this
  exact this
theorem sound_dup {n:NetD} (h:Zj3 n=0):dup n.vars [] (Zbm n)=0:=by
 unfold Zj3 at h
 by_cases h1:Zka n=true
 ·rw [if_pos h1] at h;omega
 rw [if_neg h1] at h
 by_cases h2:n.mems.any wideB=true
 ·rw [if_pos h2] at h;omega
 rw [if_neg h2] at h
 by_cases h3:n.latches.any initB=true
 ·rw [if_pos h3] at h;omega
 rw [if_neg h3] at h
 by_cases h4:dup n.vars [] (Zbm n)≠0
 ·rw [if_pos h4] at h;exact absurd h h4
 ·omega
theorem all_def {n:NetD} {V:Nat} (hs:Snd n V) (h:Zj3 n=0):V≤(Zbm n).length∧∀v:Nat,1≤v→v≤V→(v:Int)∈Zbm n:=by
 have h1:=dup_len (Zbm n) [] (sound_dup h)
 rw [hs.vars,List.nil_append] at h1
 have h1:V≤(Zbm n).length:=by omega
 exact ⟨h1,(count_of V (Zbm n) hs.nodup hs.rng).2 h1⟩
theorem any_no {α:Type} {p:α→Bool} {l:List α} (h:∀x∈l,p x=false):l.any p=false:=by
 rw [Bool.eq_false_iff]
 intro q
 obtain ⟨x,hx,hp⟩:=List.any_eq_true.1 q
 rw [h x hx] at hp
 cases hp
theorem sound_of {m:NetD} {V:Nat} (hs:Snd m V) (hl:V≤(Zbm m).length):Zj3 m=0:=by
 have e1:Zka m=false:=by
  unfold Zka
  rw [any_no (p:=Zki) (fun x hx=>by
   unfold Zki
   obtain ⟨_,_,_,_,_,_,h1,h2⟩:=hs.mems x hx
   exact decide_eq_false (by omega))]
  obtain ⟨l1,l2,l3,l4,l5⟩:=hs.lens
  have:=hs.vars
  have:=hs.v2
  rw [decide_eq_false (by omega)];rfl
 have e2:m.mems.any wideB=false:=any_no (fun x hx=>by
  obtain ⟨a1,a2,w1,w2,hr,hw,_,_⟩:=hs.mems x hx
  unfold wideB
  rw [decide_eq_false (by omega),any_no (p:=wideR x) (fun r h=>by unfold wideR;rw [hr r h];simp),any_no (p:=wideW x) (fun w h=>by
   obtain ⟨h1,h2⟩:=hw w h
   unfold wideW;rw [h1,h2];simp)]
  rfl)
 have e3:m.latches.any initB=false:=any_no (fun x hx=>by
  have:=hs.init x hx
  unfold initB
  exact decide_eq_false (by omega))
 have e4:dup m.vars [] (Zbm m)=0:=by
  rw [hs.vars]
  exact dup_zero _ [] (by rw [List.nil_append];exact hs.nodup) hs.rng (by rw [List.nil_append];omega)
 have e5:(Zch m).any (litB m.vars)=false:=any_no (fun x hx=>by
  have:=hs.lits x hx
  have hv:=hs.vars
  unfold litB
  exact decide_eq_false (by omega))
 unfold Zj3
 rw [e1,e2,e3,if_neg (by decide),if_neg (by decide),if_neg (by decide),if_neg (by omega),e5]
 rfl
def Good (N:List Nd) (v:Nat):Prop:=∃k,Lev N v k
theorem good_free {N:List Nd} {v:Nat} (h:∀x∈N,v∉x.to):Good N v:=⟨0,.free v h⟩
theorem good_node {N:List Nd} {x:Nd} {v:Nat} (hx:x∈N) (hv:v∈x.to) (h:∀u∈x.frm,Good N u):Good N v:=by
 classical
 exact ⟨_,.node x v (fun u=>if q:Good N u then Classical.choose q else 0) hx hv (fun u hu=>by
  show Lev N u (if q:Good N u then Classical.choose q else 0)
  rw [dif_pos (h u hu)]
  exact Classical.choose_spec (h u hu))⟩
theorem good_and {n:NetD} {a:AndD} (ha:a∈n.ands) (h1:Good (ndL n) (a.a / 2).toNat) (h2:Good (ndL n) (a.b / 2).toNat):Good (ndL n) a.var.toNat:=by
 refine good_node (x:=(andI a).nd) ?_ (by simp [NodeI.nd,andI]) ?_
 ·unfold ndL Zj5
  exact List.mem_map_of_mem (List.mem_append_left _ (List.mem_map_of_mem ha))
 ·intro u hu
  simp only [NodeI.nd,andI,List.map_cons,List.map_nil,List.mem_cons,List.not_mem_nil,or_false] at hu
  rcases hu with rfl | rfl
  ·exact h1
  ·exact h2
section
variable {n:NetD} {V:Nat} (hs:Snd n V)
include hs
theorem good_zero:Good (ndL n) 0:=good_free (fun x hx h=>by
 obtain ⟨y,hy,rfl⟩:=Za7p hx
 obtain ⟨v,hv,e⟩:=List.mem_map.1 h
 have:=(hs.toRng hy hv).1
 omega)
theorem good_src {v:Int} (h:v∈n.inputs∨v∈n.latches.map (·.var)):Good (ndL n) v.toNat:=by
 refine good_free (fun x hx h2=>?_)
 obtain ⟨y,hy,rfl⟩:=Za7p hx
 obtain ⟨u,hu,e⟩:=List.mem_map.1 h2
 have hu1:=(hs.toRng hy hu).1
 have hu2:u∈n.mems.flatMap Zur++n.ands.map (·.var):=by
  have:u∈(Zj5 n).flatMap NodeI.to:=List.mem_flatMap.2 ⟨y,hy,hu⟩
  rw [Za1a] at this
  exact List.mem_append.2 (List.mem_append.1 this).symm
 have hn:=hs.nodup
 unfold Zbm at hn
 have hn2:((n.inputs++n.latches.map (·.var))++(n.mems.flatMap Zur++n.ands.map (·.var))).Nodup:=by
  simp only [List.append_assoc] at hn ⊢;exact hn
 have hv:v∈n.inputs++n.latches.map (·.var):=List.mem_append.2 h
 have hr:=hs.rng v (by unfold Zbm;simp only [List.mem_append] at hv ⊢;exact .inl (.inl hv))
 rw [List.nodup_append] at hn2
 exact hn2.2.2 v hv u hu2 (by omega)
theorem check_of (h0:Zj3 n=0) (h:∀v,v≤V→Good (ndL n) v):Pl.Zkz n=0:=by
 unfold Pl.Zkz
 rw [if_neg (by omega),hs.vars,Int.toNat_natCast,if_pos ((Za0m hs.apart V).2 h)]
end
theorem check_snd0 {n:NetD} (h:Pl.Zkz n=0):∃V,Snd n V∧Zj3 n=0∧acyB (ndL n) V=true:=by
 unfold Pl.Zkz at h
 by_cases h0:Zj3 n≠0
 ·rw [if_pos h0] at h;exact absurd h h0
 rw [if_neg h0] at h
 have h0:Zj3 n=0:=by omega
 obtain ⟨V,hs⟩:=Za74 h0
 refine ⟨V,hs,h0,?_⟩
 rw [hs.vars,Int.toNat_natCast] at h
 by_cases q:acyB (ndL n) V=true
 ·exact q
 ·rw [if_neg q] at h;omega
end Go.Proofs.Ytnocaehijdmkkaa.V
end
section
namespace Go.Proofs.Ytnocaehijdmkkaa.V
open Go Go.RowKit
set_option maxRecDepth 1000000
abbrev slices_Clone___int_int_wz_lay:Lay:={ T:=[(0,.fzb (.int .i64))],h:=[],nx:=0 }
abbrev slices_Clone___int_int_wz_outs:List (Ev.Ex×Lay):=[(.ret,{ T:=[(0,.hd 0 (.int .i64))],h:=[(0,.arr (.int .i64) 3)],nx:=1 })]
abbrev slices_Clone___int_int_wz_D:=Kb 64 1 slices_Clone___int_int_wz_lay 1 slices_Clone___int_int_wz_outs
def slices_Clone___int_int_wz_F (t0z:Bool) (t0:List Int):Option (Out slices_Clone___int_int_wz_outs):=
 br t0z
 (
  some ([],()))
 (
  chk (room 8 (List.length (ap [] t0)))<|
  some ((ap [] t0),()))
def slices_Clone___int_int_wz_G  :slices_Clone___int_int_wz_D:=⟨u2 slices_Clone___int_int_wz_F,pB Try.func64 8 k0 e0 1 (sS l0) fun d=>by kernel_rfl⟩
def slices_Clone___int_int_wz_K:slices_Clone___int_int_wz_D:=slices_Clone___int_int_wz_G  
abbrev slices_Clone___int_int_w_lay:Lay:={ T:=[(0,.fz (.int .i64))],h:=[],nx:=0 }
abbrev slices_Clone___int_int_w_outs:List (Ev.Ex×Lay):=slices_Clone___int_int_wz_outs
abbrev slices_Clone___int_int_w_T:=TL slices_Clone___int_int_w_lay.σs→Option (Out slices_Clone___int_int_w_outs)
abbrev slices_Clone___int_int_w_D:=Kb 64 1 slices_Clone___int_int_w_lay 1 slices_Clone___int_int_w_outs
def slices_Clone___int_int_w_K:slices_Clone___int_int_w_D:=mkZ slices_Clone___int_int_wz_K rfl
def slices_Clone___int_int_w_FF:slices_Clone___int_int_w_T:=slices_Clone___int_int_w_K.F
abbrev slices_Clone___api_Latch_api_Latch_wz_lay:Lay:={ T:=[(0,.fzb Za0)],h:=[],nx:=0 }
abbrev slices_Clone___api_Latch_api_Latch_wz_outs:List (Ev.Ex×Lay):=[(.ret,{ T:=[(0,.hd 0 Za0)],h:=[(0,.arr Za0 62)],nx:=1 })]
abbrev slices_Clone___api_Latch_api_Latch_wz_D:=Kb 65 1 slices_Clone___api_Latch_api_Latch_wz_lay 1 slices_Clone___api_Latch_api_Latch_wz_outs
def slices_Clone___api_Latch_api_Latch_wz_F (t0z:Bool) (t0:List (Sh.T Za0)):Option (Out slices_Clone___api_Latch_api_Latch_wz_outs):=
 br t0z
 (
  some ([],()))
 (
  chk (room 24 (List.length (ap [] t0)))<|
  some ((ap [] t0),()))
def slices_Clone___api_Latch_api_Latch_wz_G  :slices_Clone___api_Latch_api_Latch_wz_D:=⟨u2 slices_Clone___api_Latch_api_Latch_wz_F,pB Try.func65 8 k0 e0 1 (sS l0) fun d=>by kernel_rfl⟩
def slices_Clone___api_Latch_api_Latch_wz_K:slices_Clone___api_Latch_api_Latch_wz_D:=slices_Clone___api_Latch_api_Latch_wz_G  
abbrev slices_Clone___api_Latch_api_Latch_w_lay:Lay:={ T:=[(0,.fz Za0)],h:=[],nx:=0 }
abbrev slices_Clone___api_Latch_api_Latch_w_outs:List (Ev.Ex×Lay):=slices_Clone___api_Latch_api_Latch_wz_outs
abbrev slices_Clone___api_Latch_api_Latch_w_T:=TL slices_Clone___api_Latch_api_Latch_w_lay.σs→Option (Out slices_Clone___api_Latch_api_Latch_w_outs)
abbrev slices_Clone___api_Latch_api_Latch_w_D:=Kb 65 1 slices_Clone___api_Latch_api_Latch_w_lay 1 slices_Clone___api_Latch_api_Latch_w_outs
def slices_Clone___api_Latch_api_Latch_w_K:slices_Clone___api_Latch_api_Latch_w_D:=mkZ slices_Clone___api_Latch_api_Latch_wz_K rfl
def slices_Clone___api_Latch_api_Latch_w_FF:slices_Clone___api_Latch_api_Latch_w_T:=slices_Clone___api_Latch_api_Latch_w_K.F
abbrev slices_Clone___api_And_api_And_wz_lay:Lay:={ T:=[(0,.fzb Za0)],h:=[],nx:=0 }
abbrev slices_Clone___api_And_api_And_wz_outs:List (Ev.Ex×Lay):=[(.ret,{ T:=[(0,.hd 0 Za0)],h:=[(0,.arr Za0 106)],nx:=1 })]
abbrev slices_Clone___api_And_api_And_wz_D:=Kb 66 1 slices_Clone___api_And_api_And_wz_lay 1 slices_Clone___api_And_api_And_wz_outs
def slices_Clone___api_And_api_And_wz_F (t0z:Bool) (t0:List (Sh.T Za0)):Option (Out slices_Clone___api_And_api_And_wz_outs):=
 br t0z
 (
  some ([],()))
 (
  chk (room 24 (List.length (ap [] t0)))<|
  some ((ap [] t0),()))
def slices_Clone___api_And_api_And_wz_G  :slices_Clone___api_And_api_And_wz_D:=⟨u2 slices_Clone___api_And_api_And_wz_F,pB Try.func66 8 k0 e0 1 (sS l0) fun d=>by kernel_rfl⟩
def slices_Clone___api_And_api_And_wz_K:slices_Clone___api_And_api_And_wz_D:=slices_Clone___api_And_api_And_wz_G  
abbrev slices_Clone___api_And_api_And_w_lay:Lay:={ T:=[(0,.fz Za0)],h:=[],nx:=0 }
abbrev slices_Clone___api_And_api_And_w_outs:List (Ev.Ex×Lay):=slices_Clone___api_And_api_And_wz_outs
abbrev slices_Clone___api_And_api_And_w_T:=TL slices_Clone___api_And_api_And_w_lay.σs→Option (Out slices_Clone___api_And_api_And_w_outs)
abbrev slices_Clone___api_And_api_And_w_D:=Kb 66 1 slices_Clone___api_And_api_And_w_lay 1 slices_Clone___api_And_api_And_w_outs
def slices_Clone___api_And_api_And_w_K:slices_Clone___api_And_api_And_w_D:=mkZ slices_Clone___api_And_api_And_wz_K rfl
def slices_Clone___api_And_api_And_w_FF:slices_Clone___api_And_api_And_w_T:=slices_Clone___api_And_api_And_w_K.F
abbrev net_Clonew_lay:Lay:={ T:=[(0,.agg lNet)],h:=[],nx:=0 }
abbrev net_Clonew_outs:List (Ev.Ex×Lay):=[(.ret,{ T:=[(0,.agg [.int .i64,.hd 0 (.int .i64),.hd 1 Za0,.hd 2 (.int .i64),.hd 3 (.int .i64),.hd 4 (.int .i64),.hd 5 Za1,.hd 6 Za0])],h:=[(0,.arr (.int .i64) 3),(1,.arr Za0 62),(2,.arr (.int .i64) 3),(3,.arr (.int .i64) 3),(4,.arr (.int .i64) 3),(5,.arr Za1 60),(6,.arr Za0 106)],nx:=7 })]
abbrev net_Clonew_T:=TL net_Clonew_lay.σs→Option (Out net_Clonew_outs)
abbrev net_Clonew_D:=Kb 32 1 net_Clonew_lay 1 net_Clonew_outs
abbrev yXc0:List (Nat×LO):=[(0,.cells [.int .i64,.hd 1 (.int .i64),.hd 2 Za0,.hd 3 (.int .i64),.hd 4 (.int .i64),.hd 5 (.int .i64),.hd 6 Za1,.hd 8 Za0] 68),(1,.arr (.int .i64) 3),(2,.arr Za0 62),(3,.arr (.int .i64) 3),(4,.arr (.int .i64) 3),(5,.arr (.int .i64) 3),(6,.arr Za1 60),(8,.arr Za0 106)]
abbrev yXc1:List (Nat×LO):=[(0,.cells [.int .i64,.hd 1 (.int .i64),.hd 2 Za0,.hd 3 (.int .i64),.hd 4 (.int .i64),.hd 5 (.int .i64),.hd 6 Za1,.hd 7 Za0] 68),(1,.arr (.int .i64) 3),(2,.arr Za0 62),(3,.arr (.int .i64) 3),(4,.arr (.int .i64) 3),(5,.arr (.int .i64) 3),(6,.arr Za1 60),(7,.arr Za0 106)]
abbrev yXc2:List (Nat×LO):=[(0,.cells [.int .i64,.hd 1 (.int .i64),.hd 2 Za0,.hd 3 (.int .i64),.hd 4 (.int .i64),.hd 5 (.int .i64),.hd 6 Za1,.hd 8 Za0] 68),(1,.arr (.int .i64) 3),(2,.arr Za0 62),(3,.arr (.int .i64) 3),(4,.arr (.int .i64) 3),(5,.arr (.int .i64) 3),(6,.arr Za1 60),(8,.arr Za0 106),(9,.cells [.int .i64,.int .i64,.bool,.fz Zb3,.fz Zb8] 60),(10,.arr (.int .i64) 3)]
abbrev yXc3:List (Nat×LO):=[(0,.cells [.int .i64,.hd 1 (.int .i64),.hd 2 Za0,.hd 3 (.int .i64),.hd 4 (.int .i64),.hd 5 (.int .i64),.hd 6 Za1,.hd 9 Za0] 27),(1,.arr (.int .i64) 3),(2,.arr Za0 62),(3,.arr (.int .i64) 3),(4,.arr (.int .i64) 3),(5,.arr (.int .i64) 3),(6,.opn Za1 [.int .i64,.int .i64,.bool,.hd 7 Zb3,.hd 8 Zb8] 60),(7,.arr Zb3 108),(8,.arr Zb8 115),(9,.arr Za0 106),(10,.cells [.int .i64,.nils,.nils,.nils,.nils,.nils,.nils,.nils] 27)]
abbrev yXc4:List (Nat×LO):=[(0,.cells [.int .i64,.hd 1 (.int .i64),.hd 2 Za0,.hd 3 (.int .i64),.hd 4 (.int .i64),.hd 5 (.int .i64),.hd 6 Za1,.hd 8 Za0] 68),(1,.arr (.int .i64) 3),(2,.arr Za0 62),(3,.arr (.int .i64) 3),(4,.arr (.int .i64) 3),(5,.arr (.int .i64) 3),(6,.arr Za1 60),(8,.arr Za0 106),(9,.arr (.int .i64) 3)]
abbrev yXc5:Lay:={ T:=[(0,.ptr 0 0),(3,.int .i64),(5,.ptr 9 0),(17,.fz (.sl (.int .i64))),(18,.int .i64),(19,.int .i64)],h:=[(0,.cells [.int .i64,.hd 1 (.int .i64),.hd 2 Za0,.hd 3 (.int .i64),.hd 4 (.int .i64),.hd 5 (.int .i64),.hd 6 Za1,.hd 8 Za0] 68),(1,.arr (.int .i64) 3),(2,.arr Za0 62),(3,.arr (.int .i64) 3),(4,.arr (.int .i64) 3),(5,.arr (.int .i64) 3),(6,.arr Za1 60),(8,.arr Za0 106),(9,.cells [.int .i64,.int .i64,.bool,.fz Zb3,.fz Zb8] 60)],nx:=10 }
abbrev yXc6:List LA:=[.int .i64,.hd 1 (.int .i64),.hd 8 Za0,.hd 3 (.int .i64),.hd 4 (.int .i64),.hd 5 (.int .i64),.hd 6 Za1,.hd 7 Za0]
abbrev yXc12:List LA:=[.int .i64,.hd 2 (.int .i64),.hd 3 Za0,.hd 4 (.int .i64),.hd 5 (.int .i64),.hd 6 (.int .i64),.hd 7 Za1,.hd 8 Za0]
abbrev yXc7:List (Nat×LO):=[(0,.cells [.int .i64,.nils,.nils,.nils,.nils,.nils,.nils,.nils] 27),(1,.cells yXc12 68),(2,.arr (.int .i64) 3),(3,.arr Za0 62),(4,.arr (.int .i64) 3),(5,.arr (.int .i64) 3),(6,.arr (.int .i64) 3),(7,.arr Za1 60),(8,.arr Za0 106),(9,.cells [.int .i64,.int .i64,.bool,.fz Zb3,.fz Zb8] 60),(10,.arr Za1 60)]
abbrev yXc8:List (Nat×LO):=[(0,.cells [.int .i64,.hd 1 (.int .i64),.hd 2 Za0,.hd 3 (.int .i64),.hd 4 (.int .i64),.hd 5 (.int .i64),.hd 6 Za1,.hd 7 Za0] 27),(1,.arr (.int .i64) 3),(2,.arr Za0 62),(3,.arr (.int .i64) 3),(4,.arr (.int .i64) 3),(5,.arr (.int .i64) 3),(6,.arr Za1 60),(7,.arr Za0 106),(8,.cells [.int .i64,.nils,.nils,.nils,.nils,.nils,.nils,.nils] 27)]
abbrev yXc9:List (Nat×LO):=[(0,.cells yXc6 68),(1,.arr (.int .i64) 3),(3,.arr (.int .i64) 3),(4,.arr (.int .i64) 3),(5,.arr (.int .i64) 3),(6,.arr Za1 60),(7,.arr Za0 106),(8,.arr Za0 62),(9,.cells [.int .i64,.int .i64,.bool,.fz Zb3,.fz Zb8] 60),(10,.arr (.sl (.int .i64)) 22),(11,.arr (.int .i64) 3)]
abbrev yXc10:Lay:={ T:=[(0,.ptr 0 0),(3,.int .i64),(5,.ptr 9 0),(8,.int .i64),(10,.hd 10 (.int .i64)),(17,.fz (.sl (.int .i64))),(18,.int .i64),(19,.int .i64),(27,.fz Zb8),(28,.int .i64),(29,.int .i64)],h:=yXc2,nx:=11 }
abbrev yXc11:Lay:={ T:=[(0,.int .i64)],h:=yXc0,nx:=9 }
abbrev yXc13:Lay:={ T:=[],h:=yXc0,nx:=9 }
abbrev yXc14:Lay:={ T:=[(0,.ptr 0 0),(1,.int .i64),(2,.int .i64),(3,.int .i64)],h:=yXc1,nx:=8 }
abbrev net_Clonew_lay8:Lay:={ T:=[(1,.ptr 0 0),(2,.ptr 8 0),(41,.int .i64),(42,.int .i64)],h:=yXc8,nx:=9 }
abbrev net_Clonew_outs8:List (Ev.Ex×Lay):=[((.exit 2),{ T:=[(1,.ptr 0 0),(2,.ptr 8 0)],h:=yXc8,nx:=9 })]
abbrev net_Clonew_T8:=TL net_Clonew_lay8.σs→Option (Out net_Clonew_outs8)
abbrev net_Clonew_D8:=Ld 0 123 (Zb5 [1] (Zaa Try.f32)) net_Clonew_lay8 net_Clonew_outs8
abbrev net_Clonew_lay18:Lay:={ T:=[(1,.ptr 0 0),(2,.ptr 10 0),(6,.eptr 6 5 0),(41,.int .i64),(42,.int .i64),(94,.int .i64),(95,.int .i64)],h:=yXc3,nx:=11 }
abbrev net_Clonew_outs18:List (Ev.Ex×Lay):=[((.exit 6),{ T:=[(1,.ptr 0 0),(2,.ptr 10 0),(41,.int .i64),(42,.int .i64)],h:=yXc3,nx:=11 })]
abbrev net_Clonew_T18:=TL net_Clonew_lay18.σs→Option (Out net_Clonew_outs18)
abbrev net_Clonew_D18:=Ld 0 123 (Zb5 [1,1] (Zaa Try.f32)) net_Clonew_lay18 net_Clonew_outs18
abbrev net_Clonew_lay13:Lay:={ T:=[(1,.ptr 0 0),(2,.ptr 10 0),(6,.eptr 6 5 0),(41,.int .i64),(42,.int .i64),(69,.int .i64),(70,.int .i64)],h:=yXc3,nx:=11 }
abbrev net_Clonew_outs13:List (Ev.Ex×Lay):=[((.exit 4),{ T:=[(1,.ptr 0 0),(2,.ptr 10 0),(6,.eptr 6 5 0),(41,.int .i64),(42,.int .i64)],h:=yXc3,nx:=11 })]
abbrev net_Clonew_T13:=TL net_Clonew_lay13.σs→Option (Out net_Clonew_outs13)
abbrev net_Clonew_D13:=Ld 0 123 (Zb5 [1,0] (Zaa Try.f32)) net_Clonew_lay13 net_Clonew_outs13
def net_Clonew_B13 (F5:slices_Clone___int_int_w_T) (t6 t41 t42 t69 t70 b0_0:Int) (b1:List Int) (b2:List (Sh.T Za0)) (b3 b4 b5:List Int) (b6i:Int) (b6:List (Sh.T Za1)) (b6_0 b6_1:Int) (b6_2:Bool) (b7:List (Sh.T Zb3)) (b8:List (Sh.T Zb8)) (b9:List (Sh.T Za0)) (b10_0:Int):Option (TL net_Clonew_lay13.σs⊕Out net_Clonew_outs13):=
 br (iL t70 t69)
 (
  chk (Nat.beq (Int.toNat t6) (Int.toNat b6i))<|
  chk (Nat.beq (Int.toNat t6) (Int.toNat b6i))<|
  chk (inb t70 (List.length b7))<|
  bnd (F5 ((gt Zb3 b7 t70).2.1,())) fun x0=>
  chk (inb t70 (List.length b7))<|
  chk (nQ (Int.toNat t6) (Int.toNat t6))<|
  chk (nQ (Int.toNat t6) (Int.toNat t6))<|
  chk (nQ (Int.toNat t6) (Int.toNat t6))<|
  chk (Nat.beq (Int.toNat t6) (Int.toNat b6i))<|
  chk (iQ t70 t70)<|
  some (.inl ((Int.ofNat (Int.toNat t6)),(t41,(t42,(t69,((IntKind.wrap .i64 (t70+(1:Int))),(b0_0,(b1,(b2,(b3,(b4,(b5,((Int.ofNat (Int.toNat b6i)),(b6,(b6_0,(b6_1,(b6_2,((List.set b7 (Int.toNat t70) ((gt Zb3 b7 t70).1,(x0.1,()))),(b8,(b9,(b10_0,()))))))))))))))))))))))
 (
  some (.inr ((Int.ofNat (Int.toNat t6)),(t41,(t42,(b0_0,(b1,(b2,(b3,(b4,(b5,((Int.ofNat (Int.toNat b6i)),(b6,(b6_0,(b6_1,(b6_2,(b7,(b8,(b9,(b10_0,()))))))))))))))))))))
def net_Clonew_M13 (c5:slices_Clone___int_int_w_D) :net_Clonew_D13:=mkL (u20 (net_Clonew_B13 c5.F)) (pL (kB c5 k0) e0 1 l0 fun d=>by kernel_rfl)
def net_Clonew_N13:net_Clonew_D13:=net_Clonew_M13 slices_Clone___int_int_w_K 
def net_Clonew_L13:net_Clonew_T13:=lpD (u20 (net_Clonew_B13 slices_Clone___int_int_w_FF)) NN
def net_Clonew_B18 (F5:slices_Clone___int_int_w_T) (t6 t41 t42 t94 t95 b0_0:Int) (b1:List Int) (b2:List (Sh.T Za0)) (b3 b4 b5:List Int) (b6i:Int) (b6:List (Sh.T Za1)) (b6_0 b6_1:Int) (b6_2:Bool) (b7:List (Sh.T Zb3)) (b8:List (Sh.T Zb8)) (b9:List (Sh.T Za0)) (b10_0:Int):Option (TL net_Clonew_lay18.σs⊕Out net_Clonew_outs18):=
 br (iL t95 t94)
 (
  chk (Nat.beq (Int.toNat t6) (Int.toNat b6i))<|
  chk (inb t95 (List.length b8))<|
  bnd (F5 ((gt Zb8 b8 t95).2.1,())) fun x0=>
  chk (nQ (Int.toNat t95) (Int.toNat t95))<|
  chk (nQ (Int.toNat t95) (Int.toNat t95))<|
  chk (nQ (Int.toNat t95) (Int.toNat t95))<|
  chk (nQ (Int.toNat t95) (Int.toNat t95))<|
  chk (nQ (Int.toNat t95) (Int.toNat t95))<|
  chk (Zqo (Sh.beq (.int .i64)) (gt Zb8 b8 t95).2.2.1 (gt Zb8 b8 t95).2.2.1)<|
  bnd (F5 ((gt Zb8 b8 t95).2.2.1,())) fun x1=>
  chk (nQ (Int.toNat t95) (Int.toNat t95))<|
  chk (nQ (Int.toNat t95) (Int.toNat t95))<|
  chk (nQ (Int.toNat t95) (Int.toNat t95))<|
  some (.inl ((Int.ofNat (Int.toNat t6)),(t41,(t42,(t94,((IntKind.wrap .i64 (t95+(1:Int))),(b0_0,(b1,(b2,(b3,(b4,(b5,((Int.ofNat (Int.toNat b6i)),(b6,(b6_0,(b6_1,(b6_2,(b7,((List.set (List.set b8 (Int.toNat t95) ((gt Zb8 b8 t95).1,(x0.1,((gt Zb8 b8 t95).2.2.1,())))) (Int.toNat t95) ((gt Zb8 (List.set b8 (Int.toNat t95) ((gt Zb8 b8 t95).1,(x0.1,((gt Zb8 b8 t95).2.2.1,())))) t95).1,((gt Zb8 (List.set b8 (Int.toNat t95) ((gt Zb8 b8 t95).1,(x0.1,((gt Zb8 b8 t95).2.2.1,())))) t95).2.1,(x1.1,())))),(b9,(b10_0,()))))))))))))))))))))))
 (
  some (.inr (t41,(t42,(b0_0,(b1,(b2,(b3,(b4,(b5,((Int.ofNat (Int.toNat b6i)),(b6,(b6_0,(b6_1,(b6_2,(b7,(b8,(b9,(b10_0,())))))))))))))))))))
def net_Clonew_M18 (c5:slices_Clone___int_int_w_D) :net_Clonew_D18:=mkL (u20 (net_Clonew_B18 c5.F)) (pL (kB c5 k0) e0 1 l0 fun d=>by kernel_rfl)
def net_Clonew_N18:net_Clonew_D18:=net_Clonew_M18 slices_Clone___int_int_w_K 
def net_Clonew_L18:net_Clonew_T18:=lpD (u20 (net_Clonew_B18 slices_Clone___int_int_w_FF)) NN
def net_Clonew_B8 (F0:Zadi) (F1:Zae6) (L13:net_Clonew_T13) (L18:net_Clonew_T18) (t41 t42 b0_0:Int) (b1:List Int) (b2:List (Sh.T Za0)) (b3 b4 b5:List Int) (b6:List (Sh.T Za1)) (b7:List (Sh.T Za0)) (b8_0:Int):Option (TL net_Clonew_lay8.σs⊕Out net_Clonew_outs8):=
 br (iL t42 t41)
 (
  chk (inb t42 (List.length b6))<|
  bnd (F1 ((gt Za1 b6 t42).2.2.2.1,())) fun x0=>
  chk (nQ (Int.toNat t42) (Int.toNat t42))<|
  chk (nQ (Int.toNat t42) (Int.toNat t42))<|
  chk (nQ (Int.toNat t42) (Int.toNat t42))<|
  chk (nQ (Int.toNat t42) (Int.toNat t42))<|
  chk (nQ (Int.toNat t42) (Int.toNat t42))<|
  chk (Zqo (Sh.beq Zb8) (gt Za1 b6 t42).2.2.2.2.1 (gt Za1 b6 t42).2.2.2.2.1)<|
  bnd (F0 ((gt Za1 b6 t42).2.2.2.2.1,())) fun x1=>
  chk (nQ (Int.toNat t42) (Int.toNat t42))<|
  chk (nQ (Int.toNat t42) (Int.toNat t42))<|
  chk (nQ (Int.toNat t42) (Int.toNat t42))<|
  chk (Nat.beq (Int.toNat t42) (Int.toNat t42))<|
  chk (Nat.beq (Int.toNat t42) (Int.toNat t42))<|
  bnd (L13 ((Int.ofNat (Int.toNat t42)),(t41,(t42,((Int.ofNat (List.length x0.1)),((0:Int),(b0_0,(b1,(b2,(b3,(b4,(b5,((Int.ofNat (Int.toNat t42)),(b6,((gt Za1 b6 t42).1,((gt Za1 b6 t42).2.1,((gt Za1 b6 t42).2.2.1,(x0.1,(x1.1,(b7,(b8_0,()))))))))))))))))))))) fun x2=>
  chk (Nat.beq (Int.toNat x2.1) (Int.toNat x2.2.2.2.2.2.2.2.2.2.1))<|
  bnd (L18 ((Int.ofNat (Int.toNat x2.1)),(x2.2.1,(x2.2.2.1,((Int.ofNat (List.length x2.2.2.2.2.2.2.2.2.2.2.2.2.2.2.2.1)),((0:Int),(x2.2.2.2.1,(x2.2.2.2.2.1,(x2.2.2.2.2.2.1,(x2.2.2.2.2.2.2.1,(x2.2.2.2.2.2.2.2.1,(x2.2.2.2.2.2.2.2.2.1,((Int.ofNat (Int.toNat x2.2.2.2.2.2.2.2.2.2.1)),(x2.2.2.2.2.2.2.2.2.2.2.1,(x2.2.2.2.2.2.2.2.2.2.2.2.1,(x2.2.2.2.2.2.2.2.2.2.2.2.2.1,(x2.2.2.2.2.2.2.2.2.2.2.2.2.2.1,(x2.2.2.2.2.2.2.2.2.2.2.2.2.2.2.1,(x2.2.2.2.2.2.2.2.2.2.2.2.2.2.2.2.1,(x2.2.2.2.2.2.2.2.2.2.2.2.2.2.2.2.2.1,(x2.2.2.2.2.2.2.2.2.2.2.2.2.2.2.2.2.2.1,()))))))))))))))))))))) fun x3=>
  some (.inl (x3.1,((IntKind.wrap .i64 (@HAdd.hAdd (Int) (Int) (Int) _ x3.2.1 (1:Int))),(x3.2.2.1,(x3.2.2.2.1,(x3.2.2.2.2.1,(x3.2.2.2.2.2.1,(x3.2.2.2.2.2.2.1,(x3.2.2.2.2.2.2.2.1,((List.set x3.2.2.2.2.2.2.2.2.2.1 (Int.toNat x3.2.2.2.2.2.2.2.2.1) (x3.2.2.2.2.2.2.2.2.2.2.1,(x3.2.2.2.2.2.2.2.2.2.2.2.1,(x3.2.2.2.2.2.2.2.2.2.2.2.2.1,(x3.2.2.2.2.2.2.2.2.2.2.2.2.2.1,(x3.2.2.2.2.2.2.2.2.2.2.2.2.2.2.1,())))))),(x3.2.2.2.2.2.2.2.2.2.2.2.2.2.2.2.1,(x3.2.2.2.2.2.2.2.2.2.2.2.2.2.2.2.2.1,())))))))))))))
 (
  some (.inr (b0_0,(b1,(b2,(b3,(b4,(b5,(b6,(b7,(b8_0,())))))))))))
def net_Clonew_M8 (c0:Zadk) (c1:Zae8) (M13:net_Clonew_D13) (M18:net_Clonew_D18):net_Clonew_D8:=mkL (u11 (net_Clonew_B8 c0.F c1.F M13.L M18.L)) (pL (kB c0 (kB c1 k0)) e0 1 (sC M13 (sC M18 l0)) fun d=>by kernel_rfl)
def net_Clonew_N8:net_Clonew_D8:=net_Clonew_M8 Zadj Zae7 net_Clonew_N13 net_Clonew_N18
def net_Clonew_L8:net_Clonew_T8:=lpD (u11 (net_Clonew_B8 Zadb Zadz net_Clonew_L13 net_Clonew_L18)) NN
def net_Clonew_F (F0:Zadi) (F1:Zae6) (F2:Zahq) (F3:slices_Clone___api_And_api_And_w_T) (F4:slices_Clone___api_Latch_api_Latch_w_T) (F5:slices_Clone___int_int_w_T) (L8:net_Clonew_T8) (L13:net_Clonew_T13) (L18:net_Clonew_T18) (t0_0:Int) (t0_1:List Int) (t0_2:List (Sh.T Za0)) (t0_3 t0_4 t0_5:List Int) (t0_6:List (Sh.T Za1)) (t0_7:List (Sh.T Za0)):Option (Out net_Clonew_outs):=
 bnd (F5 (t0_1,())) fun x0=>
 bnd (F5 (t0_3,())) fun x1=>
 bnd (F5 (t0_4,())) fun x2=>
 bnd (F5 (t0_5,())) fun x3=>
 bnd (F4 (t0_2,())) fun x4=>
 chk (Zqo (Sh.beq Za0) t0_7 t0_7)<|
 chk (Zqo (Sh.beq Za1) t0_6 t0_6)<|
 bnd (F3 (t0_7,())) fun x5=>
 chk (Zqo (Sh.beq Za1) t0_6 t0_6)<|
 bnd (F2 (t0_6,())) fun x6=>
 bnd (L8 ((Int.ofNat (List.length x6.1)),((0:Int),(t0_0,(x0.1,(x4.1,(x1.1,(x2.1,(x3.1,(x6.1,(x5.1,((0:Int),())))))))))))) fun x7=>
 some (x7.1,(x7.2.1,(x7.2.2.1,(x7.2.2.2.1,(x7.2.2.2.2.1,(x7.2.2.2.2.2.1,(x7.2.2.2.2.2.2.1,(x7.2.2.2.2.2.2.2.1,()))))))))
def net_Clonew_G (c0:Zadk) (c1:Zae8) (c2:Zahs) (c3:slices_Clone___api_And_api_And_w_D) (c4:slices_Clone___api_Latch_api_Latch_w_D) (c5:slices_Clone___int_int_w_D) (M8:net_Clonew_D8) (M13:net_Clonew_D13) (M18:net_Clonew_D18):net_Clonew_D:=⟨u8 (net_Clonew_F c0.F c1.F c2.F c3.F c4.F c5.F M8.L M13.L M18.L),pB Try.func32 123 (kB c0 (kB c1 (kB c2 (kB c3 (kB c4 (kB c5 k0)))))) e0 1 (lS (lU (Zb5 [0] (Zaa Try.f32)) 5 (kB c0 (kB c1 (kB c2 (kB c3 (kB c4 (kB c5 k0)))))) e0 1 l0 (by kernel_rfl) (sC M8 l0) (by kernel_rfl)) (by kernel_rfl)) fun d=>by kernel_rfl⟩
def net_Clonew_K:net_Clonew_D:=net_Clonew_G Zadj Zae7 Zahr slices_Clone___api_And_api_And_w_K slices_Clone___api_Latch_api_Latch_w_K slices_Clone___int_int_w_K net_Clonew_N8 net_Clonew_N13 net_Clonew_N18
def net_Clonew_FF:net_Clonew_T:=net_Clonew_K.F
abbrev lits_Xor_σs:List Sh:=[(.int .i64),.bool]
abbrev lits_Xor_τs:List Sh:=[(.int .i64)]
abbrev lits_Xor_T:=TL lits_Xor_σs→Option (TL lits_Xor_τs)
abbrev lits_Xor_D:=Kd 97 lits_Xor_σs lits_Xor_τs
def lits_Xor_F (a0:Int) (a1:Bool):Option (TL lits_Xor_τs):=
 br a1
 (
  some ((bxorI .i64 a0 (1:Int)),()))
 (
  some (a0,()))
def lits_Xor_G  :lits_Xor_D:=⟨u2 lits_Xor_F,pD Try.func97 9 k0 e0 1 (sS l0) fun d=>by kernel_rfl⟩
def lits_Xor_K:lits_Xor_D:=lits_Xor_G  
def lits_Xor_FF:lits_Xor_T:=lits_Xor_K.F
abbrev lits_Make_σs:List Sh:=[(.int .i64),.bool]
abbrev lits_Make_τs:List Sh:=[(.int .i64)]
abbrev lits_Make_T:=TL lits_Make_σs→Option (TL lits_Make_τs)
abbrev lits_Make_D:=Kd 96 lits_Make_σs lits_Make_τs
def lits_Make_F (F0:lits_Xor_T) (a0:Int) (a1:Bool):Option (TL lits_Make_τs):=
 bnd (F0 ((IntKind.wrap .i64 (@HMul.hMul (Int) (Int) (Int) _ a0 (HPow.hPow (2:Int) (Min.min (Int.toNat (1:Int)) 64)))),(a1,()))) fun x0=>
 some (x0.1,())
def lits_Make_G (c0:lits_Xor_D) :lits_Make_D:=⟨u2 (lits_Make_F c0.F),pD Try.func96 9 (kD c0 k0) e0 1 (sS l0) fun d=>by kernel_rfl⟩
def lits_Make_K:lits_Make_D:=lits_Make_G lits_Xor_K 
def lits_Make_FF:lits_Make_T:=lits_Make_K.F
abbrev lits_Not_σs:List Sh:=[(.int .i64)]
abbrev lits_Not_τs:List Sh:=[(.int .i64)]
abbrev lits_Not_T:=TL lits_Not_σs→Option (TL lits_Not_τs)
abbrev lits_Not_D:=Kd 98 lits_Not_σs lits_Not_τs
def lits_Not_F (a0:Int):Option (TL lits_Not_τs):=
 some ((bxorI .i64 a0 (1:Int)),())
def lits_Not_G  :lits_Not_D:=⟨u1 lits_Not_F,pD Try.func98 5 k0 e0 1 (sS l0) fun d=>by kernel_rfl⟩
def lits_Not_K:lits_Not_D:=lits_Not_G  
def lits_Not_FF:lits_Not_T:=lits_Not_K.F
abbrev nexpand_maker__fresh_lay:Lay:={ T:=[(0,.ptr 0 0)],h:=yXc1,nx:=8 }
abbrev nexpand_maker__fresh_outs:List (Ev.Ex×Lay):=[(.ret,{ T:=[(0,.int .i64)],h:=yXc1,nx:=8 })]
abbrev nexpand_maker__fresh_T:=TL nexpand_maker__fresh_lay.σs→Option (Out nexpand_maker__fresh_outs)
abbrev nexpand_maker__fresh_D:=Kb 70 1 nexpand_maker__fresh_lay 1 nexpand_maker__fresh_outs
def nexpand_maker__fresh_F (F0:lits_Make_T) (b0_0:Int) (b1:List Int) (b2:List (Sh.T Za0)) (b3 b4 b5:List Int) (b6:List (Sh.T Za1)) (b7:List (Sh.T Za0)):Option (Out nexpand_maker__fresh_outs):=
 bnd (F0 ((IntKind.wrap .i64 (b0_0+(1:Int))),(false,()))) fun x0=>
 some (x0.1,((IntKind.wrap .i64 (b0_0+(1:Int))),(b1,(b2,(b3,(b4,(b5,(b6,(b7,())))))))))
def nexpand_maker__fresh_G (c0:lits_Make_D) :nexpand_maker__fresh_D:=⟨u8 (nexpand_maker__fresh_F c0.F),pB Try.func70 18 (kD c0 k0) e0 1 (sS l0) fun d=>by kernel_rfl⟩
def nexpand_maker__fresh_K:nexpand_maker__fresh_D:=nexpand_maker__fresh_G lits_Make_K 
def nexpand_maker__fresh_FF:nexpand_maker__fresh_T:=nexpand_maker__fresh_K.F
abbrev nexpand_maker__as_lay:Lay:=yXc14
abbrev nexpand_maker__as_outs:List (Ev.Ex×Lay):=[(.ret,yXc13)]
abbrev nexpand_maker__as_T:=TL nexpand_maker__as_lay.σs→Option (Out nexpand_maker__as_outs)
abbrev nexpand_maker__as_D:=Kb 76 4 nexpand_maker__as_lay 0 nexpand_maker__as_outs
def nexpand_maker__as_F (t1 t2 t3 b0_0:Int) (b1:List Int) (b2:List (Sh.T Za0)) (b3 b4 b5:List Int) (b6:List (Sh.T Za1)) (b7:List (Sh.T Za0)):Option (Out nexpand_maker__as_outs):=
 chk (room 24 (List.length (ap b7 ((t1,(t2,(t3,()))) :: []))))<|
 some (b0_0,(b1,(b2,(b3,(b4,(b5,(b6,((ap b7 ((t1,(t2,(t3,()))) :: [])),()))))))))
def nexpand_maker__as_G  :nexpand_maker__as_D:=⟨u11 nexpand_maker__as_F,pB Try.func76 23 k0 e0 1 (sS l0) fun d=>by kernel_rfl⟩
def nexpand_maker__as_K:nexpand_maker__as_D:=nexpand_maker__as_G  
def nexpand_maker__as_FF:nexpand_maker__as_T:=nexpand_maker__as_K.F
abbrev nexpand_maker__and_lay:Lay:={ T:=[(0,.ptr 0 0),(1,.int .i64),(2,.int .i64)],h:=yXc1,nx:=8 }
abbrev nexpand_maker__and_outs:List (Ev.Ex×Lay):=[(.ret,yXc11)]
abbrev nexpand_maker__and_T:=TL nexpand_maker__and_lay.σs→Option (Out nexpand_maker__and_outs)
abbrev nexpand_maker__and_D:=Kb 75 3 nexpand_maker__and_lay 1 nexpand_maker__and_outs
def nexpand_maker__and_F (F0:Zb3g) (F1:lits_Not_T) (F2:nexpand_maker__as_T) (F3:nexpand_maker__fresh_T) (t1 t2 b0_0:Int) (b1:List Int) (b2:List (Sh.T Za0)) (b3 b4 b5:List Int) (b6:List (Sh.T Za1)) (b7:List (Sh.T Za0)):Option (Out nexpand_maker__and_outs):=
 br (iQ t1 (0:Int))
 (
  some ((0:Int),(b0_0,(b1,(b2,(b3,(b4,(b5,(b6,(b7,()))))))))))
 (
  br (selB false true (iQ t2 (0:Int)))
  (
   some ((0:Int),(b0_0,(b1,(b2,(b3,(b4,(b5,(b6,(b7,()))))))))))
  (
   bnd (F1 (t2,())) fun x0=>
   br (selB false true (iQ t1 x0.1))
   (
    some ((0:Int),(b0_0,(b1,(b2,(b3,(b4,(b5,(b6,(b7,()))))))))))
   (
    br (iQ t1 (1:Int))
    (
     some (t2,(b0_0,(b1,(b2,(b3,(b4,(b5,(b6,(b7,()))))))))))
    (
     br (selB false true (iQ t1 t2))
     (
      some (t2,(b0_0,(b1,(b2,(b3,(b4,(b5,(b6,(b7,()))))))))))
     (
      br (iQ t2 (1:Int))
      (
       some (t1,(b0_0,(b1,(b2,(b3,(b4,(b5,(b6,(b7,()))))))))))
      (
       bnd (F3 (b0_0,(b1,(b2,(b3,(b4,(b5,(b6,(b7,()))))))))) fun x1=>
       bnd (F0 (x1.1,())) fun x2=>
       bnd (F2 (x2.1,(t1,(t2,x1.2)))) fun x3=>
       some (x1.1,x3)))))))
def nexpand_maker__and_G (c0:Zazd) (c1:lits_Not_D) (c2:nexpand_maker__as_D) (c3:nexpand_maker__fresh_D) :nexpand_maker__and_D:=⟨u10 (nexpand_maker__and_F c0.F c1.F c2.F c3.F),pB Try.func75 43 (kD c0 (kD c1 (kB c2 (kB c3 k0)))) e0 1 (sS l0) fun d=>by kernel_rfl⟩
def nexpand_maker__and_K:nexpand_maker__and_D:=nexpand_maker__and_G Zb3h lits_Not_K nexpand_maker__as_K nexpand_maker__fresh_K 
def nexpand_maker__and_FF:nexpand_maker__and_T:=nexpand_maker__and_K.F
abbrev nexpand_maker__or_lay:Lay:={ T:=[(0,.ptr 0 0),(1,.int .i64),(2,.int .i64)],h:=yXc1,nx:=8 }
abbrev nexpand_maker__or_outs:List (Ev.Ex×Lay):=[(.ret,yXc11)]
abbrev nexpand_maker__or_T:=TL nexpand_maker__or_lay.σs→Option (Out nexpand_maker__or_outs)
abbrev nexpand_maker__or_D:=Kb 74 3 nexpand_maker__or_lay 1 nexpand_maker__or_outs
def nexpand_maker__or_F (F0:lits_Not_T) (F1:nexpand_maker__and_T) (t1 t2 b0_0:Int) (b1:List Int) (b2:List (Sh.T Za0)) (b3 b4 b5:List Int) (b6:List (Sh.T Za1)) (b7:List (Sh.T Za0)):Option (Out nexpand_maker__or_outs):=
 bnd (F0 (t1,())) fun x0=>
 bnd (F0 (t2,())) fun x1=>
 bnd (F1 (x0.1,(x1.1,(b0_0,(b1,(b2,(b3,(b4,(b5,(b6,(b7,()))))))))))) fun x2=>
 bnd (F0 (x2.1,())) fun x3=>
 some (x3.1,x2.2)
def nexpand_maker__or_G (c0:lits_Not_D) (c1:nexpand_maker__and_D) :nexpand_maker__or_D:=⟨u10 (nexpand_maker__or_F c0.F c1.F),pB Try.func74 14 (kD c0 (kB c1 k0)) e0 1 (sS l0) fun d=>by kernel_rfl⟩
def nexpand_maker__or_K:nexpand_maker__or_D:=nexpand_maker__or_G lits_Not_K nexpand_maker__and_K 
def nexpand_maker__or_FF:nexpand_maker__or_T:=nexpand_maker__or_K.F
abbrev nexpand_maker__choose_lay:Lay:=yXc14
abbrev nexpand_maker__choose_outs:List (Ev.Ex×Lay):=[(.ret,yXc11)]
abbrev nexpand_maker__choose_T:=TL nexpand_maker__choose_lay.σs→Option (Out nexpand_maker__choose_outs)
abbrev nexpand_maker__choose_D:=Kb 77 4 nexpand_maker__choose_lay 1 nexpand_maker__choose_outs
def nexpand_maker__choose_F (F0:lits_Not_T) (F1:nexpand_maker__or_T) (F2:nexpand_maker__and_T) (t1 t2 t3 b0_0:Int) (b1:List Int) (b2:List (Sh.T Za0)) (b3 b4 b5:List Int) (b6:List (Sh.T Za1)) (b7:List (Sh.T Za0)):Option (Out nexpand_maker__choose_outs):=
 bnd (F2 (t1,(t2,(b0_0,(b1,(b2,(b3,(b4,(b5,(b6,(b7,()))))))))))) fun x0=>
 bnd (F0 (t1,())) fun x1=>
 bnd (F2 (x1.1,(t3,x0.2))) fun x2=>
 bnd (F1 (x0.1,x2)) fun x3=>
 some x3
def nexpand_maker__choose_G (c0:lits_Not_D) (c1:nexpand_maker__or_D) (c2:nexpand_maker__and_D) :nexpand_maker__choose_D:=⟨u11 (nexpand_maker__choose_F c0.F c1.F c2.F),pB Try.func77 20 (kD c0 (kB c1 (kB c2 k0))) e0 1 (sS l0) fun d=>by kernel_rfl⟩
def nexpand_maker__choose_K:nexpand_maker__choose_D:=nexpand_maker__choose_G lits_Not_K nexpand_maker__or_K nexpand_maker__and_K 
def nexpand_maker__choose_FF:nexpand_maker__choose_T:=nexpand_maker__choose_K.F
abbrev nexpand_maker__is_lay:Lay:={ T:=[(0,.ptr 0 0),(1,.fz (.int .i64)),(2,.int .u64)],h:=yXc1,nx:=8 }
abbrev nexpand_maker__is_outs:List (Ev.Ex×Lay):=[(.ret,yXc11)]
abbrev nexpand_maker__is_T:=TL nexpand_maker__is_lay.σs→Option (Out nexpand_maker__is_outs)
abbrev nexpand_maker__is_D:=Kb 72 3 nexpand_maker__is_lay 1 nexpand_maker__is_outs
abbrev nexpand_maker__is_lay3:Lay:={ T:=[(0,.ptr 0 0),(2,.int .u64),(7,.int .i64),(10,.fz (.int .i64)),(11,.int .i64),(12,.int .i64)],h:=yXc0,nx:=9 }
abbrev nexpand_maker__is_outs3:List (Ev.Ex×Lay):=[((.exit 0),{ T:=[(7,.int .i64)],h:=yXc0,nx:=9 })]
abbrev nexpand_maker__is_T3:=TL nexpand_maker__is_lay3.σs→Option (Out nexpand_maker__is_outs3)
abbrev nexpand_maker__is_D3:=Ld 8 29 (Zb5 [0] (Zaa Try.f72)) nexpand_maker__is_lay3 nexpand_maker__is_outs3
def nexpand_maker__is_B3 (F0:lits_Xor_T) (F1:nexpand_maker__and_T) (t2 t7:Int) (t10:List Int) (t11 t12 b0_0:Int) (b1:List Int) (b2:List (Sh.T Za0)) (b3 b4 b5:List Int) (b6:List (Sh.T Za1)) (b8:List (Sh.T Za0)):Option (TL nexpand_maker__is_lay3.σs⊕Out nexpand_maker__is_outs3):=
 br (iL t12 t11)
 (
  chk (inb t12 (List.length t10))<|
  chk (iE (0:Int) t12)<|
  bnd (F0 ((gt (.int .i64) t10 t12),((iQ (bandI .u64 (Int.fdiv t2 (HPow.hPow (2:Int) (Min.min (Int.toNat t12) 64))) (1:Int)) (0:Int)),()))) fun x0=>
  bnd (F1 (t7,(x0.1,(b0_0,(b1,(b2,(b3,(b4,(b5,(b6,(b8,()))))))))))) fun x1=>
  some (.inl (t2,(x1.1,(t10,(t11,((IntKind.wrap .i64 (t12+(1:Int))),x1.2)))))))
 (
  some (.inr (t7,(b0_0,(b1,(b2,(b3,(b4,(b5,(b6,(b8,())))))))))))
def nexpand_maker__is_M3 (c0:lits_Xor_D) (c1:nexpand_maker__and_D) :nexpand_maker__is_D3:=mkL (u13 (nexpand_maker__is_B3 c0.F c1.F)) (pL (kD c0 (kB c1 k0)) e0 1 l0 fun d=>by kernel_rfl)
def nexpand_maker__is_N3:nexpand_maker__is_D3:=nexpand_maker__is_M3 lits_Xor_K nexpand_maker__and_K 
def nexpand_maker__is_L3:nexpand_maker__is_T3:=lpD (u13 (nexpand_maker__is_B3 lits_Xor_FF nexpand_maker__and_FF)) NN
def nexpand_maker__is_F (F0:lits_Xor_T) (F1:nexpand_maker__and_T) (L3:nexpand_maker__is_T3) (t1:List Int) (t2 b0_0:Int) (b1:List Int) (b2:List (Sh.T Za0)) (b3 b4 b5:List Int) (b6:List (Sh.T Za1)) (b7:List (Sh.T Za0)):Option (Out nexpand_maker__is_outs):=
 bnd (L3 (t2,((1:Int),(t1,((Int.ofNat (List.length t1)),((0:Int),(b0_0,(b1,(b2,(b3,(b4,(b5,(b6,(b7,())))))))))))))) fun x0=>
 some x0
def nexpand_maker__is_G (c0:lits_Xor_D) (c1:nexpand_maker__and_D) (M3:nexpand_maker__is_D3):nexpand_maker__is_D:=⟨u10 (nexpand_maker__is_F c0.F c1.F M3.L),pB Try.func72 29 (kD c0 (kB c1 k0)) e0 1 (sS (sC M3 l0)) fun d=>by kernel_rfl⟩
def nexpand_maker__is_K:nexpand_maker__is_D:=nexpand_maker__is_G lits_Xor_K nexpand_maker__and_K nexpand_maker__is_N3
def nexpand_maker__is_FF:nexpand_maker__is_T:=nexpand_maker__is_K.F
abbrev nexpand_expander__cells_lay:Lay:={ T:=[(0,.ptr 0 0),(1,.agg [.int .i64,.int .i64,.bool,.fz Zb3,.fz Zb8])],h:=yXc1,nx:=8 }
abbrev nexpand_expander__cells_outs:List (Ev.Ex×Lay):=[(.ret,{ T:=[(0,.fz (.sl (.int .i64)))],h:=[(0,.cells yXc6 68),(1,.arr (.int .i64) 3),(3,.arr (.int .i64) 3),(4,.arr (.int .i64) 3),(5,.arr (.int .i64) 3),(6,.arr Za1 60),(7,.arr Za0 106),(8,.arr Za0 62)],nx:=9 })]
abbrev nexpand_expander__cells_T:=TL nexpand_expander__cells_lay.σs→Option (Out nexpand_expander__cells_outs)
abbrev nexpand_expander__cells_D:=Kb 33 2 nexpand_expander__cells_lay 1 nexpand_expander__cells_outs
abbrev nexpand_expander__cells_lay5:Lay:={ T:=[(0,.ptr 0 0),(3,.ptr 9 0),(4,.hd 10 (.sl (.int .i64))),(5,.int .i64),(12,.int .i64),(13,.int .i64)],h:=[(0,.cells yXc6 68),(1,.arr (.int .i64) 3),(3,.arr (.int .i64) 3),(4,.arr (.int .i64) 3),(5,.arr (.int .i64) 3),(6,.arr Za1 60),(7,.arr Za0 106),(8,.arr Za0 62),(9,.cells [.int .i64,.int .i64,.bool,.fz Zb3,.fz Zb8] 60),(10,.arr (.sl (.int .i64)) 22)],nx:=11 }
abbrev nexpand_expander__cells_outs5:List (Ev.Ex×Lay):=[((.exit 0),{ T:=[(4,.hd 9 (.sl (.int .i64)))],h:=[(0,.cells yXc6 68),(1,.arr (.int .i64) 3),(3,.arr (.int .i64) 3),(4,.arr (.int .i64) 3),(5,.arr (.int .i64) 3),(6,.arr Za1 60),(7,.arr Za0 106),(8,.arr Za0 62),(9,.arr (.sl (.int .i64)) 22)],nx:=10 })]
abbrev nexpand_expander__cells_T5:=TL nexpand_expander__cells_lay5.σs→Option (Out nexpand_expander__cells_outs5)
abbrev nexpand_expander__cells_D5:=Ld 8 51 (Zb5 [0] (Zaa Try.f33)) nexpand_expander__cells_lay5 nexpand_expander__cells_outs5
abbrev nexpand_expander__cells_lay8:Lay:={ T:=[(0,.ptr 0 0),(3,.ptr 9 0),(4,.hd 10 (.sl (.int .i64))),(5,.int .i64),(6,.hd 11 (.int .i64)),(12,.int .i64),(13,.int .i64),(16,.int .i64),(17,.int .i64)],h:=yXc9,nx:=12 }
abbrev nexpand_expander__cells_outs8:List (Ev.Ex×Lay):=[((.exit 2),{ T:=[(0,.ptr 0 0),(3,.ptr 9 0),(4,.hd 10 (.sl (.int .i64))),(5,.int .i64),(6,.hd 11 (.int .i64)),(12,.int .i64),(13,.int .i64)],h:=yXc9,nx:=12 })]
abbrev nexpand_expander__cells_T8:=TL nexpand_expander__cells_lay8.σs→Option (Out nexpand_expander__cells_outs8)
abbrev nexpand_expander__cells_D8:=Ld 8 51 (Zb5 [0,0] (Zaa Try.f33)) nexpand_expander__cells_lay8 nexpand_expander__cells_outs8
def nexpand_expander__cells_B8 (F0:Zb3g) (F1:nexpand_maker__fresh_T) (t5 t12 t13 t16 t17 b0_0:Int) (b1 b3 b4 b5:List Int) (b6:List (Sh.T Za1)) (b7 b8:List (Sh.T Za0)) (b9_0 b9_1:Int) (b9_2:Bool) (b9_3:List (Sh.T Zb3)) (b9_4:List (Sh.T Zb8)) (b10:List (List Int)) (b11:List Int):Option (TL nexpand_expander__cells_lay8.σs⊕Out nexpand_expander__cells_outs8):=
 br (iL t17 t16)
 (
  bnd (F1 (b0_0,(b1,(b8,(b3,(b4,(b5,(b6,(b7,()))))))))) fun x0=>
  bnd (F0 (x0.1,())) fun x1=>
  chk (room 24 (List.length (ap x0.2.2.2.1 ((x1.1,((0:Int),(t5,()))) :: []))))<|
  chk (room 8 (List.length (ap b11 (x0.1 :: []))))<|
  some (.inl (t5,(t12,(t13,(t16,((IntKind.wrap .i64 (t17+(1:Int))),(x0.2.1,(x0.2.2.1,(x0.2.2.2.2.1,(x0.2.2.2.2.2.1,(x0.2.2.2.2.2.2.1,(x0.2.2.2.2.2.2.2.1,(x0.2.2.2.2.2.2.2.2.1,((ap x0.2.2.2.1 ((x1.1,((0:Int),(t5,()))) :: [])),(b9_0,(b9_1,(b9_2,(b9_3,(b9_4,(b10,((ap b11 (x0.1 :: [])),()))))))))))))))))))))))
 (
  some (.inr (t5,(t12,(t13,(b0_0,(b1,(b3,(b4,(b5,(b6,(b7,(b8,(b9_0,(b9_1,(b9_2,(b9_3,(b9_4,(b10,(b11,()))))))))))))))))))))
def nexpand_expander__cells_M8 (c0:Zazd) (c1:nexpand_maker__fresh_D) :nexpand_expander__cells_D8:=mkL (u20 (nexpand_expander__cells_B8 c0.F c1.F)) (pL (kD c0 (kB c1 k0)) e0 1 l0 fun d=>by kernel_rfl)
def nexpand_expander__cells_N8:nexpand_expander__cells_D8:=nexpand_expander__cells_M8 Zb3h nexpand_maker__fresh_K 
def nexpand_expander__cells_L8:nexpand_expander__cells_T8:=lpD (u20 (nexpand_expander__cells_B8 Zhs nexpand_maker__fresh_FF)) NN
def nexpand_expander__cells_B5 (L8:nexpand_expander__cells_T8) (t5 t12 t13 b0_0:Int) (b1 b3 b4 b5:List Int) (b6:List (Sh.T Za1)) (b7 b8:List (Sh.T Za0)) (b9_0 b9_1:Int) (b9_2:Bool) (b9_3:List (Sh.T Zb3)) (b9_4:List (Sh.T Zb8)) (b10:List (List Int)):Option (TL nexpand_expander__cells_lay5.σs⊕Out nexpand_expander__cells_outs5):=
 br (iL t13 t12)
 (
  bnd (L8 (t5,(t12,(t13,(b9_1,((0:Int),(b0_0,(b1,(b3,(b4,(b5,(b6,(b7,(b8,(b9_0,(b9_1,(b9_2,(b9_3,(b9_4,(b10,([],()))))))))))))))))))))) fun x0=>
  chk (room 24 (List.length (ap x0.2.2.2.2.2.2.2.2.2.2.2.2.2.2.2.2.1 (x0.2.2.2.2.2.2.2.2.2.2.2.2.2.2.2.2.2.1 :: []))))<|
  some (.inl (x0.1,(x0.2.1,((IntKind.wrap .i64 (@HAdd.hAdd (Int) (Int) (Int) _ x0.2.2.1 (1:Int))),(x0.2.2.2.1,(x0.2.2.2.2.1,(x0.2.2.2.2.2.1,(x0.2.2.2.2.2.2.1,(x0.2.2.2.2.2.2.2.1,(x0.2.2.2.2.2.2.2.2.1,(x0.2.2.2.2.2.2.2.2.2.1,(x0.2.2.2.2.2.2.2.2.2.2.1,(x0.2.2.2.2.2.2.2.2.2.2.2.1,(x0.2.2.2.2.2.2.2.2.2.2.2.2.1,(x0.2.2.2.2.2.2.2.2.2.2.2.2.2.1,(x0.2.2.2.2.2.2.2.2.2.2.2.2.2.2.1,(x0.2.2.2.2.2.2.2.2.2.2.2.2.2.2.2.1,((ap x0.2.2.2.2.2.2.2.2.2.2.2.2.2.2.2.2.1 (x0.2.2.2.2.2.2.2.2.2.2.2.2.2.2.2.2.2.1 :: [])),())))))))))))))))))))
 (
  some (.inr (b0_0,(b1,(b3,(b4,(b5,(b6,(b7,(b8,(b10,())))))))))))
def nexpand_expander__cells_M5 (M8:nexpand_expander__cells_D8):nexpand_expander__cells_D5:=mkL (u17 (nexpand_expander__cells_B5 M8.L)) (pL k0 e0 1 (sC M8 l0) fun d=>by kernel_rfl)
def nexpand_expander__cells_N5:nexpand_expander__cells_D5:=nexpand_expander__cells_M5  nexpand_expander__cells_N8
def nexpand_expander__cells_L5:nexpand_expander__cells_T5:=lpD (u17 (nexpand_expander__cells_B5 nexpand_expander__cells_L8)) NN
def nexpand_expander__cells_F (F0:Zb3g) (F1:nexpand_maker__fresh_T) (L5:nexpand_expander__cells_T5) (L8:nexpand_expander__cells_T8) (t1_0 t1_1:Int) (t1_2:Bool) (t1_3:List (Sh.T Zb3)) (t1_4:List (Sh.T Zb8)) (b0_0:Int) (b1:List Int) (b2:List (Sh.T Za0)) (b3 b4 b5:List Int) (b6:List (Sh.T Za1)) (b7:List (Sh.T Za0)):Option (Out nexpand_expander__cells_outs):=
 br t1_2
 (
  chk (iE (0:Int) t1_0)<|
  bnd (L5 ((2:Int),((IntKind.wrap .i64 ((1:Int)*(HPow.hPow (2:Int) (Min.min (Int.toNat t1_0) 64)))),((0:Int),(b0_0,(b1,(b3,(b4,(b5,(b6,(b7,(b2,(t1_0,(t1_1,(t1_2,(t1_3,(t1_4,([],())))))))))))))))))) fun x0=>
  some (x0.2.2.2.2.2.2.2.2.1,(x0.1,(x0.2.1,(x0.2.2.1,(x0.2.2.2.1,(x0.2.2.2.2.1,(x0.2.2.2.2.2.1,(x0.2.2.2.2.2.2.1,(x0.2.2.2.2.2.2.2.1,()))))))))))
 (
  chk (iE (0:Int) t1_0)<|
  bnd (L5 ((0:Int),((IntKind.wrap .i64 ((1:Int)*(HPow.hPow (2:Int) (Min.min (Int.toNat t1_0) 64)))),((0:Int),(b0_0,(b1,(b3,(b4,(b5,(b6,(b7,(b2,(t1_0,(t1_1,(t1_2,(t1_3,(t1_4,([],())))))))))))))))))) fun x0=>
  some (x0.2.2.2.2.2.2.2.2.1,(x0.1,(x0.2.1,(x0.2.2.1,(x0.2.2.2.1,(x0.2.2.2.2.1,(x0.2.2.2.2.2.1,(x0.2.2.2.2.2.2.1,(x0.2.2.2.2.2.2.2.1,()))))))))))
def nexpand_expander__cells_G (c0:Zazd) (c1:nexpand_maker__fresh_D) (M5:nexpand_expander__cells_D5) (M8:nexpand_expander__cells_D8):nexpand_expander__cells_D:=⟨u13 (nexpand_expander__cells_F c0.F c1.F M5.L M8.L),pB Try.func33 51 (kD c0 (kB c1 k0)) e0 1 (sS (sC M5 l0)) fun d=>by kernel_rfl⟩
def nexpand_expander__cells_K:nexpand_expander__cells_D:=nexpand_expander__cells_G Zb3h nexpand_maker__fresh_K nexpand_expander__cells_N5 nexpand_expander__cells_N8
def nexpand_expander__cells_FF:nexpand_expander__cells_T:=nexpand_expander__cells_K.F
abbrev nexpand_expander__read_lay:Lay:={ T:=[(0,.ptr 0 0),(1,.agg [.int .i64,.int .i64,.bool,.fz Zb3,.fz Zb8]),(2,.int .i64),(3,.fz (.sl (.int .i64)))],h:=yXc1,nx:=8 }
abbrev nexpand_expander__read_outs:List (Ev.Ex×Lay):=[(.ret,yXc13)]
abbrev nexpand_expander__read_T:=TL nexpand_expander__read_lay.σs→Option (Out nexpand_expander__read_outs)
abbrev nexpand_expander__read_D:=Kb 34 4 nexpand_expander__read_lay 0 nexpand_expander__read_outs
abbrev nexpand_expander__read_lay9:Lay:={ T:=[(0,.ptr 0 0),(3,.fz (.sl (.int .i64))),(9,.hd 9 (.int .i64)),(40,.fz (.int .i64)),(41,.int .i64),(42,.int .i64)],h:=yXc4,nx:=10 }
abbrev nexpand_expander__read_outs9:List (Ev.Ex×Lay):=[((.exit 2),yXc13)]
abbrev nexpand_expander__read_T9:=TL nexpand_expander__read_lay9.σs→Option (Out nexpand_expander__read_outs9)
abbrev nexpand_expander__read_D9:=Ld 8 80 (Zb5 [1] (Zaa Try.f34)) nexpand_expander__read_lay9 nexpand_expander__read_outs9
abbrev nexpand_expander__read_lay13:Lay:={ T:=[(0,.ptr 0 0),(3,.fz (.sl (.int .i64))),(9,.hd 9 (.int .i64)),(11,.int .i64),(12,.int .i64),(13,.int .i64),(40,.fz (.int .i64)),(41,.int .i64),(42,.int .i64),(47,.fz (.sl (.int .i64))),(48,.int .i64),(49,.int .i64)],h:=yXc4,nx:=10 }
abbrev nexpand_expander__read_outs13:List (Ev.Ex×Lay):=[((.exit 4),{ T:=[(0,.ptr 0 0),(3,.fz (.sl (.int .i64))),(9,.hd 9 (.int .i64)),(12,.int .i64),(13,.int .i64),(40,.fz (.int .i64)),(41,.int .i64),(42,.int .i64)],h:=yXc4,nx:=10 })]
abbrev nexpand_expander__read_T13:=TL nexpand_expander__read_lay13.σs→Option (Out nexpand_expander__read_outs13)
abbrev nexpand_expander__read_D13:=Ld 8 80 (Zb5 [1,0] (Zaa Try.f34)) nexpand_expander__read_lay13 nexpand_expander__read_outs13
abbrev nexpand_expander__read_lay4:Lay:={ T:=[(0,.ptr 0 0),(2,.int .i64),(3,.fz (.sl (.int .i64))),(5,.ptr 9 0),(8,.fz (.int .i64)),(9,.hd 10 (.int .i64)),(23,.int .i64),(24,.int .i64)],h:=yXc2,nx:=11 }
abbrev nexpand_expander__read_outs4:List (Ev.Ex×Lay):=[((.exit 0),{ T:=[(0,.ptr 0 0),(2,.int .i64),(3,.fz (.sl (.int .i64))),(5,.ptr 9 0),(9,.hd 10 (.int .i64))],h:=yXc2,nx:=11 })]
abbrev nexpand_expander__read_T4:=TL nexpand_expander__read_lay4.σs→Option (Out nexpand_expander__read_outs4)
abbrev nexpand_expander__read_D4:=Ld 8 80 (Zb5 [0] (Zaa Try.f34)) nexpand_expander__read_lay4 nexpand_expander__read_outs4
def nexpand_expander__read_B4 (F4:nexpand_maker__is_T) (t2:Int) (t3:List (List Int)) (t8:List Int) (t23 t24 b0_0:Int) (b1:List Int) (b2:List (Sh.T Za0)) (b3 b4 b5:List Int) (b6:List (Sh.T Za1)) (b8:List (Sh.T Za0)) (b9_0 b9_1:Int) (b9_2:Bool) (b9_3:List (Sh.T Zb3)) (b9_4:List (Sh.T Zb8)) (b10:List Int):Option (TL nexpand_expander__read_lay4.σs⊕Out nexpand_expander__read_outs4):=
 br (iL t24 t23)
 (
  bnd (F4 (t8,((IntKind.wrap .u64 t24),(b0_0,(b1,(b2,(b3,(b4,(b5,(b6,(b8,()))))))))))) fun x0=>
  chk (room 8 (List.length (ap b10 (x0.1 :: []))))<|
  some (.inl (t2,(t3,(t8,(t23,((IntKind.wrap .i64 (t24+(1:Int))),(x0.2.1,(x0.2.2.1,(x0.2.2.2.1,(x0.2.2.2.2.1,(x0.2.2.2.2.2.1,(x0.2.2.2.2.2.2.1,(x0.2.2.2.2.2.2.2.1,(x0.2.2.2.2.2.2.2.2.1,(b9_0,(b9_1,(b9_2,(b9_3,(b9_4,((ap b10 (x0.1 :: [])),())))))))))))))))))))))
 (
  some (.inr (t2,(t3,(b0_0,(b1,(b2,(b3,(b4,(b5,(b6,(b8,(b9_0,(b9_1,(b9_2,(b9_3,(b9_4,(b10,()))))))))))))))))))
def nexpand_expander__read_M4 (c4:nexpand_maker__is_D) :nexpand_expander__read_D4:=mkL (u19 (nexpand_expander__read_B4 c4.F)) (pL (kB c4 k0) e0 1 l0 fun d=>by kernel_rfl)
def nexpand_expander__read_N4:nexpand_expander__read_D4:=nexpand_expander__read_M4 nexpand_maker__is_K 
def nexpand_expander__read_L4:nexpand_expander__read_T4:=lpD (u19 (nexpand_expander__read_B4 nexpand_maker__is_FF)) NN
def nexpand_expander__read_B13 (F2:nexpand_maker__or_T) (F3:nexpand_maker__and_T) (t3:List (List Int)) (t11 t12 t13:Int) (t40:List Int) (t41 t42:Int) (t47:List (List Int)) (t48 t49 b0_0:Int) (b1:List Int) (b2:List (Sh.T Za0)) (b3 b4 b5:List Int) (b6:List (Sh.T Za1)) (b8:List (Sh.T Za0)) (b9:List Int):Option (TL nexpand_expander__read_lay13.σs⊕Out nexpand_expander__read_outs13):=
 br (iL t49 t48)
 (
  chk (inb t49 (List.length t47))<|
  chk (inb t49 (List.length b9))<|
  chk (inb t11 (List.length (gt (.sl (.int .i64)) t47 t49)))<|
  bnd (F3 ((gt (.int .i64) b9 t49),((gt (.int .i64) (gt (.sl (.int .i64)) t47 t49) t11),(b0_0,(b1,(b2,(b3,(b4,(b5,(b6,(b8,()))))))))))) fun x0=>
  chk (iQ t13 t13)<|
  bnd (F2 (t13,x0)) fun x1=>
  some (.inl (t3,(t11,(t12,(x1.1,(t40,(t41,(t42,(t47,(t48,((IntKind.wrap .i64 (t49+(1:Int))),(x1.2.1,(x1.2.2.1,(x1.2.2.2.1,(x1.2.2.2.2.1,(x1.2.2.2.2.2.1,(x1.2.2.2.2.2.2.1,(x1.2.2.2.2.2.2.2.1,(x1.2.2.2.2.2.2.2.2.1,(b9,())))))))))))))))))))))
 (
  some (.inr (t3,(t12,(t13,(t40,(t41,(t42,(b0_0,(b1,(b2,(b3,(b4,(b5,(b6,(b8,(b9,())))))))))))))))))
def nexpand_expander__read_M13 (c2:nexpand_maker__or_D) (c3:nexpand_maker__and_D) :nexpand_expander__read_D13:=mkL (u19 (nexpand_expander__read_B13 c2.F c3.F)) (pL (kB c2 (kB c3 k0)) e0 1 l0 fun d=>by kernel_rfl)
def nexpand_expander__read_N13:nexpand_expander__read_D13:=nexpand_expander__read_M13 nexpand_maker__or_K nexpand_maker__and_K 
def nexpand_expander__read_L13:nexpand_expander__read_T13:=lpD (u19 (nexpand_expander__read_B13 nexpand_maker__or_FF nexpand_maker__and_FF)) NN
def nexpand_expander__read_B9 (F1:nexpand_maker__as_T) (L13:nexpand_expander__read_T13) (t3:List (List Int)) (t40:List Int) (t41 t42 b0_0:Int) (b1:List Int) (b2:List (Sh.T Za0)) (b3 b4 b5:List Int) (b6:List (Sh.T Za1)) (b8:List (Sh.T Za0)) (b9:List Int):Option (TL nexpand_expander__read_lay9.σs⊕Out nexpand_expander__read_outs9):=
 br (iL t42 t41)
 (
  chk (inb t42 (List.length t40))<|
  bnd (L13 (t3,(t42,((gt (.int .i64) t40 t42),((0:Int),(t40,(t41,(t42,(t3,((Int.ofNat (List.length t3)),((0:Int),(b0_0,(b1,(b2,(b3,(b4,(b5,(b6,(b8,(b9,())))))))))))))))))))) fun x0=>
  bnd (F1 (x0.2.1,(x0.2.2.1,(x0.2.2.1,(x0.2.2.2.2.2.2.1,(x0.2.2.2.2.2.2.2.1,(x0.2.2.2.2.2.2.2.2.1,(x0.2.2.2.2.2.2.2.2.2.1,(x0.2.2.2.2.2.2.2.2.2.2.1,(x0.2.2.2.2.2.2.2.2.2.2.2.1,(x0.2.2.2.2.2.2.2.2.2.2.2.2.1,(x0.2.2.2.2.2.2.2.2.2.2.2.2.2.1,())))))))))))) fun x1=>
  some (.inl (x0.1,(x0.2.2.2.1,(x0.2.2.2.2.1,((IntKind.wrap .i64 (@HAdd.hAdd (Int) (Int) (Int) _ x0.2.2.2.2.2.1 (1:Int))),(x1.1,(x1.2.1,(x1.2.2.1,(x1.2.2.2.1,(x1.2.2.2.2.1,(x1.2.2.2.2.2.1,(x1.2.2.2.2.2.2.1,(x1.2.2.2.2.2.2.2.1,(x0.2.2.2.2.2.2.2.2.2.2.2.2.2.2.1,())))))))))))))))
 (
  some (.inr (b0_0,(b1,(b2,(b3,(b4,(b5,(b6,(b8,()))))))))))
def nexpand_expander__read_M9 (c1:nexpand_maker__as_D) (M13:nexpand_expander__read_D13):nexpand_expander__read_D9:=mkL (u13 (nexpand_expander__read_B9 c1.F M13.L)) (pL (kB c1 k0) e0 1 (sC M13 l0) fun d=>by kernel_rfl)
def nexpand_expander__read_N9:nexpand_expander__read_D9:=nexpand_expander__read_M9 nexpand_maker__as_K nexpand_expander__read_N13
def nexpand_expander__read_L9:nexpand_expander__read_T9:=lpD (u13 (nexpand_expander__read_B9 nexpand_maker__as_FF nexpand_expander__read_L13)) NN
def nexpand_expander__read_F (F0:Zb6y) (F1:nexpand_maker__as_T) (F2:nexpand_maker__or_T) (F3:nexpand_maker__and_T) (F4:nexpand_maker__is_T) (L4:nexpand_expander__read_T4) (L9:nexpand_expander__read_T9) (L13:nexpand_expander__read_T13) (t1_0 t1_1:Int) (t1_2:Bool) (t1_3:List (Sh.T Zb3)) (t1_4:List (Sh.T Zb8)) (t2:Int) (t3:List (List Int)) (b0_0:Int) (b1:List Int) (b2:List (Sh.T Za0)) (b3 b4 b5:List Int) (b6:List (Sh.T Za1)) (b7:List (Sh.T Za0)):Option (Out nexpand_expander__read_outs):=
 chk (inb t2 (List.length t1_3))<|
 bnd (L4 (t2,(t3,((gt Zb3 t1_3 t2).2.1,((Int.ofNat (List.length t3)),((0:Int),(b0_0,(b1,(b2,(b3,(b4,(b5,(b6,(b7,(t1_0,(t1_1,(t1_2,(t1_3,(t1_4,([],())))))))))))))))))))) fun x0=>
 bnd (F0 ((x0.2.2.2.2.2.2.2.2.2.2.1,(x0.2.2.2.2.2.2.2.2.2.2.2.1,(x0.2.2.2.2.2.2.2.2.2.2.2.2.1,(x0.2.2.2.2.2.2.2.2.2.2.2.2.2.1,(x0.2.2.2.2.2.2.2.2.2.2.2.2.2.2.1,()))))),(x0.1,()))) fun x1=>
 bnd (L9 (x0.2.1,(x1.1,((Int.ofNat (List.length x1.1)),((0:Int),(x0.2.2.1,(x0.2.2.2.1,(x0.2.2.2.2.1,(x0.2.2.2.2.2.1,(x0.2.2.2.2.2.2.1,(x0.2.2.2.2.2.2.2.1,(x0.2.2.2.2.2.2.2.2.1,(x0.2.2.2.2.2.2.2.2.2.1,(x0.2.2.2.2.2.2.2.2.2.2.2.2.2.2.2.1,())))))))))))))) fun x2=>
 some x2
def nexpand_expander__read_G (c0:Zb53) (c1:nexpand_maker__as_D) (c2:nexpand_maker__or_D) (c3:nexpand_maker__and_D) (c4:nexpand_maker__is_D) (M4:nexpand_expander__read_D4) (M9:nexpand_expander__read_D9) (M13:nexpand_expander__read_D13):nexpand_expander__read_D:=⟨u15 (nexpand_expander__read_F c0.F c1.F c2.F c3.F c4.F M4.L M9.L M13.L),pB Try.func34 80 (kD c0 (kB c1 (kB c2 (kB c3 (kB c4 k0))))) e0 1 (sS (sC M4 (sC M9 l0))) fun d=>by kernel_rfl⟩
def nexpand_expander__read_K:nexpand_expander__read_D:=nexpand_expander__read_G Zb6z nexpand_maker__as_K nexpand_maker__or_K nexpand_maker__and_K nexpand_maker__is_K nexpand_expander__read_N4 nexpand_expander__read_N9 nexpand_expander__read_N13
def nexpand_expander__read_FF:nexpand_expander__read_T:=nexpand_expander__read_K.F
abbrev nexpand_expander__write_lay:Lay:={ T:=[(0,.ptr 0 0),(1,.agg [.int .i64,.int .i64,.bool,.fz Zb3,.fz Zb8]),(2,.fz (.sl (.int .i64))),(3,.int .i64)],h:=yXc1,nx:=8 }
abbrev nexpand_expander__write_outs:List (Ev.Ex×Lay):=[(.ret,yXc13)]
abbrev nexpand_expander__write_T:=TL nexpand_expander__write_lay.σs→Option (Out nexpand_expander__write_outs)
abbrev nexpand_expander__write_D:=Kb 35 4 nexpand_expander__write_lay 0 nexpand_expander__write_outs
abbrev nexpand_expander__write_lay2:Lay:=yXc5
abbrev nexpand_expander__write_outs2:List (Ev.Ex×Lay):=[((.exit 0),yXc13)]
abbrev nexpand_expander__write_T2:=TL nexpand_expander__write_lay2.σs→Option (Out nexpand_expander__write_outs2)
abbrev nexpand_expander__write_D2:=Ld 8 97 (Zb5 [0] (Zaa Try.f35)) nexpand_expander__write_lay2 nexpand_expander__write_outs2
abbrev nexpand_expander__write_lay16:Lay:={ T:=[(0,.ptr 0 0),(3,.int .i64),(5,.ptr 9 0),(8,.int .i64),(17,.fz (.sl (.int .i64))),(18,.int .i64),(19,.int .i64),(71,.hd 10 (.int .i64)),(72,.int .i64),(73,.int .i64)],h:=yXc2,nx:=11 }
abbrev nexpand_expander__write_outs16:List (Ev.Ex×Lay):=[((.exit 6),yXc5)]
abbrev nexpand_expander__write_T16:=TL nexpand_expander__write_lay16.σs→Option (Out nexpand_expander__write_outs16)
abbrev nexpand_expander__write_D16:=Ld 8 97 (Zb5 [0,1] (Zaa Try.f35)) nexpand_expander__write_lay16 nexpand_expander__write_outs16
abbrev nexpand_expander__write_lay6:Lay:=yXc10
abbrev nexpand_expander__write_outs6:List (Ev.Ex×Lay):=[((.exit 2),{ T:=[(0,.ptr 0 0),(3,.int .i64),(5,.ptr 9 0),(8,.int .i64),(10,.hd 10 (.int .i64)),(17,.fz (.sl (.int .i64))),(18,.int .i64),(19,.int .i64)],h:=yXc2,nx:=11 })]
abbrev nexpand_expander__write_T6:=TL nexpand_expander__write_lay6.σs→Option (Out nexpand_expander__write_outs6)
abbrev nexpand_expander__write_D6:=Ld 8 97 (Zb5 [0,0] (Zaa Try.f35)) nexpand_expander__write_lay6 nexpand_expander__write_outs6
abbrev nexpand_expander__write_lay10:Lay:={ T:=[(0,.ptr 0 0),(3,.int .i64),(5,.ptr 9 0),(8,.int .i64),(10,.hd 10 (.int .i64)),(12,.ptr 11 0),(13,.int .i64),(17,.fz (.sl (.int .i64))),(18,.int .i64),(19,.int .i64),(27,.fz Zb8),(28,.int .i64),(29,.int .i64),(48,.int .i64),(49,.int .i64)],h:=[(0,.cells [.int .i64,.hd 1 (.int .i64),.hd 2 Za0,.hd 3 (.int .i64),.hd 4 (.int .i64),.hd 5 (.int .i64),.hd 6 Za1,.hd 8 Za0] 68),(1,.arr (.int .i64) 3),(2,.arr Za0 62),(3,.arr (.int .i64) 3),(4,.arr (.int .i64) 3),(5,.arr (.int .i64) 3),(6,.arr Za1 60),(8,.arr Za0 106),(9,.cells [.int .i64,.int .i64,.bool,.fz Zb3,.fz Zb8] 60),(10,.arr (.int .i64) 3),(11,.cells [.int .i64,.fz (.int .i64),.fz (.int .i64)] 115)],nx:=12 }
abbrev nexpand_expander__write_outs10:List (Ev.Ex×Lay):=[((.exit 4),yXc10)]
abbrev nexpand_expander__write_T10:=TL nexpand_expander__write_lay10.σs→Option (Out nexpand_expander__write_outs10)
abbrev nexpand_expander__write_D10:=Ld 8 97 (Zb5 [0,0,0] (Zaa Try.f35)) nexpand_expander__write_lay10 nexpand_expander__write_outs10
def nexpand_expander__write_B10 (F0:nexpand_maker__choose_T) (t3 t8 t13:Int) (t17:List (List Int)) (t18 t19:Int) (t27:List (Sh.T Zb8)) (t28 t29 t48 t49 b0_0:Int) (b1:List Int) (b2:List (Sh.T Za0)) (b3 b4 b5:List Int) (b6:List (Sh.T Za1)) (b8:List (Sh.T Za0)) (b9_0 b9_1:Int) (b9_2:Bool) (b9_3:List (Sh.T Zb3)) (b9_4:List (Sh.T Zb8)) (b10:List Int) (b11_0:Int) (b11_1 b11_2:List Int):Option (TL nexpand_expander__write_lay10.σs⊕Out nexpand_expander__write_outs10):=
 br (iL t49 t48)
 (
  chk (inb t49 (List.length b11_2))<|
  chk (inb t49 (List.length b10))<|
  bnd (F0 (t13,((gt (.int .i64) b11_2 t49),((gt (.int .i64) b10 t49),(b0_0,(b1,(b2,(b3,(b4,(b5,(b6,(b8,())))))))))))) fun x0=>
  chk (inb t49 (List.length b10))<|
  chk (iQ t49 t49)<|
  some (.inl (t3,(t8,(t13,(t17,(t18,(t19,(t27,(t28,(t29,(t48,((IntKind.wrap .i64 (t49+(1:Int))),(x0.2.1,(x0.2.2.1,(x0.2.2.2.1,(x0.2.2.2.2.1,(x0.2.2.2.2.2.1,(x0.2.2.2.2.2.2.1,(x0.2.2.2.2.2.2.2.1,(x0.2.2.2.2.2.2.2.2.1,(b9_0,(b9_1,(b9_2,(b9_3,(b9_4,((List.set b10 (Int.toNat t49) x0.1),(b11_0,(b11_1,(b11_2,()))))))))))))))))))))))))))))))
 (
  some (.inr (t3,(t8,(t17,(t18,(t19,(t27,(t28,(t29,(b0_0,(b1,(b2,(b3,(b4,(b5,(b6,(b8,(b9_0,(b9_1,(b9_2,(b9_3,(b9_4,(b10,()))))))))))))))))))))))))
def nexpand_expander__write_M10 (c0:nexpand_maker__choose_D) :nexpand_expander__write_D10:=mkL (fun d=>nexpand_expander__write_B10 c0.F  d.1 d.2.1 d.2.2.1 d.2.2.2.1 d.2.2.2.2.1 d.2.2.2.2.2.1 d.2.2.2.2.2.2.1 d.2.2.2.2.2.2.2.1 d.2.2.2.2.2.2.2.2.1 d.2.2.2.2.2.2.2.2.2.1 d.2.2.2.2.2.2.2.2.2.2.1 d.2.2.2.2.2.2.2.2.2.2.2.1 d.2.2.2.2.2.2.2.2.2.2.2.2.1 d.2.2.2.2.2.2.2.2.2.2.2.2.2.1 d.2.2.2.2.2.2.2.2.2.2.2.2.2.2.1 d.2.2.2.2.2.2.2.2.2.2.2.2.2.2.2.1 d.2.2.2.2.2.2.2.2.2.2.2.2.2.2.2.2.1 d.2.2.2.2.2.2.2.2.2.2.2.2.2.2.2.2.2.1 d.2.2.2.2.2.2.2.2.2.2.2.2.2.2.2.2.2.2.1 d.2.2.2.2.2.2.2.2.2.2.2.2.2.2.2.2.2.2.2.1 d.2.2.2.2.2.2.2.2.2.2.2.2.2.2.2.2.2.2.2.2.1 d.2.2.2.2.2.2.2.2.2.2.2.2.2.2.2.2.2.2.2.2.2.1 d.2.2.2.2.2.2.2.2.2.2.2.2.2.2.2.2.2.2.2.2.2.2.1 d.2.2.2.2.2.2.2.2.2.2.2.2.2.2.2.2.2.2.2.2.2.2.2.1 d.2.2.2.2.2.2.2.2.2.2.2.2.2.2.2.2.2.2.2.2.2.2.2.2.1 d.2.2.2.2.2.2.2.2.2.2.2.2.2.2.2.2.2.2.2.2.2.2.2.2.2.1 d.2.2.2.2.2.2.2.2.2.2.2.2.2.2.2.2.2.2.2.2.2.2.2.2.2.2.1 d.2.2.2.2.2.2.2.2.2.2.2.2.2.2.2.2.2.2.2.2.2.2.2.2.2.2.2.1) (pL (kB c0 k0) e0 1 l0 fun d=>by kernel_rfl)
def nexpand_expander__write_N10:nexpand_expander__write_D10:=nexpand_expander__write_M10 nexpand_maker__choose_K 
def nexpand_expander__write_L10:nexpand_expander__write_T10:=lpD (fun d=>nexpand_expander__write_B10 nexpand_maker__choose_FF  d.1 d.2.1 d.2.2.1 d.2.2.2.1 d.2.2.2.2.1 d.2.2.2.2.2.1 d.2.2.2.2.2.2.1 d.2.2.2.2.2.2.2.1 d.2.2.2.2.2.2.2.2.1 d.2.2.2.2.2.2.2.2.2.1 d.2.2.2.2.2.2.2.2.2.2.1 d.2.2.2.2.2.2.2.2.2.2.2.1 d.2.2.2.2.2.2.2.2.2.2.2.2.1 d.2.2.2.2.2.2.2.2.2.2.2.2.2.1 d.2.2.2.2.2.2.2.2.2.2.2.2.2.2.1 d.2.2.2.2.2.2.2.2.2.2.2.2.2.2.2.1 d.2.2.2.2.2.2.2.2.2.2.2.2.2.2.2.2.1 d.2.2.2.2.2.2.2.2.2.2.2.2.2.2.2.2.2.1 d.2.2.2.2.2.2.2.2.2.2.2.2.2.2.2.2.2.2.1 d.2.2.2.2.2.2.2.2.2.2.2.2.2.2.2.2.2.2.2.1 d.2.2.2.2.2.2.2.2.2.2.2.2.2.2.2.2.2.2.2.2.1 d.2.2.2.2.2.2.2.2.2.2.2.2.2.2.2.2.2.2.2.2.2.1 d.2.2.2.2.2.2.2.2.2.2.2.2.2.2.2.2.2.2.2.2.2.2.1 d.2.2.2.2.2.2.2.2.2.2.2.2.2.2.2.2.2.2.2.2.2.2.2.1 d.2.2.2.2.2.2.2.2.2.2.2.2.2.2.2.2.2.2.2.2.2.2.2.2.1 d.2.2.2.2.2.2.2.2.2.2.2.2.2.2.2.2.2.2.2.2.2.2.2.2.2.1 d.2.2.2.2.2.2.2.2.2.2.2.2.2.2.2.2.2.2.2.2.2.2.2.2.2.2.1 d.2.2.2.2.2.2.2.2.2.2.2.2.2.2.2.2.2.2.2.2.2.2.2.2.2.2.2.1) NN
def nexpand_expander__write_B6 (F1:nexpand_maker__and_T) (F2:nexpand_maker__is_T) (L10:nexpand_expander__write_T10) (t3 t8:Int) (t17:List (List Int)) (t18 t19:Int) (t27:List (Sh.T Zb8)) (t28 t29 b0_0:Int) (b1:List Int) (b2:List (Sh.T Za0)) (b3 b4 b5:List Int) (b6:List (Sh.T Za1)) (b8:List (Sh.T Za0)) (b9_0 b9_1:Int) (b9_2:Bool) (b9_3:List (Sh.T Zb3)) (b9_4:List (Sh.T Zb8)) (b10:List Int):Option (TL nexpand_expander__write_lay6.σs⊕Out nexpand_expander__write_outs6):=
 br (iL t29 t28)
 (
  chk (inb t29 (List.length t27))<|
  bnd (F2 ((gt Zb8 t27 t29).2.1,((IntKind.wrap .u64 t8),(b0_0,(b1,(b2,(b3,(b4,(b5,(b6,(b8,()))))))))))) fun x0=>
  chk (iQ (gt Zb8 t27 t29).1 (gt Zb8 t27 t29).1)<|
  bnd (F1 ((gt Zb8 t27 t29).1,x0)) fun x1=>
  bnd (L10 (t3,(t8,(x1.1,(t17,(t18,(t19,(t27,(t28,(t29,((Int.ofNat (List.length b10)),((0:Int),(x1.2.1,(x1.2.2.1,(x1.2.2.2.1,(x1.2.2.2.2.1,(x1.2.2.2.2.2.1,(x1.2.2.2.2.2.2.1,(x1.2.2.2.2.2.2.2.1,(x1.2.2.2.2.2.2.2.2.1,(b9_0,(b9_1,(b9_2,(b9_3,(b9_4,(b10,((gt Zb8 t27 t29).1,((gt Zb8 t27 t29).2.1,((gt Zb8 t27 t29).2.2.1,()))))))))))))))))))))))))))))) fun x2=>
  some (.inl (x2.1,(x2.2.1,(x2.2.2.1,(x2.2.2.2.1,(x2.2.2.2.2.1,(x2.2.2.2.2.2.1,(x2.2.2.2.2.2.2.1,((IntKind.wrap .i64 (@HAdd.hAdd (Int) (Int) (Int) _ x2.2.2.2.2.2.2.2.1 (1:Int))),x2.2.2.2.2.2.2.2.2))))))))))
 (
  some (.inr (t3,(t8,(t17,(t18,(t19,(b0_0,(b1,(b2,(b3,(b4,(b5,(b6,(b8,(b9_0,(b9_1,(b9_2,(b9_3,(b9_4,(b10,())))))))))))))))))))))
def nexpand_expander__write_M6 (c1:nexpand_maker__and_D) (c2:nexpand_maker__is_D) (M10:nexpand_expander__write_D10):nexpand_expander__write_D6:=mkL (u22 (nexpand_expander__write_B6 c1.F c2.F M10.L)) (pL (kB c1 (kB c2 k0)) e0 1 (sC M10 l0) fun d=>by kernel_rfl)
def nexpand_expander__write_N6:nexpand_expander__write_D6:=nexpand_expander__write_M6 nexpand_maker__and_K nexpand_maker__is_K nexpand_expander__write_N10
def nexpand_expander__write_L6:nexpand_expander__write_T6:=lpD (u22 (nexpand_expander__write_B6 nexpand_maker__and_FF nexpand_maker__is_FF nexpand_expander__write_L10)) NN
def nexpand_expander__write_B16 (t3 t8:Int) (t17:List (List Int)) (t18 t19 t72 t73 b0_0:Int) (b1:List Int) (b2:List (Sh.T Za0)) (b3 b4 b5:List Int) (b6:List (Sh.T Za1)) (b8:List (Sh.T Za0)) (b9_0 b9_1:Int) (b9_2:Bool) (b9_3:List (Sh.T Zb3)) (b9_4:List (Sh.T Zb8)) (b10:List Int):Option (TL nexpand_expander__write_lay16.σs⊕Out nexpand_expander__write_outs16):=
 br (iL t73 t72)
 (
  chk (inb t73 (List.length b10))<|
  chk (inb (IntKind.wrap .i64 ((IntKind.wrap .i64 (t3+(IntKind.wrap .i64 (t8*b9_1))))+t73)) (List.length b2))<|
  some (.inl (t3,(t8,(t17,(t18,(t19,(t72,((IntKind.wrap .i64 (t73+(1:Int))),(b0_0,(b1,((List.set b2 (Int.toNat (IntKind.wrap .i64 ((IntKind.wrap .i64 (t3+(IntKind.wrap .i64 (t8*b9_1))))+t73))) ((gt Za0 b2 (IntKind.wrap .i64 ((IntKind.wrap .i64 (t3+(IntKind.wrap .i64 (t8*b9_1))))+t73))).1,((gt (.int .i64) b10 t73),((gt Za0 b2 (IntKind.wrap .i64 ((IntKind.wrap .i64 (t3+(IntKind.wrap .i64 (t8*b9_1))))+t73))).2.2.1,())))),(b3,(b4,(b5,(b6,(b8,(b9_0,(b9_1,(b9_2,(b9_3,(b9_4,(b10,())))))))))))))))))))))))
 (
  some (.inr (t3,(t17,(t18,(t19,(b0_0,(b1,(b2,(b3,(b4,(b5,(b6,(b8,(b9_0,(b9_1,(b9_2,(b9_3,(b9_4,())))))))))))))))))))
def nexpand_expander__write_N16  :nexpand_expander__write_D16:=mkL (u21 nexpand_expander__write_B16) (pL k0 e0 1 l0 fun d=>by kernel_rfl)
def nexpand_expander__write_L16:nexpand_expander__write_T16:=lpD (u21 nexpand_expander__write_B16) NN
def nexpand_expander__write_B2 (F3:slices_Clone___int_int_w_T) (L6:nexpand_expander__write_T6) (L16:nexpand_expander__write_T16) (t3:Int) (t17:List (List Int)) (t18 t19 b0_0:Int) (b1:List Int) (b2:List (Sh.T Za0)) (b3 b4 b5:List Int) (b6:List (Sh.T Za1)) (b8:List (Sh.T Za0)) (b9_0 b9_1:Int) (b9_2:Bool) (b9_3:List (Sh.T Zb3)) (b9_4:List (Sh.T Zb8)):Option (TL nexpand_expander__write_lay2.σs⊕Out nexpand_expander__write_outs2):=
 br (iL t19 t18)
 (
  chk (inb t19 (List.length t17))<|
  bnd (F3 ((gt (.sl (.int .i64)) t17 t19),())) fun x0=>
  bnd (L6 (t3,(t19,(t17,(t18,(t19,(b9_4,((Int.ofNat (List.length b9_4)),((0:Int),(b0_0,(b1,(b2,(b3,(b4,(b5,(b6,(b8,(b9_0,(b9_1,(b9_2,(b9_3,(b9_4,(x0.1,()))))))))))))))))))))))) fun x1=>
  bnd (L16 (x1.1,(x1.2.1,(x1.2.2.1,(x1.2.2.2.1,(x1.2.2.2.2.1,((Int.ofNat (List.length x1.2.2.2.2.2.2.2.2.2.2.2.2.2.2.2.2.2.2.1)),((0:Int),x1.2.2.2.2.2)))))))) fun x2=>
  some (.inl (x2.1,(x2.2.1,(x2.2.2.1,((IntKind.wrap .i64 (@HAdd.hAdd (Int) (Int) (Int) _ x2.2.2.2.1 (1:Int))),x2.2.2.2.2))))))
 (
  some (.inr (b0_0,(b1,(b2,(b3,(b4,(b5,(b6,(b8,()))))))))))
def nexpand_expander__write_M2 (c3:slices_Clone___int_int_w_D) (M6:nexpand_expander__write_D6) (M16:nexpand_expander__write_D16):nexpand_expander__write_D2:=mkL (u17 (nexpand_expander__write_B2 c3.F M6.L M16.L)) (pL (kB c3 k0) e0 1 (sC M6 (sC M16 l0)) fun d=>by kernel_rfl)
def nexpand_expander__write_N2:nexpand_expander__write_D2:=nexpand_expander__write_M2 slices_Clone___int_int_w_K nexpand_expander__write_N6 nexpand_expander__write_N16
def nexpand_expander__write_L2:nexpand_expander__write_T2:=lpD (u17 (nexpand_expander__write_B2 slices_Clone___int_int_w_FF nexpand_expander__write_L6 nexpand_expander__write_L16)) NN
def nexpand_expander__write_F (F0:nexpand_maker__choose_T) (F1:nexpand_maker__and_T) (F2:nexpand_maker__is_T) (F3:slices_Clone___int_int_w_T) (L2:nexpand_expander__write_T2) (L6:nexpand_expander__write_T6) (L10:nexpand_expander__write_T10) (L16:nexpand_expander__write_T16) (t1_0 t1_1:Int) (t1_2:Bool) (t1_3:List (Sh.T Zb3)) (t1_4:List (Sh.T Zb8)) (t2:List (List Int)) (t3 b0_0:Int) (b1:List Int) (b2:List (Sh.T Za0)) (b3 b4 b5:List Int) (b6:List (Sh.T Za1)) (b7:List (Sh.T Za0)):Option (Out nexpand_expander__write_outs):=
 bnd (L2 (t3,(t2,((Int.ofNat (List.length t2)),((0:Int),(b0_0,(b1,(b2,(b3,(b4,(b5,(b6,(b7,(t1_0,(t1_1,(t1_2,(t1_3,(t1_4,())))))))))))))))))) fun x0=>
 some x0
def nexpand_expander__write_G (c0:nexpand_maker__choose_D) (c1:nexpand_maker__and_D) (c2:nexpand_maker__is_D) (c3:slices_Clone___int_int_w_D) (M2:nexpand_expander__write_D2) (M6:nexpand_expander__write_D6) (M10:nexpand_expander__write_D10) (M16:nexpand_expander__write_D16):nexpand_expander__write_D:=⟨u15 (nexpand_expander__write_F c0.F c1.F c2.F c3.F M2.L M6.L M10.L M16.L),pB Try.func35 97 (kB c0 (kB c1 (kB c2 (kB c3 k0)))) e0 1 (sS (sC M2 l0)) fun d=>by kernel_rfl⟩
def nexpand_expander__write_K:nexpand_expander__write_D:=nexpand_expander__write_G nexpand_maker__choose_K nexpand_maker__and_K nexpand_maker__is_K slices_Clone___int_int_w_K nexpand_expander__write_N2 nexpand_expander__write_N6 nexpand_expander__write_N10 nexpand_expander__write_N16
def nexpand_expander__write_FF:nexpand_expander__write_T:=nexpand_expander__write_K.F
abbrev expand_Net_lay13:Lay:={ T:=[(2,.ptr 0 0),(6,.ptr 1 0),(54,.hd 9 Za1),(55,.int .i64),(56,.int .i64)],h:=[(0,.cells [.int .i64,.nils,.nils,.nils,.nils,.nils,.nils,.nils] 27),(1,.cells yXc12 68),(2,.arr (.int .i64) 3),(3,.arr Za0 62),(4,.arr (.int .i64) 3),(5,.arr (.int .i64) 3),(6,.arr (.int .i64) 3),(7,.arr Za1 60),(8,.arr Za0 106),(9,.arr Za1 60)],nx:=10 }
abbrev expand_Net_outs13:List (Ev.Ex×Lay):=[((.exit 1),{ T:=[(2,.ptr 0 0),(6,.ptr 1 0)],h:=[(0,.cells [.int .i64,.nils,.nils,.nils,.nils,.nils,.nils,.nils] 27),(1,.cells yXc12 68),(2,.arr (.int .i64) 3),(3,.arr Za0 62),(4,.arr (.int .i64) 3),(5,.arr (.int .i64) 3),(6,.arr (.int .i64) 3),(7,.arr Za1 60),(8,.arr Za0 106)],nx:=9 })]
abbrev expand_Net_T13:=TL expand_Net_lay13.σs→Option (Out expand_Net_outs13)
abbrev expand_Net_D13:=Ld 0 93 (Zb5 [0] (Zaa Try.f9)) expand_Net_lay13 expand_Net_outs13
abbrev expand_Net_lay18:Lay:={ T:=[(2,.ptr 0 0),(6,.ptr 1 0),(9,.ptr 9 0),(10,.int .i64),(11,.fz (.sl (.int .i64))),(54,.hd 10 Za1),(55,.int .i64),(56,.int .i64),(72,.int .i64),(73,.int .i64)],h:=yXc7,nx:=11 }
abbrev expand_Net_outs18:List (Ev.Ex×Lay):=[((.exit 3),{ T:=[(2,.ptr 0 0),(6,.ptr 1 0),(9,.ptr 9 0),(10,.int .i64),(11,.fz (.sl (.int .i64))),(54,.hd 10 Za1),(55,.int .i64),(56,.int .i64)],h:=yXc7,nx:=11 })]
abbrev expand_Net_T18:=TL expand_Net_lay18.σs→Option (Out expand_Net_outs18)
abbrev expand_Net_D18:=Ld 0 93 (Zb5 [0,0] (Zaa Try.f9)) expand_Net_lay18 expand_Net_outs18
def expand_Net_B18 (F4:nexpand_expander__read_T) (t10:Int) (t11:List (List Int)) (t55 t56 t72 t73 b0_0 b1_0:Int) (b2:List Int) (b3:List (Sh.T Za0)) (b4 b5 b6:List Int) (b7:List (Sh.T Za1)) (b8:List (Sh.T Za0)) (b9_0 b9_1:Int) (b9_2:Bool) (b9_3:List (Sh.T Zb3)) (b9_4:List (Sh.T Zb8)) (b10:List (Sh.T Za1)):Option (TL expand_Net_lay18.σs⊕Out expand_Net_outs18):=
 br (iL t73 t72)
 (
  bnd (F4 (b9_0,(b9_1,(b9_2,(b9_3,(b9_4,(t73,(t11,(b1_0,(b2,(b3,(b4,(b5,(b6,(b7,(b8,())))))))))))))))) fun x0=>
  some (.inl (t10,(t11,(t55,(t56,(t72,((IntKind.wrap .i64 (t73+(1:Int))),(b0_0,(x0.1,(x0.2.1,(x0.2.2.1,(x0.2.2.2.1,(x0.2.2.2.2.1,(x0.2.2.2.2.2.1,(x0.2.2.2.2.2.2.1,(x0.2.2.2.2.2.2.2.1,(b9_0,(b9_1,(b9_2,(b9_3,(b9_4,(b10,())))))))))))))))))))))))
 (
  some (.inr (t10,(t11,(t55,(t56,(b0_0,(b1_0,(b2,(b3,(b4,(b5,(b6,(b7,(b8,(b9_0,(b9_1,(b9_2,(b9_3,(b9_4,(b10,())))))))))))))))))))))
def expand_Net_M18 (c4:nexpand_expander__read_D) :expand_Net_D18:=mkL (u21 (expand_Net_B18 c4.F)) (pL (kB c4 k0) e0 1 l0 fun d=>by kernel_rfl)
def expand_Net_N18:expand_Net_D18:=expand_Net_M18 nexpand_expander__read_K 
def expand_Net_L18:expand_Net_T18:=lpD (u21 (expand_Net_B18 nexpand_expander__read_FF)) NN
def expand_Net_B13 (F3:nexpand_expander__write_T) (F5:nexpand_expander__cells_T) (L18:expand_Net_T18) (t55 t56 b0_0 b1_0:Int) (b2:List Int) (b3:List (Sh.T Za0)) (b4 b5 b6:List Int) (b7:List (Sh.T Za1)) (b8:List (Sh.T Za0)) (b9:List (Sh.T Za1)):Option (TL expand_Net_lay13.σs⊕Out expand_Net_outs13):=
 br (iL t56 t55)
 (
  chk (inb t56 (List.length b9))<|
  bnd (F5 ((gt Za1 b9 t56).1,((gt Za1 b9 t56).2.1,((gt Za1 b9 t56).2.2.1,((gt Za1 b9 t56).2.2.2.1,((gt Za1 b9 t56).2.2.2.2.1,(b1_0,(b2,(b3,(b4,(b5,(b6,(b7,(b8,())))))))))))))) fun x0=>
  bnd (L18 ((Int.ofNat (List.length b3)),(x0.1,(t55,(t56,((Int.ofNat (List.length (gt Za1 b9 t56).2.2.2.1)),((0:Int),(b0_0,(x0.2.1,(x0.2.2.1,(x0.2.2.2.2.2.2.2.2.1,(x0.2.2.2.1,(x0.2.2.2.2.1,(x0.2.2.2.2.2.1,(x0.2.2.2.2.2.2.1,(x0.2.2.2.2.2.2.2.1,((gt Za1 b9 t56).1,((gt Za1 b9 t56).2.1,((gt Za1 b9 t56).2.2.1,((gt Za1 b9 t56).2.2.2.1,((gt Za1 b9 t56).2.2.2.2.1,(b9,())))))))))))))))))))))) fun x1=>
  bnd (F3 (x1.2.2.2.2.2.2.2.2.2.2.2.2.2.1,(x1.2.2.2.2.2.2.2.2.2.2.2.2.2.2.1,(x1.2.2.2.2.2.2.2.2.2.2.2.2.2.2.2.1,(x1.2.2.2.2.2.2.2.2.2.2.2.2.2.2.2.2.1,(x1.2.2.2.2.2.2.2.2.2.2.2.2.2.2.2.2.2.1,(x1.2.1,(x1.1,(x1.2.2.2.2.2.1,(x1.2.2.2.2.2.2.1,(x1.2.2.2.2.2.2.2.1,(x1.2.2.2.2.2.2.2.2.1,(x1.2.2.2.2.2.2.2.2.2.1,(x1.2.2.2.2.2.2.2.2.2.2.1,(x1.2.2.2.2.2.2.2.2.2.2.2.1,(x1.2.2.2.2.2.2.2.2.2.2.2.2.1,())))))))))))))))) fun x2=>
  some (.inl (x1.2.2.1,((IntKind.wrap .i64 (@HAdd.hAdd (Int) (Int) (Int) _ x1.2.2.2.1 (1:Int))),(x1.2.2.2.2.1,(x2.1,(x2.2.1,(x2.2.2.1,(x2.2.2.2.1,(x2.2.2.2.2.1,(x2.2.2.2.2.2.1,(x2.2.2.2.2.2.2.1,(x2.2.2.2.2.2.2.2.1,(x1.2.2.2.2.2.2.2.2.2.2.2.2.2.2.2.2.2.2.1,()))))))))))))))
 (
  some (.inr (b0_0,(b1_0,(b2,(b3,(b4,(b5,(b6,(b7,(b8,())))))))))))
def expand_Net_M13 (c3:nexpand_expander__write_D) (c5:nexpand_expander__cells_D) (M18:expand_Net_D18):expand_Net_D13:=mkL (u12 (expand_Net_B13 c3.F c5.F M18.L)) (pL (kB c3 (kB c5 k0)) e0 1 (sC M18 l0) fun d=>by kernel_rfl)
def expand_Net_N13:expand_Net_D13:=expand_Net_M13 nexpand_expander__write_K nexpand_expander__cells_K expand_Net_N18
def expand_Net_L13:expand_Net_T13:=lpD (u12 (expand_Net_B13 nexpand_expander__write_FF nexpand_expander__cells_FF expand_Net_L18)) NN
abbrev expand_Net_σs:List Sh:=[Za5]
abbrev expand_Net_τs:List Sh:=[Za5,(.int .i64)]
abbrev expand_Net_T:=TL expand_Net_σs→Option (TL expand_Net_τs)
abbrev expand_Net_D:=Kd 9 expand_Net_σs expand_Net_τs
def expand_Net_F (F0:net_Ports_T) (F1:expand_Cells_T) (F2:Zaq7) (F3:nexpand_expander__write_T) (F4:nexpand_expander__read_T) (F5:nexpand_expander__cells_T) (F6:net_Clonew_T) (L13:expand_Net_T13) (L18:expand_Net_T18) (a0:Sh.T Za5):Option (TL expand_Net_τs):=
 bnd (F2 (a0,())) fun x0=>
 br (Bool.not (iQ x0.1 (0:Int)))
 (
  some (((0:Int),([],([],([],([],([],([],([],())))))))),(x0.1,())))
 (
  bnd (F1 (a0,())) fun x1=>
  br (iL (64:Int) x1.1)
  (
   some (((0:Int),([],([],([],([],([],([],([],())))))))),((17:Int),())))
  (
   bnd (F0 (a0,())) fun x2=>
   br (iL (2000:Int) (IntKind.wrap .i64 ((IntKind.wrap .i64 (@HAdd.hAdd (Int) (Int) (Int) _ a0.1 x1.1))+(IntKind.wrap .i64 (@HMul.hMul (Int) (Int) (Int) _ (IntKind.wrap .i64 (@HMul.hMul (Int) (Int) (Int) _ (10:Int) x1.1)) x2.1)))))
   (
    some (((0:Int),([],([],([],([],([],([],([],())))))))),((10:Int),())))
   (
    bnd (F6 a0) fun x3=>
    bnd (L13 ((Int.ofNat (List.length x3.2.2.2.2.2.2.1)),((0:Int),((0:Int),(x3.1,(x3.2.1,(x3.2.2.1,(x3.2.2.2.1,(x3.2.2.2.2.1,(x3.2.2.2.2.2.1,([],(x3.2.2.2.2.2.2.2.1,(x3.2.2.2.2.2.2.1,()))))))))))))) fun x4=>
    some (x4.2,((0:Int),())))))
def expand_Net_G (c0:net_Ports_D) (c1:expand_Cells_D) (c2:Zamw) (c3:nexpand_expander__write_D) (c4:nexpand_expander__read_D) (c5:nexpand_expander__cells_D) (c6:net_Clonew_D) (M13:expand_Net_D13) (M18:expand_Net_D18):expand_Net_D:=⟨u1 (expand_Net_F c0.F c1.F c2.F c3.F c4.F c5.F c6.F M13.L M18.L),pD Try.func9 93 (kD c0 (kD c1 (kD c2 (kB c3 (kB c4 (kB c5 (kB c6 k0))))))) e0 1 (sS (sC M13 l0)) fun d=>by kernel_rfl⟩
def expand_Net_K:expand_Net_D:=expand_Net_G net_Ports_K expand_Cells_K Zaq8 nexpand_expander__write_K nexpand_expander__read_K nexpand_expander__cells_K net_Clonew_K expand_Net_N13 expand_Net_N18
def expand_Net_FF:expand_Net_T:=expand_Net_K.F
abbrev astrariumlaw13_alive_σs:List Sh:=[]
abbrev astrariumlaw13_alive_τs:List Sh:=[.bool]
abbrev astrariumlaw13_alive_T:=TL astrariumlaw13_alive_σs→Option (TL astrariumlaw13_alive_τs)
abbrev astrariumlaw13_alive_D:=Kd 8 astrariumlaw13_alive_σs astrariumlaw13_alive_τs
def astrariumlaw13_alive_F (F0:expand_Cells_T) (F1:expand_Net_T)  :Option (TL astrariumlaw13_alive_τs):=
 bnd (F1 (((0:Int),([],([],([],([],([],((((1:Int),((1:Int),(true,([],([],()))))) :: []),([],())))))))),())) fun x0=>
 bnd (F0 (((0:Int),([],([],([],([],([],((((1:Int),((1:Int),(true,([],([],()))))) :: []),([],())))))))),())) fun x1=>
 br (iQ x1.1 (2:Int))
 (
  br (selB true (iQ x0.2.1 (0:Int)) false)
  (
   br (selB true (iQ (Int.ofNat (List.length x0.1.2.2.1)) (2:Int)) false)
   (
    br (selB true (iQ (Int.ofNat (List.length x0.1.2.2.2.2.2.2.1)) (0:Int)) false)
    (
     chk (inb (0:Int) (List.length x0.1.2.2.1))<|
     some ((selB true (iQ (gt Za0 x0.1.2.2.1 (0:Int)).2.2.1 (2:Int)) false),()))
    (
     some (false,())))
   (
    some (false,())))
  (
   some (false,())))
 (
  some (false,()))
def astrariumlaw13_alive_G (c0:expand_Cells_D) (c1:expand_Net_D) :astrariumlaw13_alive_D:=⟨fun d=>astrariumlaw13_alive_F c0.F c1.F  ,pZ Try.func8 39 (kD c0 (kD c1 k0)) e0 1 (sS l0) fun d=>by kernel_rfl⟩
def astrariumlaw13_alive_K:astrariumlaw13_alive_D:=astrariumlaw13_alive_G expand_Cells_K expand_Net_K 
def astrariumlaw13_alive_FF:astrariumlaw13_alive_T:=astrariumlaw13_alive_K.F
end Go.Proofs.Ytnocaehijdmkkaa.V
end
section
namespace Go.Proofs.Ytnocaehijdmkkaa.V
open Go Go.RowKit
open Go.Proofs.Ytnocaehijdmkkaa.Pl
def evl (val:Int→Bool) (l:Int):Bool:=decide (l % 2=1) != (decide (0<l / 2)&&val (l / 2))
def ntl (l:Int):Int:=if l % 2=0 then l+1 else l - 1
def LitOk (v:Nat) (l:Int):Prop:=0≤l∧l / 2≤(v:Int)
def GL (G:Int→Prop) (l:Int):Prop:=l / 2=0∨G (l / 2)
def Sat (val:Int→Bool) (A:List AndD):Prop:=∀x∈A,val x.var=(evl val x.a&&evl val x.b)
def Clo (G:Int→Prop) (A:List AndD):Prop:=∀x∈A,GL G x.a→GL G x.b→G x.var
theorem ntl_rng {v:Nat} {l:Int} (h:LitOk v l):LitOk v (ntl l)∧ntl l / 2=l / 2:=by
 obtain ⟨h1,h2⟩:=h
 unfold ntl LitOk
 split<;>(refine ⟨⟨?_,?_⟩,?_⟩<;>omega)
theorem evl_ntl {val:Int→Bool} {l:Int} (h:0≤l):evl val (ntl l) = !(evl val l):=by
 unfold evl ntl
 by_cases q:l % 2=0
 ·rw [if_pos q,show (l+1) / 2=l / 2 by omega,decide_eq_true (show (l+1) % 2=1 by omega),decide_eq_false (show ¬l % 2=1 by omega)]
  generalize (decide (0<l / 2)&&val (l / 2))=b
  cases b<;>rfl
 ·rw [if_neg q,show (l - 1) / 2=l / 2 by omega,decide_eq_false (show ¬(l - 1) % 2=1 by omega),decide_eq_true (show l % 2=1 by omega)]
  generalize (decide (0<l / 2)&&val (l / 2))=b
  cases b<;>rfl
theorem evl_0 (val:Int→Bool):evl val 0=false:=by simp [evl]
theorem evl_1 (val:Int→Bool):evl val 1=true:=by simp [evl]
theorem GL_ntl {G:Int→Prop} {v:Nat} {l:Int} (h:LitOk v l):GL G (ntl l)↔GL G l:=by unfold GL;rw [(ntl_rng h).2]
theorem xor_one {l:Int} (h:0≤l) (h2:l<4611686018427387904):bxorI .i64 l 1=ntl l:=by
 obtain ⟨n,rfl⟩:∃n:Nat,l=(n:Int):=⟨l.toNat,by omega⟩
 have hn:n<4611686018427387904:=by omega
 unfold bxorI
 have e:(BitVec.ofInt (IntKind.bits .i64) (n:Int) ^^^ BitVec.ofInt (IntKind.bits .i64) (1:Int)).toNat=n ^^^ 1:=by
  have e1:(BitVec.ofInt 64 (n:Int)).toNat=n:=by rw [BitVec.toNat_ofInt];omega
  show (BitVec.ofInt 64 (n:Int) ^^^ BitVec.ofInt 64 (1:Int)).toNat=_
  rw [BitVec.toNat_xor,e1];rfl
 rw [e]
 have e2:n ^^^ 1=if n % 2=0 then n+1 else n - 1:=by
  by_cases q:n % 2=0
  ·rw [if_pos q]
   obtain ⟨k,rfl⟩:∃k,n=2*k:=⟨n / 2,by omega⟩
   apply Nat.eq_of_testBit_eq
   intro i
   rw [Nat.testBit_xor]
   cases i with
   | zero=>simp [Nat.testBit_zero]
   | succ i=>simp [Nat.testBit_succ];congr 1;omega
  ·rw [if_neg q]
   obtain ⟨k,rfl⟩:∃k,n=2*k+1:=⟨n / 2,by omega⟩
   apply Nat.eq_of_testBit_eq
   intro i
   rw [Nat.testBit_xor]
   cases i with
   | zero=>simp [Nat.testBit_zero]
   | succ i=>simp [Nat.testBit_succ];congr 1;omega
 rw [e2]
 unfold ntl
 by_cases q:n % 2=0
 ·rw [if_pos q,if_pos (by omega),i64w (by omega)];rfl
 ·rw [if_neg q,if_neg (by omega),i64w (by omega)];omega
theorem some_i {p q:Int} (h:p=q):(some (p,()):Option (TL [.int .i64]))=some (q,()):=by subst h;rfl
theorem lits_Not_is {v:Nat} {l:Int} (h:LitOk v l) (hv:v≤1000000):lits_Not_FF (l,())=some (ntl l,()):=by
 have:=xor_one h.1 (by have:=h.2;omega)
 exact some_i this
theorem lits_Xor_is {v:Nat} {l:Int} (h:LitOk v l) (hv:v≤1000000) (b:Bool):lits_Xor_FF (l,(b,()))=some (if b then ntl l else l,()):=by
 cases b
 ·rfl
 ·exact some_i (xor_one h.1 (by have:=h.2;omega))
theorem lits_Make_is {v:Int} (h:0≤v) (hv:v≤1000000):lits_Make_FF (v,(false,()))=some (2*v,()):=by
 have e:IntKind.wrap .i64 (v*(HPow.hPow (2:Int) (Min.min (Int.toNat (1:Int)) 64)))=2*v:=by
  have:(HPow.hPow (2:Int) (Min.min (Int.toNat (1:Int)) 64))=(2:Int):=rfl
  rw [this,i64w (by omega)];omega
 have e2:lits_Xor_FF (IntKind.wrap .i64 (v*(HPow.hPow (2:Int) (Min.min (Int.toNat (1:Int)) 64))),(false,()))=some (2*v,()):=by
  rw [e];rfl
 exact Zba e2 rfl
structure Mk where
 v:Nat
 a:List AndD
abbrev mkT (i:List Int) (l:List Za0.T) (o b c:List Int) (m:List Za1.T) (s:Mk):Int×List Int×List Za0.T×List Int×List Int×List Int×List Za1.T×List Za0.T×Unit:=
 ((s.v:Int),(i,(l,(o,(b,(c,(m,(s.a.map andT,()))))))))
def fr (lo hi:Nat):List Int:=(List.range (hi - lo)).map fun i:Nat=>((lo+1+i:Nat):Int)
theorem fr_same (lo:Nat):fr lo lo=[]:=by unfold fr;rw [Nat.sub_self];rfl
theorem fr_one (lo:Nat):fr lo (lo+1)=[((lo+1:Nat):Int)]:=by unfold fr;rw [show lo+1 - lo=1 by omega];rfl
theorem fr_add {a b c:Nat} (h1:a≤b) (h2:b≤c):fr a b++fr b c=fr a c:=by
 unfold fr
 rw [show c - a=(b - a)+(c - b) by omega,List.range_add,List.map_append,List.map_map]
 congr 1
 apply List.map_congr_left
 intro i _
 simp only [Function.comp]
 omega
structure Sp (s s':Mk) (c:Nat) (D:List Int):Prop where
 lo:s.v≤s'.v
 hi:s'.v≤s.v+c
 new:∃N:List AndD,s'.a=s.a++N∧(N.map (·.var)).Perm (D++fr s.v s'.v)∧∀x∈N,(LitOk s'.v x.a∧LitOk s'.v x.b)∧(x.var∈D∨(x.a / 2<x.var∧x.b / 2<x.var))
theorem LitOk.up {v w:Nat} {l:Int} (h:LitOk v l) (hw:v≤w):LitOk w l:=⟨h.1,by have:=h.2;omega⟩
theorem Sp.refl (s:Mk):Sp s s 0 []:=⟨Nat.le_refl _,Nat.le_refl _,[],by simp,by rw [fr_same];exact List.Perm.refl _,fun x h=>by cases h⟩
theorem Sp.trans {s t u:Mk} {c d:Nat} {D E:List Int} (h:Sp s t c D) (k:Sp t u d E):Sp s u (c+d) (D++E):=by
 obtain ⟨N,e1,p1,l1⟩:=h.new
 obtain ⟨M,e2,p2,l2⟩:=k.new
 have a1:=h.lo;have a2:=h.hi;have b1:=k.lo;have b2:=k.hi
 refine ⟨by omega,by omega,N++M,by rw [e2,e1,List.append_assoc],?_,?_⟩
 ·rw [List.map_append,←fr_add a1 b1]
  refine (p1.append p2).trans ?_
  rw [List.append_assoc,List.append_assoc]
  refine List.Perm.append_left D ?_
  rw [←List.append_assoc,←List.append_assoc]
  exact List.Perm.append_right _ List.perm_append_comm
 ·intro x hx
  rcases List.mem_append.1 hx with hx | hx
  ·obtain ⟨⟨q1,q2⟩,q3⟩:=l1 x hx
   exact ⟨⟨q1.up b1,q2.up b1⟩,q3.imp (fun h=>List.mem_append_left _ h) id⟩
  ·obtain ⟨q1,q3⟩:=l2 x hx
   exact ⟨q1,q3.imp (fun h=>List.mem_append_right _ h) id⟩
theorem Sp.more {s t:Mk} {c d:Nat} {D:List Int} (h:Sp s t c D) (hc:c≤d):Sp s t d D:=⟨h.lo,by have:=h.hi;omega,h.new⟩
theorem Sp.sat {s t:Mk} {c:Nat} {D:List Int} (h:Sp s t c D) {val:Int→Bool} (k:Sat val t.a):Sat val s.a:=by
 obtain ⟨N,e,_⟩:=h.new
 intro x hx
 exact k x (by rw [e];exact List.mem_append_left _ hx)
theorem Sp.clo {s t:Mk} {c:Nat} {D:List Int} (h:Sp s t c D) {G:Int→Prop} (k:Clo G t.a):Clo G s.a:=by
 obtain ⟨N,e,_⟩:=h.new
 intro x hx
 exact k x (by rw [e];exact List.mem_append_left _ hx)
theorem room24 {L:List Za0.T} {x:Za0.T} (h:L.length≤10000000):room 24 (List.length (L++(x :: [])))=true:=Zsm (by omega) (by omega)
structure MkOk (s:Mk):Prop where
 v:s.v≤100000
 a:s.a.length≤100000
theorem Sp.len {s t:Mk} {c:Nat} {D:List Int} (h:Sp s t c D):t.a.length≤s.a.length+D.length+c:=by
 obtain ⟨N,e,p,_⟩:=h.new
 have:=p.length_eq
 have h2:=h.hi
 rw [List.length_map,List.length_append] at this
 have h3:(fr s.v t.v).length=t.v - s.v:=by simp [fr]
 rw [e,List.length_append];omega
section
variable (i:List Int) (l:List Za0.T) (o b c:List Int) (m:List Za1.T) {s:Mk}
theorem mfresh_is (h:s.v≤100000):nexpand_maker__fresh_FF (mkT i l o b c m s)=some ((2*((s.v+1:Nat):Int)),mkT i l o b c m ⟨s.v+1,s.a⟩):=by
 have w:IntKind.wrap .i64 ((s.v:Int)+1)=((s.v+1:Nat):Int):=i64w (x:=(s.v:Int)+1) (by omega)
 have e:lits_Make_FF (IntKind.wrap .i64 ((s.v:Int)+1),(false,()))=some (2*((s.v+1:Nat):Int),()):=by rw [w];exact lits_Make_is (by omega) (by omega)
 show nexpand_maker__fresh_F lits_Make_FF (s.v:Int) i l o b c m (s.a.map andT)=_
 unfold nexpand_maker__fresh_F
 refine Zba e ?_
 have k:∀p q:Int,p=q→(some (2*((s.v+1:Nat):Int),(p,(i,(l,(o,(b,(c,(m,(s.a.map andT,()))))))))):Option (Out nexpand_maker__fresh_outs))=some (2*((s.v+1:Nat):Int),(q,(i,(l,(o,(b,(c,(m,(s.a.map andT,()))))))))):=by rintro _ _ rfl;rfl
 exact k _ _ w
theorem mas_is (h:s.a.length≤1000000) (v x y:Int):nexpand_maker__as_FF (v,(x,(y,mkT i l o b c m s)))=some (mkT i l o b c m ⟨s.v,s.a++[⟨v,x,y⟩]⟩):=by
 have r:=room24 (L:=s.a.map andT) (x:=(v,(x,(y,())))) (by rw [List.length_map];omega)
 refine Zaj r ?_
 have k:∀p q:List Za0.T,p=q→(some ((s.v:Int),(i,(l,(o,(b,(c,(m,(p,())))))))):Option (Out nexpand_maker__as_outs))=some ((s.v:Int),(i,(l,(o,(b,(c,(m,(q,())))))))):=by rintro _ _ rfl;rfl
 exact k _ _ (by rw [List.map_append];rfl)
structure AndSp (s s':Mk) (c:Nat) (f:Bool→Bool→Bool) (x y z:Int):Prop where
 sp:Sp s s' c []
 ok:LitOk s'.v z
 val:∀val,Sat val s'.a→evl val z=f (evl val x) (evl val y)
 clo:∀G,Clo G s'.a→GL G x→GL G y→GL G z
theorem mand_is (h:MkOk s) {x y:Int} (hx:LitOk s.v x) (hy:LitOk s.v y):∃(z:Int) (s':Mk),nexpand_maker__and_FF (x,(y,mkT i l o b c m s))=some (z,mkT i l o b c m s')∧AndSp s s' 1 (fun p q=>p&&q) x y z:=by
 have hv:=h.v
 have hn:=lits_Not_is hy (by omega)
 have S0:Sp s s 1 []:=(Sp.refl s).more (by omega)
 have ev:∀val,evl val (ntl y) = !(evl val y):=fun val=>evl_ntl hy.1
 by_cases h1:x=0
 ·exact ⟨0,s,br_tt (dec_t h1) rfl,S0,⟨by omega,by omega⟩,fun val _=>by rw [h1,evl_0];rfl,fun G _ _ _=>.inl (by omega)⟩
 by_cases h2:y=0
 ·exact ⟨0,s,br_ff (dec_f h1) (br_tt (dec_t h2) rfl),S0,⟨by omega,by omega⟩,fun val _=>by show _=(evl val x&&evl val y);rw [h2,evl_0,Bool.and_false],fun G _ _ _=>.inl (by omega)⟩
 by_cases h3:x=ntl y
 ·exact ⟨0,s,br_ff (dec_f h1) (br_ff (dec_f h2) (Zba hn (br_tt (dec_t h3) rfl))),S0,⟨by omega,by omega⟩,fun val _=>by show _=(evl val x&&evl val y);rw [h3,ev,evl_0];cases evl val y<;>rfl,fun G _ _ _=>.inl (by omega)⟩
 by_cases h4:x=1
 ·exact ⟨y,s,br_ff (dec_f h1) (br_ff (dec_f h2) (Zba hn (br_ff (dec_f h3) (br_tt (dec_t h4) rfl)))),S0,hy,fun val _=>by show _=(evl val x&&evl val y);rw [h4,evl_1];rfl,fun G _ _ k=>k⟩
 by_cases h5:x=y
 ·exact ⟨y,s,br_ff (dec_f h1) (br_ff (dec_f h2) (Zba hn (br_ff (dec_f h3) (br_ff (dec_f h4) (br_tt (dec_t h5) rfl))))),S0,hy,fun val _=>by show _=(evl val x&&evl val y);rw [h5];cases evl val y<;>rfl,fun G _ _ k=>k⟩
 by_cases h6:y=1
 ·exact ⟨x,s,br_ff (dec_f h1) (br_ff (dec_f h2) (Zba hn (br_ff (dec_f h3) (br_ff (dec_f h4) (br_ff (dec_f h5) (br_tt (dec_t h6) rfl)))))),S0,hx,fun val _=>by show _=(evl val x&&evl val y);rw [h6,evl_1];cases evl val x<;>rfl,fun G _ k _=>k⟩
 have e1:=mfresh_is i l o b c m (s:=s) (by omega)
 have e2:Zhs (2*((s.v+1:Nat):Int),())=some (((s.v+1:Nat):Int),()):=by
  have:=Zwy (l:=2*((s.v+1:Nat):Int)) (q:=((s.v+1:Nat):Int)) (by omega)
  exact this
 have ha:=h.a
 have e3:=mas_is i l o b c m (s:=⟨s.v+1,s.a⟩) (by show s.a.length≤_;omega) ((s.v+1:Nat):Int) x y
 refine ⟨2*((s.v+1:Nat):Int),⟨s.v+1,s.a++[⟨((s.v+1:Nat):Int),x,y⟩]⟩,br_ff (dec_f h1) (br_ff (dec_f h2) (Zba hn (br_ff (dec_f h3) (br_ff (dec_f h4) (br_ff (dec_f h5) (br_ff (dec_f h6) (Zba e1 (Zba e2 (Zba e3 rfl))))))))),?_,?_,?_,?_⟩
 ·refine ⟨by show s.v≤s.v+1;omega,Nat.le_refl _,[⟨((s.v+1:Nat):Int),x,y⟩],rfl,?_,?_⟩
  ·show [((s.v+1:Nat):Int)].Perm ([]++fr s.v (s.v+1))
   rw [fr_one];exact List.Perm.refl _
  ·intro z hz
   obtain rfl:=List.mem_singleton.1 hz
   exact ⟨⟨hx.up (by show s.v≤s.v+1;omega),hy.up (by show s.v≤s.v+1;omega)⟩,.inr ⟨by have:=hx.2;show x / 2<((s.v+1:Nat):Int);omega,by have:=hy.2;show y / 2<((s.v+1:Nat):Int);omega⟩⟩
 ·exact ⟨by omega,by show 2*((s.v+1:Nat):Int) / 2≤((s.v+1:Nat):Int);omega⟩
 ·intro val k
  have:=k ⟨((s.v+1:Nat):Int),x,y⟩ (by show _∈s.a++_;simp)
  have this:val ((s.v+1:Nat):Int)=(evl val x&&evl val y):=this
  unfold evl
  rw [show 2*((s.v+1:Nat):Int) / 2=((s.v+1:Nat):Int) by omega,decide_eq_false (show ¬2*((s.v+1:Nat):Int) % 2=1 by omega),decide_eq_true (show (0:Int)<((s.v+1:Nat):Int) by omega),this]
  simp [evl]
 ·intro G k gx gy
  refine .inr ?_
  rw [show 2*((s.v+1:Nat):Int) / 2=((s.v+1:Nat):Int) by omega]
  exact k ⟨((s.v+1:Nat):Int),x,y⟩ (by show _∈s.a++_;simp) gx gy
theorem mor_is (h:MkOk s) {x y:Int} (hx:LitOk s.v x) (hy:LitOk s.v y):∃(z:Int) (s':Mk),nexpand_maker__or_FF (x,(y,mkT i l o b c m s))=some (z,mkT i l o b c m s')∧AndSp s s' 1 (fun p q=>p||q) x y z:=by
 have hv:=h.v
 obtain ⟨z,s',e,A⟩:=mand_is i l o b c m h (ntl_rng hx).1 (ntl_rng hy).1
 have hs:=A.sp.hi
 have hn:=lits_Not_is A.ok (by omega)
 have E:nexpand_maker__or_FF (x,(y,mkT i l o b c m s))=some (ntl z,mkT i l o b c m s'):=by
  show nexpand_maker__or_F lits_Not_FF nexpand_maker__and_FF x y (s.v:Int) i l o b c m (s.a.map andT)=_
  unfold nexpand_maker__or_F
  exact Zba (lits_Not_is hx (by omega)) (Zba (lits_Not_is hy (by omega)) (Zba e (Zba hn rfl)))
 refine ⟨ntl z,s',E,A.sp,(ntl_rng A.ok).1,?_,?_⟩
 ·intro val k
  show _=(evl val x||evl val y)
  rw [evl_ntl A.ok.1,A.val val k]
  show (!(evl val (ntl x)&&evl val (ntl y)))=_
  rw [evl_ntl hx.1,evl_ntl hy.1]
  cases evl val x<;>cases evl val y<;>rfl
 ·intro G k gx gy
  exact (GL_ntl A.ok).2 (A.clo G k ((GL_ntl hx).2 gx) ((GL_ntl hy).2 gy))
structure ChSp (s s':Mk) (c:Nat) (u x y z:Int):Prop where
 sp:Sp s s' c []
 ok:LitOk s'.v z
 val:∀val,Sat val s'.a→evl val z=(if evl val u=true then evl val x else evl val y)
 clo:∀G,Clo G s'.a→GL G u→GL G x→GL G y→GL G z
theorem Sp.mkOk {s t:Mk} {c:Nat} (h:Sp s t c []) (hv:s.v+c≤100000) (ha:s.a.length+c≤100000):MkOk t:=by
 have h1:=h.hi;have h2:=h.len
 exact ⟨by omega,by simp at h2;omega⟩
theorem mchoose_is (hv:s.v+3≤100000) (ha:s.a.length+3≤100000) {u x y:Int} (hu:LitOk s.v u) (hx:LitOk s.v x) (hy:LitOk s.v y) :
  ∃(z:Int) (s':Mk),nexpand_maker__choose_FF (u,(x,(y,mkT i l o b c m s)))=some (z,mkT i l o b c m s')∧ChSp s s' 3 u x y z:=by
 obtain ⟨p,s1,e1,A1⟩:=mand_is i l o b c m ⟨by omega,by omega⟩ hu hx
 have m1:=A1.sp.mkOk (by omega) (by omega)
 have l1:=A1.sp.lo
 have g1:=A1.sp.hi
 have k1:=A1.sp.len
 obtain ⟨q,s2,e2,A2⟩:=mand_is i l o b c m m1 ((ntl_rng hu).1.up l1) (hy.up l1)
 have m2:=A2.sp.mkOk (by omega) (by simp at k1;omega)
 have l2:=A2.sp.lo
 have g2:=A2.sp.hi
 obtain ⟨z,s3,e3,A3⟩:=mor_is i l o b c m m2 (A1.ok.up l2) A2.ok
 have E:nexpand_maker__choose_FF (u,(x,(y,mkT i l o b c m s)))=some (z,mkT i l o b c m s3):=by
  show nexpand_maker__choose_F lits_Not_FF nexpand_maker__or_FF nexpand_maker__and_FF u x y (s.v:Int) i l o b c m (s.a.map andT)=_
  unfold nexpand_maker__choose_F
  exact Zba e1 (Zba (lits_Not_is hu (by omega)) (Zba e2 (Zba e3 rfl)))
 refine ⟨z,s3,E,(A1.sp.trans A2.sp).trans A3.sp,A3.ok,?_,?_⟩
 ·intro val k
  have k2:=A3.sp.sat k
  have k1:=A2.sp.sat k2
  rw [A3.val val k,A2.val val k2,A1.val val k1]
  show ((evl val u&&evl val x)||(evl val (ntl u)&&evl val y))=_
  rw [evl_ntl hu.1]
  cases evl val u<;>cases evl val x<;>cases evl val y<;>rfl
 ·intro G k gu gx gy
  have k2:=A3.sp.clo k
  have k1:=A2.sp.clo k2
  exact A3.clo G k (A1.clo G k1 gu gx) (A2.clo G k2 ((GL_ntl hu).2 gu) gy)
end
theorem lp_ex {D O:Type} {B:D→Option (D⊕O)} (n:Nat) (I:Nat→D→Prop) {Q:O→Prop} (hs:∀i d,i<n→I i d→∃d',B d=some (.inl d')∧I (i+1) d') (he:∀d,I n d→∃o,B d=some (.inr o)∧Q o)
  {d:D} (h0:I 0 d) {N:Nat} (hN:n<N):∃o,lpD B N d=some o∧Q o:=by
 have main:∀k i d N,i+k=n→I i d→k<N→∃o,lpD B N d=some o∧Q o:=by
  intro k
  induction k with
  | zero=>
   intro i d N e h hN
   obtain rfl:i=n:=by omega
   obtain ⟨o,h1,h2⟩:=he d h
   cases N with
   | zero=>omega
   | succ N=>exact ⟨o,by simp only [lpD,h1],h2⟩
  | succ k ih=>
   intro i d N e h hN
   obtain ⟨d',h1,h2⟩:=hs i d (by omega) h
   cases N with
   | zero=>omega
   | succ N=>
    obtain ⟨o,h3,h4⟩:=ih (i+1) d' N (by omega) h2 (by omega)
    exact ⟨o,by simp only [lpD,h1];exact h3,h4⟩
 exact main n 0 d N (by omega) h0 hN
theorem band_sh {w k:Nat} (hw:w<18446744073709551616) (hk:k≤64):bandI .u64 (Int.fdiv (w:Int) (HPow.hPow (2:Int) (Min.min (Int.toNat (k:Int)) 64))) (1:Int)=((w / 2^k % 2:Nat):Int):=by
 have hd:Int.fdiv (w:Int) (HPow.hPow (2:Int) (Min.min (Int.toNat (k:Int)) 64))=((w / 2^k:Nat):Int):=by
  rw [Int.toNat_natCast,Nat.min_eq_left hk,Int.fdiv_eq_ediv_of_nonneg _ (Int.pow_nonneg (by decide))]
  simp
 have hlt:w / 2^k≤w:=Nat.div_le_self _ _
 rw [hd]
 generalize w / 2^k=q at hlt
 rw [band_bit (by omega) (by omega)]
 omega
theorem wordF_bit:∀(l:List Bool) (i:Nat),i<l.length→l.getD i false=decide (wordF l / 2^i % 2=1)
 | [],i,h=>by simp at h
 | b :: l,i,h=>by
  cases i with
  | zero=>
   simp only [List.getD_cons_zero,wordF,Nat.pow_zero,Nat.div_one]
   cases b<;>simp<;>omega
  | succ i=>
   have e:wordF (b :: l) / 2^(i+1) % 2=wordF l / 2^i % 2:=by
    show ((if b=true then 1 else 0)+2*wordF l) / 2^(i+1) % 2=_
    rw [Nat.pow_succ,Nat.mul_comm (2^i) 2,←Nat.div_div_eq_div_mul]
    have:(((if b=true then 1 else 0)+2*wordF l) / 2)=wordF l:=by cases b<;>simp<;>omega
    rw [this]
   rw [List.getD_cons_succ]
   exact (wordF_bit l i (by simpa using h)).trans (congrArg (fun n:Nat=>decide (n=1)) e.symm)
theorem wordF_eq {l:List Bool} {w:Nat} (hw:w<2^l.length) (h:∀i,i<l.length→l.getD i false=decide (w / 2^i % 2=1)):wordF l=w:=by
 apply Nat.eq_of_testBit_eq
 intro i
 rw [Nat.testBit_eq_decide_div_mod_eq,Nat.testBit_eq_decide_div_mod_eq]
 by_cases q:i<l.length
 ·rw [←wordF_bit l i q,h i q]
 ·have h1:=Zb74 l
  have h2:2^l.length≤2^i:=Nat.pow_le_pow_right (by omega) (by omega)
  rw [Nat.div_eq_of_lt (by omega),Nat.div_eq_of_lt (by omega)]
section
variable (i:List Int) (l:List Za0.T) (o b c:List Int) (m:List Za1.T) {s:Mk}
structure IsSp (s s':Mk) (L:List Int) (n w:Nat) (z:Int):Prop where
 sp:Sp s s' n []
 ok:LitOk s'.v z
 val:∀val,Sat val s'.a→(evl val z=true↔∀k,k<n→evl val (L.getD k 0)=decide (w / 2^k % 2=1))
 clo:∀G,Clo G s'.a→(∀x∈L,GL G x)→GL G z
theorem mis_is {L:List Int} {w:Nat} (hL:L.length≤64) (hw:w<18446744073709551616) (hx:∀x∈L,LitOk s.v x) (hv:s.v+L.length≤100000) (ha:s.a.length+L.length≤100000) :
  ∃(z:Int) (s':Mk),nexpand_maker__is_FF (L,((w:Int),mkT i l o b c m s))=some (z,mkT i l o b c m s')∧IsSp s s' L L.length w z:=by
 have eL:∃q,nexpand_maker__is_L3 ((w:Int),((1:Int),(L,(((L.length:Nat):Int),((0:Int),mkT i l o b c m s)))))=some q∧∃(z:Int) (s':Mk),q=(z,mkT i l o b c m s')∧IsSp s s' L L.length w z:=by
  unfold nexpand_maker__is_L3;delta u13
  refine lp_ex L.length (fun k d=>∃(z:Int) (s':Mk),d=((w:Int),(z,(L,(((L.length:Nat):Int),((k:Int),mkT i l o b c m s')))))∧IsSp s s' L k w z) ?_ ?_ ⟨1,s,rfl,Sp.refl s,⟨by omega,by omega⟩,fun val _=>⟨fun _ k hk=>by omega,fun _=>evl_1 val⟩,fun G _ _=>.inl (by omega)⟩ (Ze8 (by omega))
  ·rintro k d hk ⟨z,t,rfl,A⟩
   have hxk:=List.getElem?_eq_getElem hk
   have g:gt (.int .i64) L (k:Int)=L[k]:=gt_at (σ:=.int .i64) hxk
   have hl:L.getD k 0=L[k]:=by rw [List.getD_eq_getElem?_getD,hxk];rfl
   have lk:=hx L[k] (List.getElem_mem hk)
   have lo:=A.sp.lo
   have hi:=A.sp.hi
   have hlen:=A.sp.len
   have mk:MkOk t:=A.sp.mkOk (by omega) (by omega)
   have hb:iQ (bandI .u64 (Int.fdiv (w:Int) (HPow.hPow (2:Int) (Min.min (Int.toNat (k:Int)) 64))) (1:Int)) 0=decide (w / 2^k % 2=0):=by
    rw [band_sh hw (by omega)]
    show decide (((w / 2^k % 2:Nat):Int)=0)=_
    by_cases q:w / 2^k % 2=0
    ·rw [decide_eq_true q,decide_eq_true (by omega)]
    ·rw [decide_eq_false q,decide_eq_false (by omega)]
   obtain ⟨x,ex⟩:∃x,x=(if decide (w / 2^k % 2=0) then ntl L[k] else L[k]):=⟨_,rfl⟩
   have e1:lits_Xor_FF (gt (.int .i64) L (k:Int),(iQ (bandI .u64 (Int.fdiv (w:Int) (HPow.hPow (2:Int) (Min.min (Int.toNat (k:Int)) 64))) (1:Int)) 0,()))=some (x,()):=by
    rw [hb,g,ex];exact lits_Xor_is lk (by omega) _
   have xo:LitOk t.v x:=by
    rw [ex]
    split
    ·exact (ntl_rng lk).1.up lo
    ·exact lk.up lo
   have xe:∀val,evl val x=(evl val L[k] == decide (w / 2^k % 2=1)):=by
    intro val
    rw [ex]
    by_cases q:w / 2^k % 2=0
    ·rw [decide_eq_true q,decide_eq_false (by omega),if_pos rfl,evl_ntl lk.1];cases evl val L[k]<;>rfl
    ·rw [decide_eq_false q,decide_eq_true (by omega)];cases h:evl val L[k]<;>simp [h]
   obtain ⟨y,t',e2,A2⟩:=mand_is i l o b c m mk A.ok xo
   have ek:∀p q:Int,p=q→(some (.inl ((w:Int),(y,(L,(((L.length:Nat):Int),(p,mkT i l o b c m t')))))):Option (TL nexpand_maker__is_lay3.σs⊕Out nexpand_maker__is_outs3))=some (.inl ((w:Int),(y,(L,(((L.length:Nat):Int),(q,mkT i l o b c m t')))))):=by rintro _ _ rfl;rfl
   refine ⟨_,br_tt (dec_t (show (k:Int)<((L.length:Nat):Int) by omega)) (Zaj (show inb (k:Int) (List.length L)=true from Zar ⟨by omega,by omega⟩) (Zaj (dec_t (show (0:Int)≤(k:Int) by omega)) (Zba e1 (Zba e2 (ek _ _ (i64n (show (k:Int)+1=((k+1:Nat):Int) by omega) (by omega))))))),y,t',rfl,A.sp.trans A2.sp,A2.ok,?_,?_⟩
   ·intro val hs
    rw [A2.val val hs]
    show (evl val z&&evl val x)=true↔_
    rw [Bool.and_eq_true,A.val val (A2.sp.sat hs),xe val]
    constructor
    ·rintro ⟨h1,h2⟩ j hj
     by_cases q:j<k
     ·exact h1 j q
     ·obtain rfl:j=k:=by omega
      rw [hl];simpa using h2
    ·intro h
     refine ⟨fun j hj=>h j (by omega),?_⟩
     have:=h k (by omega)
     rw [hl] at this
     simpa using this
   ·intro G hc hg
    refine A2.clo G hc (A.clo G (A2.sp.clo hc) hg) ?_
    have:=hg L[k] (List.getElem_mem hk)
    rw [ex];split
    ·exact (GL_ntl lk).2 this
    ·exact this
  ·rintro d ⟨z,t,rfl,A⟩
   exact ⟨_,br_ff (dec_f (show ¬((L.length:Nat):Int)<((L.length:Nat):Int) by omega)) rfl,z,t,rfl,A⟩
 obtain ⟨q,e,z,t,rfl,A⟩:=eL
 refine ⟨z,t,?_,A⟩
 show nexpand_maker__is_F lits_Xor_FF nexpand_maker__and_FF nexpand_maker__is_L3 L (w:Int) (s.v:Int) i l o b c m (s.a.map andT)=_
 unfold nexpand_maker__is_F
 exact Zba e rfl
theorem IsSp.word {s s':Mk} {L:List Int} {w:Nat} {z:Int} (h:IsSp s s' L L.length w z) (hw:w<2^L.length) (val:Int→Bool) (k:Sat val s'.a):evl val z=decide (wordF (L.map (evl val))=w):=by
 have h1:=h.val val k
 have key:(∀k,k<L.length→evl val (L.getD k 0)=decide (w / 2^k % 2=1))↔wordF (L.map (evl val))=w:=by
  have hg:∀k,k<L.length→(L.map (evl val)).getD k false=evl val (L.getD k 0):=by
   intro k hk
   rw [List.getD_eq_getElem?_getD,List.getD_eq_getElem?_getD,List.getElem?_map,List.getElem?_eq_getElem hk];rfl
  constructor
  ·intro q
   refine wordF_eq (by rw [List.length_map];exact hw) ?_
   intro k hk
   rw [List.length_map] at hk
   rw [hg k hk];exact q k hk
  ·intro q k hk
   rw [←hg k hk,wordF_bit _ _ (by rw [List.length_map];exact hk),q]
 rw [key] at h1
 by_cases q:wordF (L.map (evl val))=w
 ·rw [decide_eq_true q];exact h1.2 q
 ·rw [decide_eq_false q]
  cases h:evl val z
  ·rfl
  ·exact absurd (h1.1 h) q
end
def li (L:List Int) (k:Nat):Int:=L.getD k 0
def lii (C:List (List Int)) (a j:Nat):Int:=li (C.getD a []) j
theorem li_at {L:List Int} {k:Nat} (h:k<L.length):L[k]?=some (li L k)∧li L k∈L:=by
 have e:=List.getElem?_eq_getElem h
 have:li L k=L[k]:=by unfold li;rw [List.getD_eq_getElem?_getD,e];rfl
 rw [this];exact ⟨e,List.getElem_mem h⟩
theorem li_gt {L:List Int} {k:Nat} (h:k<L.length):gt (.int .i64) L (k:Int)=li L k:=gt_at (σ:=.int .i64) (li_at h).1
theorem row_at {C:List (List Int)} {a:Nat} (h:a<C.length):C[a]?=some (C.getD a [])∧C.getD a []∈C:=by
 have e:=List.getElem?_eq_getElem h
 have:C.getD a []=C[a]:=by rw [List.getD_eq_getElem?_getD,e];rfl
 rw [this];exact ⟨e,List.getElem_mem h⟩
theorem row_gt {C:List (List Int)} {a:Nat} (h:a<C.length):gt (.sl (.int .i64)) C (a:Int)=C.getD a []:=gt_at (σ:=.sl (.int .i64)) (row_at h).1
theorem li_snoc {L:List Int} {x:Int} {k:Nat}:li (L++[x]) k=if k<L.length then li L k else if k=L.length then x else 0:=by
 unfold li
 rw [List.getD_eq_getElem?_getD,List.getD_eq_getElem?_getD]
 by_cases h:k<L.length
 ·rw [if_pos h,List.getElem?_append_left h]
 ·rw [if_neg h,List.getElem?_append_right (by omega)]
  by_cases e:k=L.length
  ·rw [if_pos e,e,Nat.sub_self];rfl
  ·rw [if_neg e,List.getElem?_eq_none (by simp;omega)];rfl
theorem room8 {L:List Int} {x:Int} (h:L.length≤10000000):room 8 (List.length (L++(x :: [])))=true:=Zsm (by omega) (by omega)
structure HereSp (s t:Mk) (L:List Int) (k:Nat) (H:List Int):Prop where
 sp:Sp s t (k*L.length) []
 len:H.length=k
 ok:∀a,a<k→LitOk t.v (li H a)
 val:∀a,a<k→∀val,Sat val t.a→evl val (li H a)=decide (wordF (L.map (evl val))=a)
 clo:∀a,a<k→∀G,Clo G t.a→(∀x∈L,GL G x)→GL G (li H a)
structure OutSp (s t:Mk) (H:List Int) (C:List (List Int)) (j k:Nat) (z:Int):Prop where
 sp:Sp s t (2*k) []
 ok:LitOk t.v z
 val:∀val,Sat val t.a→(evl val z=true↔∃a,a<k∧evl val (li H a)=true∧evl val (lii C a j)=true)
 clo:∀G,Clo G t.a→(∀a,a<k→GL G (li H a)∧GL G (lii C a j))→GL G z
abbrev mkX {α:Type} (i:List Int) (l:List Za0.T) (o b c:List Int) (m:List Za1.T) (s:Mk) (r:α):Int×List Int×List Za0.T×List Int×List Int×List Int×List Za1.T×List Za0.T×α:=
 ((s.v:Int),(i,(l,(o,(b,(c,(m,(s.a.map andT,r))))))))
section
variable (i:List Int) (l:List Za0.T) (o b c:List Int) (m:List Za1.T) {s:Mk}
theorem rd_4 (p:Int) (C:List (List Int)) (L:List Int) (x0 x1:Int) (x2:Bool) (x3:List Zb3.T) (x4:List Zb8.T) (hC:C.length≤64) (hL:L.length≤64) (hp:C.length≤2^L.length) (hx:∀x∈L,LitOk s.v x)
  (hv:s.v+C.length*L.length≤100000) (ha:s.a.length+C.length*L.length≤100000) :
  ∃(t:Mk) (H:List Int),nexpand_expander__read_L4 (p,(C,(L,(((C.length:Nat):Int),((0:Int),mkX i l o b c m s (x0,(x1,(x2,(x3,(x4,([],())))))))))))
   = some (p,(C,mkX i l o b c m t (x0,(x1,(x2,(x3,(x4,(H,()))))))))∧HereSp s t L C.length H:=by
 have key:∃q,nexpand_expander__read_L4 (p,(C,(L,(((C.length:Nat):Int),((0:Int),mkX i l o b c m s (x0,(x1,(x2,(x3,(x4,([],())))))))))))=some q∧∃(t:Mk) (H:List Int),q=(p,(C,mkX i l o b c m t (x0,(x1,(x2,(x3,(x4,(H,()))))))))∧HereSp s t L C.length H:=by
  unfold nexpand_expander__read_L4;delta u19
  refine lp_ex C.length (fun k d=>∃(t:Mk) (H:List Int),d=(p,(C,(L,(((C.length:Nat):Int),((k:Int),mkX i l o b c m t (x0,(x1,(x2,(x3,(x4,(H,())))))))))))∧HereSp s t L k H) ?_ ?_
   ⟨s,[],rfl,(Sp.refl s).more (by omega),rfl,fun a h=>by omega,fun a h=>by omega,fun a h=>by omega⟩ (Ze8 (by omega))
  ·rintro k d hk ⟨t,H,rfl,A⟩
   have lo:=A.sp.lo
   have hi:=A.sp.hi
   have hlen:=A.sp.len
   have hkl:k*L.length+L.length≤C.length*L.length:=by
    have:=Nat.mul_le_mul_right L.length (show k+1≤C.length from hk)
    rw [Nat.succ_mul k] at this;exact this
   have hw:IntKind.wrap .u64 (k:Int)=(k:Int):=u64w (by omega)
   obtain ⟨z,t',e2,B⟩:=mis_is i l o b c m (s:=t) (L:=L) (w:=k) hL (by omega) (fun x h=>(hx x h).up lo) (by omega) (by simp at hlen;omega)
   have e2':nexpand_maker__is_FF (L,(IntKind.wrap .u64 (k:Int),mkT i l o b c m t))=some (z,mkT i l o b c m t'):=by rw [hw];exact e2
   have hk2:k<2^L.length:=by omega
   have ek:∀u v:Int,u=v→(some (.inl (p,(C,(L,(((C.length:Nat):Int),(u,mkX i l o b c m t' (x0,(x1,(x2,(x3,(x4,(H++[z],()))))))))))) ):Option (TL nexpand_expander__read_lay4.σs⊕Out nexpand_expander__read_outs4))=some (.inl (p,(C,(L,(((C.length:Nat):Int),(v,mkX i l o b c m t' (x0,(x1,(x2,(x3,(x4,(H++[z],())))))))))))):=by rintro _ _ rfl;rfl
   have hl:=A.len
   refine ⟨_,br_tt (dec_t (show (k:Int)<((C.length:Nat):Int) by omega)) (Zba e2' (Zaj (show room 8 (List.length (H++[z]))=true from room8 (by omega)) (ek _ _ (i64n (show (k:Int)+1=((k+1:Nat):Int) by omega) (by omega))))),t',H++[z],rfl,?_,?_,?_,?_,?_⟩
   ·exact (A.sp.trans B.sp).more (by rw [Nat.succ_mul k];omega)
   ·rw [List.length_append,hl];rfl
   ·intro a h
    rw [li_snoc,hl]
    by_cases q:a<k
    ·rw [if_pos q];exact (A.ok a q).up B.sp.lo
    ·rw [if_neg q,if_pos (by omega)];exact B.ok
   ·intro a h val hs
    rw [li_snoc,hl]
    by_cases q:a<k
    ·rw [if_pos q];exact A.val a q val (B.sp.sat hs)
    ·obtain rfl:a=k:=by omega
     rw [if_neg q,if_pos rfl];exact B.word hk2 val hs
   ·intro a h G hc hg
    rw [li_snoc,hl]
    by_cases q:a<k
    ·rw [if_pos q];exact A.clo a q G (B.sp.clo hc) hg
    ·rw [if_neg q,if_pos (by omega)];exact B.clo G hc hg
  ·rintro d ⟨t,H,rfl,A⟩
   exact ⟨_,br_ff (dec_f (show ¬((C.length:Nat):Int)<((C.length:Nat):Int) by omega)) rfl,t,H,rfl,A⟩
 obtain ⟨q,e,t,H,rfl,A⟩:=key
 exact ⟨t,H,e,A⟩
theorem rd_13 (C:List (List Int)) (H:List Int) (j:Nat) (v:Int) (D:List Int) (n:Int) (hC:C.length≤64) (hH:H.length=C.length) (hj:∀r∈C,j<r.length) (hx:∀r∈C,∀x∈r,LitOk s.v x) (hy:∀x∈H,LitOk s.v x)
  (hv:s.v+2*C.length≤100000) (ha:s.a.length+2*C.length≤100000) :
  ∃(t:Mk) (z:Int),nexpand_expander__read_L13 (C,((j:Int),(v,((0:Int),(D,(n,((j:Int),(C,(((C.length:Nat):Int),((0:Int),mkX i l o b c m s (H,())))))))))))
   = some (C,(v,(z,(D,(n,((j:Int),mkX i l o b c m t (H,())))))))∧OutSp s t H C j C.length z:=by
 have key:∃q,nexpand_expander__read_L13 (C,((j:Int),(v,((0:Int),(D,(n,((j:Int),(C,(((C.length:Nat):Int),((0:Int),mkX i l o b c m s (H,())))))))))))=some q∧∃(t:Mk) (z:Int),q=(C,(v,(z,(D,(n,((j:Int),mkX i l o b c m t (H,())))))))∧OutSp s t H C j C.length z:=by
  unfold nexpand_expander__read_L13;delta u19
  refine lp_ex C.length (fun k d=>∃(t:Mk) (z:Int),d=(C,((j:Int),(v,(z,(D,(n,((j:Int),(C,(((C.length:Nat):Int),((k:Int),mkX i l o b c m t (H,())))))))))))∧OutSp s t H C j k z) ?_ ?_
   ⟨s,0,rfl,(Sp.refl s).more (by omega),⟨by omega,by omega⟩,fun val _=>by rw [evl_0];exact ⟨fun h=>(by cases h),fun ⟨a,h,_⟩=>by omega⟩,fun G _ _=>.inl (by omega)⟩ (Ze8 (by omega))
  ·rintro k d hk ⟨t,z,rfl,A⟩
   have lo:=A.sp.lo
   have hi:=A.sp.hi
   have hlen:=A.sp.len
   have hlen:t.a.length≤s.a.length+2*k:=by simpa using hlen
   have hkH:k<H.length:=by omega
   have hr:=(row_at hk).2
   have hjr:=hj _ hr
   have gH:gt (.int .i64) H (k:Int)=li H k:=li_gt hkH
   have gC:gt (.int .i64) (gt (.sl (.int .i64)) C (k:Int)) (j:Int)=lii C k j:=by rw [row_gt hk];exact li_gt hjr
   have okH:=(hy _ (li_at hkH).2).up lo
   have okC:LitOk t.v (lii C k j):=(hx _ hr _ (li_at hjr).2).up lo
   obtain ⟨y,t1,e1,B⟩:=mand_is i l o b c m (s:=t) ⟨by omega,by omega⟩ okH okC
   have e1':nexpand_maker__and_FF (gt (.int .i64) H (k:Int),(gt (.int .i64) (gt (.sl (.int .i64)) C (k:Int)) (j:Int),mkT i l o b c m t))=some (y,mkT i l o b c m t1):=by rw [gH,gC];exact e1
   have lo1:=B.sp.lo
   have hi1:=B.sp.hi
   have hl1:t1.a.length≤t.a.length+1:=by simpa using B.sp.len
   obtain ⟨z',t2,e2,E⟩:=mor_is i l o b c m (s:=t1) ⟨by omega,by omega⟩ (A.ok.up lo1) B.ok
   have i1:inb (k:Int) (List.length C)=true:=Zar ⟨by omega,by omega⟩
   have i2:inb (k:Int) (List.length H)=true:=Zar ⟨by omega,by omega⟩
   have i3:inb (j:Int) (List.length (gt (.sl (.int .i64)) C (k:Int)))=true:=by rw [row_gt hk];exact Zar ⟨by omega,Int.ofNat_lt.2 hjr⟩
   have ek:∀u w:Int,u=w→(some (.inl (C,((j:Int),(v,(z',(D,(n,((j:Int),(C,(((C.length:Nat):Int),(u,mkX i l o b c m t2 (H,())))))))))))):Option (TL nexpand_expander__read_lay13.σs⊕Out nexpand_expander__read_outs13))=some (.inl (C,((j:Int),(v,(z',(D,(n,((j:Int),(C,(((C.length:Nat):Int),(w,mkX i l o b c m t2 (H,())))))))))))):=by rintro _ _ rfl;rfl
   refine ⟨_,br_tt (dec_t (show (k:Int)<((C.length:Nat):Int) by omega)) (Zaj i1 (Zaj i2 (Zaj i3 (Zba e1' (Zaj (dec_t rfl) (Zba e2 (ek _ _ (i64n (show (k:Int)+1=((k+1:Nat):Int) by omega) (by omega))))))))),t2,z',rfl,?_,E.ok,?_,?_⟩
   ·exact ((A.sp.trans B.sp).trans E.sp).more (by omega)
   ·intro val hs
    have s1:=E.sp.sat hs
    have s0:=B.sp.sat s1
    rw [E.val val hs]
    show (evl val z||evl val y)=true↔_
    rw [Bool.or_eq_true,A.val val s0,B.val val s1]
    show _∨(evl val (li H k)&&evl val (lii C k j))=true↔_
    rw [Bool.and_eq_true]
    constructor
    ·rintro (⟨a,h1,h2⟩ | h)
     ·exact ⟨a,by omega,h2⟩
     ·exact ⟨k,by omega,h⟩
    ·rintro ⟨a,h1,h2⟩
     by_cases q:a<k
     ·exact .inl ⟨a,q,h2⟩
     ·obtain rfl:a=k:=by omega
      exact .inr h2
   ·intro G hc hg
    have c1:=E.sp.clo hc
    exact E.clo G hc (A.clo G (B.sp.clo c1) (fun a h=>hg a (by omega))) (B.clo G c1 (hg k (by omega)).1 (hg k (by omega)).2)
  ·rintro d ⟨t,z,rfl,A⟩
   exact ⟨_,br_ff (dec_f (show ¬((C.length:Nat):Int)<((C.length:Nat):Int) by omega)) rfl,t,z,rfl,A⟩
 obtain ⟨q,e,t,z,rfl,A⟩:=key
 exact ⟨t,z,e,A⟩
structure BitsSp (s t:Mk) (H:List Int) (C:List (List Int)) (D:List Int) (k:Nat):Prop where
 sp:Sp s t (k*(2*C.length)) (D.take k)
 val:∀j,j<k→∀val,Sat val t.a→(val (li D j)=true↔∃a,a<C.length∧evl val (li H a)=true∧evl val (lii C a j)=true)
 clo:∀j,j<k→∀G,Clo G t.a→(∀a,a<C.length→GL G (li H a)∧GL G (lii C a j))→G (li D j)
theorem rd_9 (C:List (List Int)) (H D:List Int) (hC:C.length≤64) (hH:H.length=C.length) (hD:D.length≤64) (hj:∀r∈C,D.length≤r.length) (hx:∀r∈C,∀x∈r,LitOk s.v x) (hy:∀x∈H,LitOk s.v x)
  (hv:s.v+D.length*(2*C.length)≤100000) (ha:s.a.length+D.length*(2*C.length)+D.length≤100000) :
  ∃(t:Mk),nexpand_expander__read_L9 (C,(D,(((D.length:Nat):Int),((0:Int),mkX i l o b c m s (H,())))))=some (mkT i l o b c m t)∧BitsSp s t H C D D.length:=by
 have key:∃q,nexpand_expander__read_L9 (C,(D,(((D.length:Nat):Int),((0:Int),mkX i l o b c m s (H,())))))=some q∧∃(t:Mk),q=mkT i l o b c m t∧BitsSp s t H C D D.length:=by
  unfold nexpand_expander__read_L9;delta u13
  refine lp_ex D.length (fun k d=>∃(t:Mk),d=(C,(D,(((D.length:Nat):Int),((k:Int),mkX i l o b c m t (H,())))))∧BitsSp s t H C D k) ?_ ?_
   ⟨s,rfl,(Sp.refl s).more (Nat.zero_le _),fun j h=>absurd h (Nat.not_lt_zero j),fun j h=>absurd h (Nat.not_lt_zero j)⟩ (Ze8 (by omega))
  ·rintro k d hk ⟨t,rfl,A⟩
   have lo:=A.sp.lo
   have hi:=A.sp.hi
   have htk:(D.take k).length=k:=by rw [List.length_take];omega
   have hlen:t.a.length≤s.a.length+k+k*(2*C.length):=by have:=A.sp.len;rw [htk] at this;exact this
   have hkl:k*(2*C.length)+2*C.length≤D.length*(2*C.length):=by
    have:=Nat.mul_le_mul_right (2*C.length) (show k+1≤D.length from hk)
    rw [Nat.succ_mul k] at this;exact this
   obtain ⟨t1,z,e1,B⟩:=rd_13 i l o b c m (s:=t) C H k (li D k) D ((D.length:Nat):Int) hC hH (fun r h=>by have:=hj r h;omega) (fun r h x h2=>(hx r h x h2).up lo) (fun x h=>(hy x h).up lo) (by omega) (by omega)
   have g:gt (.int .i64) D (k:Int)=li D k:=li_gt hk
   have e1':nexpand_expander__read_L13 (C,((k:Int),(gt (.int .i64) D (k:Int),((0:Int),(D,(((D.length:Nat):Int),((k:Int),(C,(((C.length:Nat):Int),((0:Int),mkX i l o b c m t (H,())))))))))))=some (C,(li D k,(z,(D,(((D.length:Nat):Int),((k:Int),mkX i l o b c m t1 (H,()))))))):=by rw [g];exact e1
   have hl1:t1.a.length≤t.a.length+2*C.length:=by simpa using B.sp.len
   have e2:=mas_is i l o b c m (s:=t1) (by omega) (li D k) z z
   have i1:inb (k:Int) (List.length D)=true:=Zar ⟨by omega,by omega⟩
   have ek:∀u w:Int,u=w→(some (.inl (C,(D,(((D.length:Nat):Int),(u,mkX i l o b c m ⟨t1.v,t1.a++[⟨li D k,z,z⟩]⟩ (H,())))))):Option (TL nexpand_expander__read_lay9.σs⊕Out nexpand_expander__read_outs9))=some (.inl (C,(D,(((D.length:Nat):Int),(w,mkX i l o b c m ⟨t1.v,t1.a++[⟨li D k,z,z⟩]⟩ (H,())))))):=by rintro _ _ rfl;rfl
   have S2:Sp t1 ⟨t1.v,t1.a++[⟨li D k,z,z⟩]⟩ 0 [li D k]:=by
    refine ⟨Nat.le_refl _,Nat.le_refl _,[⟨li D k,z,z⟩],rfl,?_,?_⟩
    ·show [li D k].Perm ([li D k]++fr t1.v t1.v)
     rw [fr_same];exact List.Perm.refl _
    ·intro x hx
     obtain rfl:=List.mem_singleton.1 hx
     exact ⟨⟨B.ok,B.ok⟩,.inl (List.mem_singleton.2 rfl)⟩
   refine ⟨_,br_tt (dec_t (show (k:Int)<((D.length:Nat):Int) by omega)) (Zaj i1 (Zba e1' (Zba e2 (ek _ _ (i64n (show (k:Int)+1=((k+1:Nat):Int) by omega) (by omega)))))),⟨t1.v,t1.a++[⟨li D k,z,z⟩]⟩,rfl,?_,?_,?_⟩
   ·have:=(A.sp.trans B.sp).trans S2
    rw [List.append_nil,←Pl.Zd8 (li_at hk).1] at this
    exact this.more (by rw [Nat.succ_mul k];omega)
   ·intro j h val hs
    have s1:=S2.sat hs
    by_cases q:j<k
    ·exact A.val j q val (B.sp.sat s1)
    ·obtain rfl:j=k:=by omega
     have:=hs ⟨li D j,z,z⟩ (List.mem_append_right _ (List.mem_singleton.2 rfl))
     have this:val (li D j)=(evl val z&&evl val z):=this
     rw [this,Bool.and_self]
     exact B.val val s1
   ·intro j h G hc hg
    have c1:=S2.clo hc
    by_cases q:j<k
    ·exact A.clo j q G (B.sp.clo c1) hg
    ·obtain rfl:j=k:=by omega
     have gz:=B.clo G c1 hg
     exact hc ⟨li D j,z,z⟩ (List.mem_append_right _ (List.mem_singleton.2 rfl)) gz gz
  ·rintro d ⟨t,rfl,A⟩
   exact ⟨_,br_ff (dec_f (show ¬((D.length:Nat):Int)<((D.length:Nat):Int) by omega)) rfl,t,rfl,A⟩
 obtain ⟨q,e,t,rfl,A⟩:=key
 exact ⟨t,e,A⟩
end
end Go.Proofs.Ytnocaehijdmkkaa.V
end
