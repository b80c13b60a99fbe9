import Derived.Test.YtkcpdpplobhpaaaGreatWMgExpandRuns02
import Derived.Lib.SmallJoins
set_option linter.unusedSectionVars false
set_option linter.unusedVariables false
set_option linter.unusedSimpArgs false
set_option linter.unnecessarySimpa false
/- ExpandRuns returns true for every input: a netlist, expanded, has the same values of all variables that were there, cycle by cycle, from states that tell the same, and comes to such. No condition. -/
namespace Go.Proofs.YtkcpdpplobhpaaaGreat.lawExpandRuns
open Go.ChangeShapes Go.WideShapes Go.ChangeAt Go.RowKit Go.Deep
open Go.ChangeMaps (open_string shut_string)
theorem ae2{w:World}{A:Nat->Prop}{V₁:Value}(h:V.ju w A .bool true V₁):V₁=.bool true:=by
 obtain⟨h1,h2⟩:=h;have h1:V₁.cells.toList=[.bool true]:=h1;have hv:V₁.cells=#[V₁]:=by cases V₁<;>first|rfl|cases h2
 rw[hv]at h1;exact(List.cons.inj h1).1
set_option maxRecDepth 100000 in
theorem lifted(os:Os)(started:os.Started)(H:Type)(enc:TypeId×Value->H) :
  ReturnsInHanded {} Tryz.checked os 7 .any (Rows.expandRunsSpec.pre6 enc Tryz.prog Tryz.f7 Rows.expandRunsRow.domain false) (Rows.expandRunsSpec.post enc Tryz.prog Tryz.f7 false true false false):=by
 refine returnsInHanded_of_change (C:=Tryz.checked) own started (by kernel_rfl) Tryz.func7
  (ChangeSpec.witness6 (enc:=enc) (C:=Tryz.checked) false ⟨#[],#[.agg #[.int .i64 0,.slice none 0 0,.slice none 0 0,.slice none 0 0,.slice none 0 0,.slice none 0 0,.slice none 0 0,.slice none 0 0],.agg #[.slice none 0 0,.slice none 0 0],.slice none 0 0],[]⟩ 8 (by kernel_rfl) (by kernel_rfl) (by kernel_rfl) (by kernel_rfl)) ?_
 intro W base args ds gs before hval0 hW hcnd _;have hval:∀(j:Nat) t v,Tryz.f7.params[j]?=some t->args[j]?=some v->Value.okWide Tryz.prog W .any base t v:=hval0;have hW':=hW;obtain⟨p,q,hA0,hV,rfl,hfz,hnd⟩:=hW;have hA:DataW.TrodAll enc Tryz.prog W 0 (fun _=>true) true Tryz.f7.params.toList args.toList ds p:=hA0;rw[Tryz.params7]at hA hval;obtain⟨v0,vs0,d0,ds0,p0,q0,hargs,rfl,rfl,h0,r0⟩:=trodAll_cons hA;obtain⟨v1,vs1,d1,ds1,p1,q1,rfl,rfl,rfl,h1,r1⟩:=trodAll_cons r0;obtain⟨v2,vs2,d2,ds2,p2,q2,rfl,rfl,rfl,h2,r2⟩:=trodAll_cons r1;obtain⟨rfl,rfl,rfl⟩:=trodAll_nil r2;obtain rfl:args=#[v0,v1,v2]:=by cases args;simp_all
 obtain⟨rfl,rfl⟩:=trodVars_none hV;have k0:=h0;have lt0:∀x∈p0,x.block<W.heap.size:=by obtain⟨m,hm⟩:=k0;exact DataW.trod_lt m _ _ _ hm
 obtain⟨x0,D0,K0⟩:=V.Jc (k:=20) (σ:=V.ca) (by kernel_rfl) (hval 0 27 v0 rfl rfl) h0;have k1:=h1;have lt1:∀x∈p1,x.block<W.heap.size:=by obtain⟨m,hm⟩:=k1;exact DataW.trod_lt m _ _ _ hm
 obtain⟨x1,D1,K1⟩:=V.Jc (k:=20) (σ:=V.gK) (by kernel_rfl) (hval 1 40 v1 rfl rfl) h1;have k2:=h2;have lt2:∀x∈p2,x.block<W.heap.size:=by obtain⟨m,hm⟩:=k2;exact DataW.trod_lt m _ _ _ hm
 obtain⟨x2,D2,K2⟩:=V.Jc (k:=20) (σ:=(.sl (.sl .bool))) (by kernel_rfl) (hval 2 48 v2 rfl rfl) h2;clear hA0 hval0;refine(V.Rr.ok.2 (x0,(x1,(x2,()))) (true,()) (V.adD x0 x1 x2 K0 K1 K2) W (fun _=>False) [v0,v1,v2] (fun b h=>h.elim) ⟨v0,[v1,v2],rfl,D0,v1,[v2],rfl,D1,v2,[],rfl,D2,rfl⟩).mono fun e W' h=>?_;obtain⟨vs,rfl,bel,V₁,r,rfl,hdat,hr⟩:=h;have hr:r=[]:=hr;subst hr;have hb:V₁=.bool true:=ae2 hdat;subst hb;exact⟨_,rfl,_,_,_,[],_,[],hW',trodAll_mk1 (shut_bool Tryz.underlying4 _),(trodAll_cons_mk (Below.trod laidOut (by kernel_rfl) (of_decide_eq_true (by kernel_rfl)) k0 bel lt0) (trodAll_cons_mk (Below.trod laidOut (by kernel_rfl) (of_decide_eq_true (by kernel_rfl)) k1 bel lt1) (trodAll_cons_mk (Below.trod laidOut (by kernel_rfl) (of_decide_eq_true (by kernel_rfl)) k2 bel lt2) trodAll_mk0))),rfl,bel.frame _,fun h=>by cases h⟩
theorem o1:Tryz.pinned.checked.prog.funcNamed Rows.expandRunsRow.func=some 7:=by kernel_rfl
theorem o2:joinedFacts Tryz.pinned.checked.prog 7 Tryz.f7 Rows.expandRunsSpec Rows.expandRunsRow=true:=by kernel_rfl
theorem o3:decide (Func.isInstance Tryz.pinned.checked.prog Tryz.f7 Rows.expandRunsRow.origin Rows.expandRunsRow.targs)=true:=by kernel_rfl
theorem o4:Func.isWrapper Tryz.pinned.checked.prog Tryz.f7 Rows.expandRunsRow.wrapper Rows.expandRunsRow.mainSum:=by unfold Func.isWrapper;first|(rw[if_pos (by decide +kernel)];kernel_rfl)|(rw[if_neg (by decide +kernel)];exact⟨rfl,rfl⟩)
theorem over:Rows.expandRunsRow.holds Tryz.pinned (OpenSpec.ofChange Rows.expandRunsSpec):=
 OpenClaim.holds_of_wide 7 Tryz.f7 rfl rfl rfl rfl rfl rfl rfl ⟨rfl,rfl,rfl,rfl,rfl⟩ rfl rfl rfl rfl rfl o1 Tryz.func7 o2
  (of_decide_eq_true o3) o4
  (fun os started H enc _=>lifted os started H enc)
theorem proved:Rows.ExpandRunsSaid:=over
