import Derived.Test.YtnocaehijdmkkaaKMgExpandLegals00
import Derived.Test.YtnocaehijdmkkaaKBs
import Derived.Lib.SmallJoins
set_option linter.unusedSectionVars false
set_option linter.unusedVariables false
set_option linter.unusedSimpArgs false
set_option linter.unnecessarySimpa false
/- ExpandLegals returns true for every input: ExpandLegals returns true for every input: a state is legal just if it is, expanded. No condition.. No condition. -/
namespace Go.Proofs.Ytnocaehijdmkkaa.lawExpandLegals
open Go.ChangeShapes Go.WideShapes Go.ChangeAt Go.RowKit Go.Deep
open Go.ChangeMaps (open_string shut_string)
theorem dat_true {w:World} {A:Nat→Prop} {V₁:Value} (h:V.Dat w A .bool true V₁):V₁=.bool true:=by
 obtain ⟨h1,h2⟩:=h
 have h1:V₁.cells.toList=[.bool true]:=h1
 have hv:V₁.cells=#[V₁]:=by cases V₁<;>first | rfl | cases h2
 rw [hv] at h1
 exact (List.cons.inj h1).1
set_option maxRecDepth 100000 in
theorem lifted (os:Os) (started:os.Started) (H:Type) (enc:TypeId×Value→H) :
  ReturnsInHanded {} Try.checked os 4 .any (Rows.expandLegalsSpec.pre6 enc Try.prog Try.f4 Rows.expandLegalsRow.domain false) (Rows.expandLegalsSpec.post enc Try.prog Try.f4 false true false false):=by
 refine returnsInHanded_of_change (C:=Try.checked) own started (by kernel_rfl) Try.func4
  (ChangeSpec.witness6 (enc:=enc) (C:=Try.checked) false ⟨#[],#[.agg #[.int .i64 0,.slice none 0 0,.slice none 0 0,.slice none 0 0,.slice none 0 0,.slice none 0 0,.slice none 0 0,.slice none 0 0],.agg #[.slice none 0 0,.slice none 0 0]],[]⟩ 8 (by kernel_rfl) (by kernel_rfl) (by kernel_rfl) (by kernel_rfl)) ?_
 intro W base args ds gs before hval0 hW hcnd _
 have hval:∀(j:Nat) t v,Try.f4.params[j]?=some t→args[j]?=some v→Value.okWide Try.prog W .any base t v:=hval0
 have hW':=hW
 obtain ⟨p,q,hA0,hV,rfl,hfz,hnd⟩:=hW
 have hA:DataW.TrodAll enc Try.prog W 0 (fun _=>true) true Try.f4.params.toList args.toList ds p:=hA0
 rw [Try.params4] at hA hval
 obtain ⟨v0,vs0,d0,ds0,p0,q0,hargs,rfl,rfl,h0,r0⟩:=trodAll_cons hA
 obtain ⟨v1,vs1,d1,ds1,p1,q1,rfl,rfl,rfl,h1,r1⟩:=trodAll_cons r0
 obtain ⟨rfl,rfl,rfl⟩:=trodAll_nil r1
 obtain rfl:args=#[v0,v1]:=by cases args;simp_all
 obtain ⟨rfl,rfl⟩:=trodVars_none hV
 have k0:=h0
 have lt0:∀x∈p0,x.block<W.heap.size:=by obtain ⟨m,hm⟩:=k0;exact DataW.trod_lt m _ _ _ hm
 obtain ⟨x0,D0,K0⟩:=V.dat_of (k:=20) (σ:=V.Za5) (by kernel_rfl) (hval 0 27 v0 rfl rfl) h0
 have k1:=h1
 have lt1:∀x∈p1,x.block<W.heap.size:=by obtain ⟨m,hm⟩:=k1;exact DataW.trod_lt m _ _ _ hm
 obtain ⟨x1,D1,K1⟩:=V.dat_of (k:=20) (σ:=V.Zab) (by kernel_rfl) (hval 1 39 v1 rfl rfl) h1
 clear hA0 hval0
 refine (V.astrariumlaw13_ExpandLegals_K.ok.2 (x0,(x1,())) (true,()) (V.expandLegals_is x0 x1 K0 K1) W (fun _=>False) [v0,v1] (fun b h=>h.elim) ⟨v0,[v1],rfl,D0,v1,[],rfl,D1,rfl⟩).mono fun e W' h=>?_
 obtain ⟨vs,rfl,bel,V₁,r,rfl,hdat,hr⟩:=h
 have hr:r=[]:=hr
 subst hr
 have hb:V₁=.bool true:=dat_true hdat
 subst hb
 exact ⟨_,rfl,_,_,_,[],_,[],hW',trodAll_mk1 (shut_bool Try.underlying4 _),(trodAll_cons_mk (Below.trod laidOut (by kernel_rfl) (of_decide_eq_true (by kernel_rfl)) k0 bel lt0) (trodAll_cons_mk (Below.trod laidOut (by kernel_rfl) (of_decide_eq_true (by kernel_rfl)) k1 bel lt1) trodAll_mk0)),rfl,bel.frame _,fun h=>by cases h⟩
theorem o1:Try.pinned.checked.prog.funcNamed Rows.expandLegalsRow.func=some 4:=by kernel_rfl
theorem o2:joinedFacts Try.pinned.checked.prog 4 Try.f4 Rows.expandLegalsSpec Rows.expandLegalsRow=true:=by kernel_rfl
theorem o3:decide (Func.isInstance Try.pinned.checked.prog Try.f4 Rows.expandLegalsRow.origin Rows.expandLegalsRow.targs)=true:=by kernel_rfl
theorem o4:Func.isWrapper Try.pinned.checked.prog Try.f4 Rows.expandLegalsRow.wrapper Rows.expandLegalsRow.mainSum:=by
 unfold Func.isWrapper;first | (rw [if_pos (by decide +kernel)];kernel_rfl) | (rw [if_neg (by decide +kernel)];exact ⟨rfl,rfl⟩)
theorem over:Rows.expandLegalsRow.holds Try.pinned (OpenSpec.ofChange Rows.expandLegalsSpec):=
 OpenClaim.holds_of_wide 4 Try.f4 rfl rfl rfl rfl rfl rfl rfl ⟨rfl,rfl,rfl,rfl,rfl⟩ rfl rfl rfl rfl rfl o1 Try.func4 o2
  (of_decide_eq_true o3) o4
  (fun os started H enc _=>lifted os started H enc)
theorem proved:Rows.ExpandLegalsSaid:=over
end Go.Proofs.Ytnocaehijdmkkaa.lawExpandLegals
