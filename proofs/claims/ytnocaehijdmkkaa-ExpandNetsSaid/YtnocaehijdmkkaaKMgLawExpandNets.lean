import Derived.Test.YtnocaehijdmkkaaKMgExpandNets00
import Derived.Test.YtnocaehijdmkkaaKBs
import Derived.Lib.SmallJoins
set_option linter.unusedSectionVars false
set_option linter.unusedVariables false
set_option linter.unusedSimpArgs false
set_option linter.unnecessarySimpa false
/- ExpandNets returns true for every input: ExpandNets returns true for every input: what a netlist is, expanded, or what is wrong. No condition.. No condition. -/
namespace Go.Proofs.Ytnocaehijdmkkaa.lawExpandNets
open Go.ChangeShapes Go.WideShapes Go.ChangeAt Go.RowKit Go.Deep
open Go.ChangeMaps (open_string shut_string)
theorem dat_true {w:World} {A:Nat→Prop} {V₁:Value} (h:V.Dat w A .bool true V₁):V₁=.bool true:=by
 obtain ⟨h1,h2⟩:=h
 have h1:V₁.cells.toList=[.bool true]:=h1
 have hv:V₁.cells=#[V₁]:=by cases V₁<;>first | rfl | cases h2
 rw [hv] at h1
 exact (List.cons.inj h1).1
set_option maxRecDepth 100000 in
theorem lifted (os:Os) (started:os.Started) (H:Type) (enc:TypeId×Value→H) :
  ReturnsInHanded {} Try.checked os 3 .any (Rows.expandNetsSpec.pre6 enc Try.prog Try.f3 Rows.expandNetsRow.domain false) (Rows.expandNetsSpec.post enc Try.prog Try.f3 false true false false):=by
 refine returnsInHanded_of_change (C:=Try.checked) own started (by kernel_rfl) Try.func3
  (ChangeSpec.witness6 (enc:=enc) (C:=Try.checked) false ⟨#[],#[.agg #[.int .i64 0,.slice none 0 0,.slice none 0 0,.slice none 0 0,.slice none 0 0,.slice none 0 0,.slice none 0 0,.slice none 0 0]],[]⟩ 8 (by kernel_rfl) (by kernel_rfl) (by kernel_rfl) (by kernel_rfl)) ?_
 intro W base args ds gs before hval0 hW hcnd _
 have hval:∀(j:Nat) t v,Try.f3.params[j]?=some t→args[j]?=some v→Value.okWide Try.prog W .any base t v:=hval0
 have hW':=hW
 obtain ⟨p,q,hA0,hV,rfl,hfz,hnd⟩:=hW
 have hA:DataW.TrodAll enc Try.prog W 0 (fun _=>true) true Try.f3.params.toList args.toList ds p:=hA0
 rw [Try.params3] at hA hval
 obtain ⟨v0,vs0,d0,ds0,p0,q0,hargs,rfl,rfl,h0,r0⟩:=trodAll_cons hA
 obtain ⟨rfl,rfl,rfl⟩:=trodAll_nil r0
 obtain rfl:args=#[v0]:=by cases args;simp_all
 obtain ⟨rfl,rfl⟩:=trodVars_none hV
 have k0:=h0
 have lt0:∀x∈p0,x.block<W.heap.size:=by obtain ⟨m,hm⟩:=k0;exact DataW.trod_lt m _ _ _ hm
 obtain ⟨x0,D0,K0⟩:=V.dat_of (k:=20) (σ:=V.Za5) (by kernel_rfl) (hval 0 27 v0 rfl rfl) h0
 clear hA0 hval0
 refine (V.astrariumlaw13_ExpandNets_K.ok.2 (x0,()) (true,()) (V.expandNets_is x0 K0) W (fun _=>False) [v0] (fun b h=>h.elim) ⟨v0,[],rfl,D0,rfl⟩).mono fun e W' h=>?_
 obtain ⟨vs,rfl,bel,V₁,r,rfl,hdat,hr⟩:=h
 have hr:r=[]:=hr
 subst hr
 have hb:V₁=.bool true:=dat_true hdat
 subst hb
 exact ⟨_,rfl,_,_,_,[],_,[],hW',trodAll_mk1 (shut_bool Try.underlying4 _),(trodAll_cons_mk (Below.trod laidOut (by kernel_rfl) (of_decide_eq_true (by kernel_rfl)) k0 bel lt0) trodAll_mk0),rfl,bel.frame _,fun h=>by cases h⟩
theorem o1:Try.pinned.checked.prog.funcNamed Rows.expandNetsRow.func=some 3:=by kernel_rfl
theorem o2:joinedFacts Try.pinned.checked.prog 3 Try.f3 Rows.expandNetsSpec Rows.expandNetsRow=true:=by kernel_rfl
theorem o3:decide (Func.isInstance Try.pinned.checked.prog Try.f3 Rows.expandNetsRow.origin Rows.expandNetsRow.targs)=true:=by kernel_rfl
theorem o4:Func.isWrapper Try.pinned.checked.prog Try.f3 Rows.expandNetsRow.wrapper Rows.expandNetsRow.mainSum:=by
 unfold Func.isWrapper;first | (rw [if_pos (by decide +kernel)];kernel_rfl) | (rw [if_neg (by decide +kernel)];exact ⟨rfl,rfl⟩)
theorem over:Rows.expandNetsRow.holds Try.pinned (OpenSpec.ofChange Rows.expandNetsSpec):=
 OpenClaim.holds_of_wide 3 Try.f3 rfl rfl rfl rfl rfl rfl rfl ⟨rfl,rfl,rfl,rfl,rfl⟩ rfl rfl rfl rfl rfl o1 Try.func3 o2
  (of_decide_eq_true o3) o4
  (fun os started H enc _=>lifted os started H enc)
theorem proved:Rows.ExpandNetsSaid:=over
end Go.Proofs.Ytnocaehijdmkkaa.lawExpandNets
