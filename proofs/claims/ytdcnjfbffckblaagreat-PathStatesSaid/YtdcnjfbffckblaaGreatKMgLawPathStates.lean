import Derived.Test.YtdcnjfbffckblaaGreatKMgPathStates00
import Derived.Lib.SmallJoins
set_option linter.unusedSectionVars false
set_option linter.unusedVariables false
set_option linter.unusedSimpArgs false
set_option linter.unnecessarySimpa false
/- PathStates returns true for every input: in a run of a machine two cycles that may not differ have the same state. No condition. -/
namespace Go.Proofs.YtdcnjfbffckblaaGreat.lawPathStates
open Go.ChangeShapes Go.WideShapes Go.ChangeAt Go.RowKit Go.Deep
open Go.ChangeMaps (open_string shut_string)
theorem SU{w:World}{A:Nat->Prop}{V₁:Value}(h:V.fG w A .bool true V₁):V₁=.bool true:=by
 obtain⟨h1,h2⟩:=h;have h1:V₁.cells.toList=[.bool true]:=h1;have hv:V₁.cells=#[V₁]:=by cases V₁<;>first|rfl|cases h2
 rw[hv]at h1;exact(List.cons.inj h1).1
set_option maxRecDepth 100000 in
theorem lifted(os:Os)(started:os.Started)(H:Type)(enc:TypeId×Value->H) :
  ReturnsInHanded {} Tryz.checked os 3 .any (Rows.pathStatesSpec.pre6 enc Tryz.prog Tryz.f3 Rows.pathStatesRow.domain false) (Rows.pathStatesSpec.post enc Tryz.prog Tryz.f3 false true false false):=by
 refine returnsInHanded_of_change (C:=Tryz.checked) own started (by kernel_rfl) Tryz.func3
  (ChangeSpec.witness6 (enc:=enc) (C:=Tryz.checked) false ⟨#[],#[.agg #[.int .i64 0,.slice none 0 0,.slice none 0 0,.slice none 0 0,.slice none 0 0,.slice none 0 0,.slice none 0 0,.slice none 0 0],.agg #[.slice none 0 0,.slice none 0 0],.slice none 0 0,.int .i64 0,.int .i64 0],[]⟩ 8 (by kernel_rfl) (by kernel_rfl) (by kernel_rfl) (by kernel_rfl)) ?_
 intro W base args ds gs before hval0 hW hcnd _;have hval:∀(j:Nat) t v,Tryz.f3.params[j]?=some t->args[j]?=some v->Value.okWide Tryz.prog W .any base t v:=hval0;have hW':=hW;obtain⟨p,q,hA0,hV,rfl,hfz,hnd⟩:=hW;have hA:DataW.TrodAll enc Tryz.prog W 0 (fun _=>true) true Tryz.f3.params.toList args.toList ds p:=hA0;rw[Tryz.params3]at hA hval;obtain⟨v0,vs0,d0,ds0,p0,q0,hargs,rfl,rfl,h0,r0⟩:=trodAll_cons hA;obtain⟨v1,vs1,d1,ds1,p1,q1,rfl,rfl,rfl,h1,r1⟩:=trodAll_cons r0;obtain⟨v2,vs2,d2,ds2,p2,q2,rfl,rfl,rfl,h2,r2⟩:=trodAll_cons r1;obtain⟨v3,vs3,d3,ds3,p3,q3,rfl,rfl,rfl,h3,r3⟩:=trodAll_cons r2;obtain⟨v4,vs4,d4,ds4,p4,q4,rfl,rfl,rfl,h4,r4⟩:=trodAll_cons r3;obtain⟨rfl,rfl,rfl⟩:=trodAll_nil r4;obtain rfl:args=#[v0,v1,v2,v3,v4]:=by cases args;simp_all
 obtain⟨rfl,rfl⟩:=trodVars_none hV;have k0:=h0;have lt0:∀x∈p0,x.block<W.heap.size:=by obtain⟨m,hm⟩:=k0;exact DataW.trod_lt m _ _ _ hm
 obtain⟨x0,D0,K0⟩:=V.qe (k:=20) (σ:=V.bE) (by kernel_rfl) (hval 0 27 v0 rfl rfl) h0;have k1:=h1;have lt1:∀x∈p1,x.block<W.heap.size:=by obtain⟨m,hm⟩:=k1;exact DataW.trod_lt m _ _ _ hm
 obtain⟨x1,D1,K1⟩:=V.qe (k:=20) (σ:=V.cj) (by kernel_rfl) (hval 1 31 v1 rfl rfl) h1;have k2:=h2;have lt2:∀x∈p2,x.block<W.heap.size:=by obtain⟨m,hm⟩:=k2;exact DataW.trod_lt m _ _ _ hm
 obtain⟨x2,D2,K2⟩:=V.qe (k:=20) (σ:=(.sl (.sl .bool))) (by kernel_rfl) (hval 2 32 v2 rfl rfl) h2;have k3:=h3;have lt3:∀x∈p3,x.block<W.heap.size:=by obtain⟨m,hm⟩:=k3;exact DataW.trod_lt m _ _ _ hm
 obtain⟨x3,D3,K3⟩:=V.qe (k:=20) (σ:=(.int .i64)) (by kernel_rfl) (hval 3 3 v3 rfl rfl) h3;have k4:=h4;have lt4:∀x∈p4,x.block<W.heap.size:=by obtain⟨m,hm⟩:=k4;exact DataW.trod_lt m _ _ _ hm
 obtain⟨x4,D4,K4⟩:=V.qe (k:=20) (σ:=(.int .i64)) (by kernel_rfl) (hval 4 3 v4 rfl rfl) h4;clear hA0 hval0;refine(V.Ic.ok.2 (x0,(x1,(x2,(x3,(x4,()))))) (true,()) (V.Su x0 x1 x2 x3 x4 K0 K1 K2 K3 K4) W (fun _=>False) [v0,v1,v2,v3,v4] (fun b h=>h.elim) ⟨v0,[v1,v2,v3,v4],rfl,D0,v1,[v2,v3,v4],rfl,D1,v2,[v3,v4],rfl,D2,v3,[v4],rfl,D3,v4,[],rfl,D4,rfl⟩).mono fun e W' h=>?_;obtain⟨vs,rfl,bel,V₁,r,rfl,hdat,hr⟩:=h;have hr:r=[]:=hr;subst hr;have hb:V₁=.bool true:=SU hdat;subst hb;exact⟨_,rfl,_,_,_,[],_,[],hW',trodAll_mk1 (shut_bool Tryz.underlying4 _),(trodAll_cons_mk (Below.trod laidOut (by kernel_rfl) (of_decide_eq_true (by kernel_rfl)) k0 bel lt0) (trodAll_cons_mk (Below.trod laidOut (by kernel_rfl) (of_decide_eq_true (by kernel_rfl)) k1 bel lt1) (trodAll_cons_mk (Below.trod laidOut (by kernel_rfl) (of_decide_eq_true (by kernel_rfl)) k2 bel lt2) (trodAll_cons_mk (Below.trod laidOut (by kernel_rfl) (of_decide_eq_true (by kernel_rfl)) k3 bel lt3) (trodAll_cons_mk (Below.trod laidOut (by kernel_rfl) (of_decide_eq_true (by kernel_rfl)) k4 bel lt4) trodAll_mk0))))),rfl,bel.frame _,fun h=>by cases h⟩
theorem o1:Tryz.pinned.checked.prog.funcNamed Rows.pathStatesRow.func=some 3:=by kernel_rfl
theorem du{a b:Bool}(h:a=true)(k:b=true):(a&&b)=true:=by rw[h,k];rfl
theorem o2_1:(Rows.pathStatesRow.wf (OpenSpec.ofChange Rows.pathStatesSpec))=true:=by kernel_rfl
theorem o2_2:(laidOutB Tryz.pinned.checked.prog)=true:=by kernel_rfl
theorem o2_3:(mapsRowed Tryz.pinned.checked.prog)=true:=by kernel_rfl
theorem o2_4:(Tryz.f3.params.all (Tryz.pinned.checked.prog.readableRec ·))=true:=by kernel_rfl
theorem o2_5:(namedTie Tryz.pinned.checked.prog Rows.pathStatesRow.named Rows.pathStatesSpec.vars)=true:=by kernel_rfl
theorem o2_6:((Rows.pathStatesRow.stops == []))=true:=by kernel_rfl
theorem o2_7:((Tryz.pinned.checked.prog.stops == []))=true:=by kernel_rfl
theorem o2_8:((Rows.pathStatesRow.knobs == []))=true:=by kernel_rfl
theorem o2_9:((Tryz.pinned.checked.prog.stopKnobs == []))=true:=by kernel_rfl
theorem o2_10:((Rows.pathStatesRow.inPlace == Tryz.pinned.checked.prog.inPlace 3))=true:=by kernel_rfl
theorem o2_11:((Rows.pathStatesRow.unfollowed == Tryz.pinned.checked.prog.unfollowed 3))=true:=by kernel_rfl
theorem o2_12:((Rows.pathStatesRow.recurses == Tryz.pinned.checked.prog.recurses 3))=true:=by kernel_rfl
theorem o2_13:((Rows.pathStatesRow.named == Tryz.pinned.checked.prog.varsNamed 3))=true:=by kernel_rfl
theorem o2_14:((Rows.pathStatesRow.maps == (Tryz.f3.params.toList++Rows.pathStatesSpec.plain.varTypes Tryz.pinned.checked.prog).any (Tryz.pinned.checked.prog.mapsRec ·)))=true:=by kernel_rfl
theorem o2_15:((Rows.pathStatesRow.ifaces == (Tryz.f3.params.toList++Rows.pathStatesSpec.plain.varTypes Tryz.pinned.checked.prog).any (Tryz.pinned.checked.prog.ifacesRec ·)))=true:=by kernel_rfl
theorem o2_16:((Rows.pathStatesRow.mapsOut == Tryz.pinned.checked.prog.mapsAmong Tryz.f3.resultTypes.toList))=true:=by kernel_rfl
theorem o2_17:((Rows.pathStatesRow.loops == (Tryz.f3.params.toList++Rows.pathStatesSpec.plain.varTypes Tryz.pinned.checked.prog).any (Tryz.pinned.checked.prog.loopsFrom ·)))=true:=by kernel_rfl
theorem o2_18:((Rows.pathStatesRow.wideKeys == (Tryz.f3.params.toList++Rows.pathStatesSpec.plain.varTypes Tryz.pinned.checked.prog++Tryz.f3.resultTypes.toList).any (Tryz.pinned.checked.prog.wideKeysFrom ·)))=true:=by kernel_rfl
theorem o2_19:(Rows.pathStatesSpec.vars.all (Tryz.pinned.checked.prog.varReadable ·))=true:=by kernel_rfl
theorem o2_20:(Tryz.f3.resultTypes.all (fun t=>Tryz.pinned.checked.prog.readableRec t&&decide (t<Tryz.pinned.checked.prog.types.size)))=true:=by kernel_rfl
theorem o2_21:((Rows.pathStatesRow.ifacesOut == Tryz.f3.resultTypes.toList.any (Tryz.pinned.checked.prog.ifacesRec ·)))=true:=by kernel_rfl
theorem o2_22:((Rows.pathStatesRow.loopsOut == Tryz.f3.resultTypes.toList.any (Tryz.pinned.checked.prog.loopsFrom ·)))=true:=by kernel_rfl
theorem o2_23:((Rows.pathStatesRow.plainKeys == Tryz.pinned.checked.prog.plainKeys))=true:=by kernel_rfl
theorem o2_24:(Rows.pathStatesRow.shortTexts.isNone)=true:=by kernel_rfl
theorem o2_25:(Tryz.pinned.checked.prog.stopsHeard)=true:=by kernel_rfl
theorem o2_26:(Tryz.pinned.checked.prog.mayEnter)=true:=by kernel_rfl
theorem o2_27:((Rows.pathStatesRow.lifted == Tryz.pinned.checked.prog.liftsFinal))=true:=by kernel_rfl
theorem o2_28:((Tryz.pinned.checked.prog.make == some Rows.pathStatesRow.make))=true:=by kernel_rfl
theorem o2_29:((Rows.pathStatesRow.kinds == (if Rows.pathStatesRow.domain.isEmpty then[]else Tryz.f3.params.toList.map fun t=>match Tryz.pinned.checked.prog.underlying t with|some (.int k)=>some k|_=>none)))=true:=by kernel_rfl
theorem o2_30:((Rows.pathStatesRow.pinned == Rows.pathStatesRow.pinnedBy))=true:=by kernel_rfl
theorem o2_31:((Rows.pathStatesRow.veiled == (Tryz.f3.params.toList++Rows.pathStatesSpec.plain.varTypes Tryz.pinned.checked.prog++Tryz.f3.resultTypes.toList).any (Tryz.pinned.checked.prog.veiledRec ·)))=true:=by kernel_rfl
theorem o2_32:(Rows.pathStatesRow.veiledFits Tryz.pinned.checked.prog Tryz.f3.params.toList (Tryz.f3.params.toList++Rows.pathStatesSpec.plain.varTypes Tryz.pinned.checked.prog++Tryz.f3.resultTypes.toList))=true:=by kernel_rfl
set_option maxRecDepth 100000 in
theorem o2:joinedFacts Tryz.pinned.checked.prog 3 Tryz.f3 Rows.pathStatesSpec Rows.pathStatesRow=true:=by unfold joinedFacts;exact du (du (du (du (du (du (du (du (du (du (du (du (du (du (du (du (du (du (du (du (du (du (du (du (du (du (du (du (du (du (du o2_1 o2_2) o2_3) o2_4) o2_5) o2_6) o2_7) o2_8) o2_9) o2_10) o2_11) o2_12) o2_13) o2_14) o2_15) o2_16) o2_17) o2_18) o2_19) o2_20) o2_21) o2_22) o2_23) o2_24) o2_25) o2_26) o2_27) o2_28) o2_29) o2_30) o2_31) o2_32
theorem o3:decide (Func.isInstance Tryz.pinned.checked.prog Tryz.f3 Rows.pathStatesRow.origin Rows.pathStatesRow.targs)=true:=by kernel_rfl
theorem o4:Func.isWrapper Tryz.pinned.checked.prog Tryz.f3 Rows.pathStatesRow.wrapper Rows.pathStatesRow.mainSum:=by unfold Func.isWrapper;first|(rw[if_pos (by decide +kernel)];kernel_rfl)|(rw[if_neg (by decide +kernel)];exact⟨rfl,rfl⟩)
theorem over:Rows.pathStatesRow.holds Tryz.pinned (OpenSpec.ofChange Rows.pathStatesSpec):=
 OpenClaim.holds_of_wide 3 Tryz.f3 rfl rfl rfl rfl rfl rfl rfl ⟨rfl,rfl,rfl,rfl,rfl⟩ rfl rfl rfl rfl rfl o1 Tryz.func3 o2
  (of_decide_eq_true o3) o4
  (fun os started H enc _=>lifted os started H enc)
theorem proved:Rows.PathStatesSaid:=over
