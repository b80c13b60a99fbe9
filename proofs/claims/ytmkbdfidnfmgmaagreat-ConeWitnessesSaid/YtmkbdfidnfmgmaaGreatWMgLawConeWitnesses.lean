import Derived.Test.YtmkbdfidnfmgmaaGreatWMgConeWitnesses01
import Derived.Lib.SmallJoins
set_option linter.all false
/- ConeWitnesses returns true for every input: a witness of a cone, lifted, is one of the netlist. No condition. -/
namespace Go.Proofs.YtmkbdfidnfmgmaaGreat.lawConeWitnesses
open Go.ChangeShapes Go.WideShapes Go.ChangeAt Go.RowKit Go.Deep
open Go.ChangeMaps (open_string shut_string)
theorem aiw{w:World}{A:Nat->Prop}{auF:Value}(h:V.iz w A .bool true auF):auF=.bool true:=by
 obtain⟨h1,h2⟩:=h;have h1:auF.cells.toList=[.bool true]:=h1;have hv:auF.cells=#[auF]:=by cases auF<;>first|rfl|cases h2
 rw[hv]at h1;exact(List.cons.inj h1).1
set_option maxRecDepth 100000 in
theorem lifted(os:Os)(started:os.Started)(H:Type)(enc:TypeId×Value->H) :
  ReturnsInHanded {} Tryz.checked os 6 .any (Rows.coneWitnessesSpec.pre6 enc Tryz.prog Tryz.f6 Rows.coneWitnessesRow.domain false) (Rows.coneWitnessesSpec.post enc Tryz.prog Tryz.f6 false true false false):=by
 refine returnsInHanded_of_change (C:=Tryz.checked) own started atP Tryz.func6
  (ChangeSpec.witness6 (enc:=enc) (C:=Tryz.checked) false ⟨#[],#[.agg #[.int .i64 0,.slice none 0 0,.slice none 0 0,.slice none 0 0,.slice none 0 0,.slice none 0 0,.slice none 0 0,.slice none 0 0],.agg #[.slice none 0 0,.slice none 0 0,.slice none 0 0,.int .i64 0]],[]⟩ 8 atP atP atP atP) ?_
 intro W base args ds gs before hval0 hW hcnd _;have hval:∀(j:Nat) t v,Tryz.f6.params[j]?=some t->args[j]?=some v->Value.okWide Tryz.prog W .any base t v:=hval0;have hW':=hW;obtain⟨p,q,hA0,hV,rfl,hfz,hnd⟩:=hW;have hA:DataW.TrodAll enc Tryz.prog W 0 (fun _=>true) true Tryz.f6.params.toList args.toList ds p:=hA0;rw[Tryz.params6]at hA hval;obtain⟨v0,vs0,d0,ds0,p0,q0,hargs,rfl,rfl,h0,r0⟩:=trodAll_cons hA;obtain⟨v1,vs1,d1,ds1,p1,q1,rfl,rfl,rfl,h1,r1⟩:=trodAll_cons r0;obtain⟨rfl,rfl,rfl⟩:=trodAll_nil r1;obtain rfl:args=#[v0,v1]:=by cases args;simp_all
 obtain⟨rfl,rfl⟩:=trodVars_none hV;have k0:=h0;have lt0:∀x∈p0,x.block<W.heap.size:=by obtain⟨m,hm⟩:=k0;exact DataW.trod_lt m _ _ _ hm
 obtain⟨x0,D0,K0⟩:=V.YP (k:=20) (σ:=V.cA) atP (hval 0 27 v0 rfl rfl) h0;have k1:=h1;have lt1:∀x∈p1,x.block<W.heap.size:=by obtain⟨m,hm⟩:=k1;exact DataW.trod_lt m _ _ _ hm
 obtain⟨x1,D1,K1⟩:=V.YP (k:=20) (σ:=V.nm) atP (hval 1 55 v1 rfl rfl) h1;clear hA0 hval0;refine(V.UM.ok.2 (x0,x1,()) (true,()) (V.ahH x0 x1 K0 K1) W (fun _=>False) [v0,v1] (fun b h=>h.elim) ⟨v0,[v1],rfl,D0,v1,[],rfl,D1,rfl⟩).mono fun e W' h=>?_;obtain⟨vs,rfl,bel,auF,r,rfl,hdat,hr⟩:=h;have hr:r=[]:=hr;subst hr;have hb:auF=.bool true:=aiw hdat;subst hb;exact⟨_,rfl,_,_,_,[],_,[],hW',trodAll_mk1 (shut_bool Tryz.underlying4 _),(trodAll_cons_mk (Below.trod laidOut atP (aig atP) k0 bel lt0) (trodAll_cons_mk (Below.trod laidOut atP (aig atP) k1 bel lt1) trodAll_mk0)),rfl,bel.frame _,fun h=>by cases h⟩
theorem o1:Tryz.pinned.checked.prog.funcNamed Rows.coneWitnessesRow.func=some 6:=atP
theorem gj{a b:Bool}(h:a=true)(k:b=true):(a&&b)=true:=by rw[h,k];rfl
theorem o2_1:(Rows.coneWitnessesRow.wf (OpenSpec.ofChange Rows.coneWitnessesSpec))=true:=atP
theorem o2_2:(laidOutB Tryz.pinned.checked.prog)=true:=atP
theorem o2_3:(mapsRowed Tryz.pinned.checked.prog)=true:=atP
theorem o2_4:(Tryz.f6.params.all (Tryz.pinned.checked.prog.readableRec ·))=true:=atP
theorem o2_5:(namedTie Tryz.pinned.checked.prog Rows.coneWitnessesRow.named Rows.coneWitnessesSpec.vars)=true:=atP
theorem o2_6:((Rows.coneWitnessesRow.stops == []))=true:=atP
theorem o2_7:((Tryz.pinned.checked.prog.stops == []))=true:=atP
theorem o2_8:((Rows.coneWitnessesRow.knobs == []))=true:=atP
theorem o2_9:((Tryz.pinned.checked.prog.stopKnobs == []))=true:=atP
theorem o2_10:((Rows.coneWitnessesRow.inPlace == Tryz.pinned.checked.prog.inPlace 6))=true:=atP
theorem o2_11:((Rows.coneWitnessesRow.unfollowed == Tryz.pinned.checked.prog.unfollowed 6))=true:=atP
theorem o2_12:((Rows.coneWitnessesRow.recurses == Tryz.pinned.checked.prog.recurses 6))=true:=atP
theorem o2_13:((Rows.coneWitnessesRow.named == Tryz.pinned.checked.prog.varsNamed 6))=true:=atP
theorem o2_14:((Rows.coneWitnessesRow.maps == (Tryz.f6.params.toList++Rows.coneWitnessesSpec.plain.varTypes Tryz.pinned.checked.prog).any (Tryz.pinned.checked.prog.mapsRec ·)))=true:=atP
theorem o2_15:((Rows.coneWitnessesRow.ifaces == (Tryz.f6.params.toList++Rows.coneWitnessesSpec.plain.varTypes Tryz.pinned.checked.prog).any (Tryz.pinned.checked.prog.ifacesRec ·)))=true:=atP
theorem o2_16:((Rows.coneWitnessesRow.mapsOut == Tryz.pinned.checked.prog.mapsAmong Tryz.f6.resultTypes.toList))=true:=atP
theorem o2_17:((Rows.coneWitnessesRow.loops == (Tryz.f6.params.toList++Rows.coneWitnessesSpec.plain.varTypes Tryz.pinned.checked.prog).any (Tryz.pinned.checked.prog.loopsFrom ·)))=true:=atP
theorem o2_18:((Rows.coneWitnessesRow.wideKeys == (Tryz.f6.params.toList++Rows.coneWitnessesSpec.plain.varTypes Tryz.pinned.checked.prog++Tryz.f6.resultTypes.toList).any (Tryz.pinned.checked.prog.wideKeysFrom ·)))=true:=atP
theorem o2_19:(Rows.coneWitnessesSpec.vars.all (Tryz.pinned.checked.prog.varReadable ·))=true:=atP
theorem o2_20:(Tryz.f6.resultTypes.all (fun t=>Tryz.pinned.checked.prog.readableRec t&&decide (t<Tryz.pinned.checked.prog.types.size)))=true:=atP
theorem o2_21:((Rows.coneWitnessesRow.ifacesOut == Tryz.f6.resultTypes.toList.any (Tryz.pinned.checked.prog.ifacesRec ·)))=true:=atP
theorem o2_22:((Rows.coneWitnessesRow.loopsOut == Tryz.f6.resultTypes.toList.any (Tryz.pinned.checked.prog.loopsFrom ·)))=true:=atP
theorem o2_23:((Rows.coneWitnessesRow.plainKeys == Tryz.pinned.checked.prog.plainKeys))=true:=atP
theorem o2_24:(Rows.coneWitnessesRow.shortTexts.isNone)=true:=atP
theorem o2_25:(Tryz.pinned.checked.prog.stopsHeard)=true:=atP
theorem o2_26:(Tryz.pinned.checked.prog.mayEnter)=true:=atP
theorem o2_27:((Rows.coneWitnessesRow.lifted == Tryz.pinned.checked.prog.liftsFinal))=true:=atP
theorem o2_28:((Tryz.pinned.checked.prog.make == some Rows.coneWitnessesRow.make))=true:=atP
theorem o2_29:((Rows.coneWitnessesRow.kinds == (if Rows.coneWitnessesRow.domain.isEmpty then[]else Tryz.f6.params.toList.map fun t=>match Tryz.pinned.checked.prog.underlying t with|some (.int k)=>some k|_=>none)))=true:=atP
theorem o2_30:((Rows.coneWitnessesRow.pinned == Rows.coneWitnessesRow.pinnedBy))=true:=atP
theorem o2_31:((Rows.coneWitnessesRow.veiled == (Tryz.f6.params.toList++Rows.coneWitnessesSpec.plain.varTypes Tryz.pinned.checked.prog++Tryz.f6.resultTypes.toList).any (Tryz.pinned.checked.prog.veiledRec ·)))=true:=atP
theorem o2_32:(Rows.coneWitnessesRow.veiledFits Tryz.pinned.checked.prog Tryz.f6.params.toList (Tryz.f6.params.toList++Rows.coneWitnessesSpec.plain.varTypes Tryz.pinned.checked.prog++Tryz.f6.resultTypes.toList))=true:=atP
set_option maxRecDepth 100000 in
theorem o2:joinedFacts Tryz.pinned.checked.prog 6 Tryz.f6 Rows.coneWitnessesSpec Rows.coneWitnessesRow=true:=by unfold joinedFacts;exact gj (gj (gj (gj (gj (gj (gj (gj (gj (gj (gj (gj (gj (gj (gj (gj (gj (gj (gj (gj (gj (gj (gj (gj (gj (gj (gj (gj (gj (gj (gj o2_1 o2_2) o2_3) o2_4) o2_5) o2_6) o2_7) o2_8) o2_9) o2_10) o2_11) o2_12) o2_13) o2_14) o2_15) o2_16) o2_17) o2_18) o2_19) o2_20) o2_21) o2_22) o2_23) o2_24) o2_25) o2_26) o2_27) o2_28) o2_29) o2_30) o2_31) o2_32
theorem o3:decide (Func.isInstance Tryz.pinned.checked.prog Tryz.f6 Rows.coneWitnessesRow.origin Rows.coneWitnessesRow.targs)=true:=atP
theorem o4:Func.isWrapper Tryz.pinned.checked.prog Tryz.f6 Rows.coneWitnessesRow.wrapper Rows.coneWitnessesRow.mainSum:=by unfold Func.isWrapper;first|(rw[IO (by decide +kernel)];kernel_rfl)|(rw[BT (by decide +kernel)];exact⟨rfl,rfl⟩)
theorem over:Rows.coneWitnessesRow.holds Tryz.pinned (OpenSpec.ofChange Rows.coneWitnessesSpec):=
 OpenClaim.holds_of_wide 6 Tryz.f6 rfl rfl rfl rfl rfl rfl rfl ⟨rfl,rfl,rfl,rfl,rfl⟩ rfl rfl rfl rfl rfl o1 Tryz.func6 o2
  (aig o3) o4
  (fun os started H enc _=>lifted os started H enc)
theorem proved:Rows.ConeWitnessesSaid:=over
