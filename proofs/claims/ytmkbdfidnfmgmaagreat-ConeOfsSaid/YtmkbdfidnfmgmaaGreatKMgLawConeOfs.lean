import Derived.Test.YtmkbdfidnfmgmaaGreatKMgConeOfs00
import Derived.Lib.SmallJoins
set_option linter.all false
/- ConeOfs returns true for every input: the cone of any netlist is told, or what is wrong. No condition. -/
namespace Go.Proofs.YtmkbdfidnfmgmaaGreat.lawConeOfs
open Go.ChangeShapes Go.WideShapes Go.ChangeAt Go.RowKit Go.Deep
open Go.ChangeMaps (open_string shut_string)
theorem akI{w:World}{A:Nat->Prop}{auP:Value}(h:V.ic w A .bool true auP):auP=.bool true:=by
 obtain⟨h1,h2⟩:=h;have h1:auP.cells.toList=[.bool true]:=h1;have hv:auP.cells=#[auP]:=by cases auP<;>first|rfl|cases h2
 rw[hv]at h1;exact(List.cons.inj h1).1
set_option maxRecDepth 100000 in
theorem lifted(os:Os)(started:os.Started)(H:Type)(enc:TypeId×Value->H) :
  ReturnsInHanded {} Tryz.checked os 4 .any (Rows.coneOfsSpec.pre6 enc Tryz.prog Tryz.f4 Rows.coneOfsRow.domain false) (Rows.coneOfsSpec.post enc Tryz.prog Tryz.f4 false true false false):=by
 refine returnsInHanded_of_change (C:=Tryz.checked) own started aud Tryz.func4
  (ChangeSpec.witness6 (enc:=enc) (C:=Tryz.checked) false ⟨#[],#[.agg #[.int .i64 0,.slice none 0 0,.slice none 0 0,.slice none 0 0,.slice none 0 0,.slice none 0 0,.slice none 0 0,.slice none 0 0]],[]⟩ 8 aud aud aud aud) ?_
 intro W base args ds gs before hval0 hW hcnd _;have hval:∀(j:Nat) t v,Tryz.f4.params[j]?=some t->args[j]?=some v->Value.okWide Tryz.prog W .any base t v:=hval0;have hW':=hW;obtain⟨p,q,hA0,hV,rfl,hfz,hnd⟩:=hW;have hA:DataW.TrodAll enc Tryz.prog W 0 (fun _=>true) true Tryz.f4.params.toList args.toList ds p:=hA0;rw[Tryz.params4]at hA hval;obtain⟨v0,vs0,d0,ds0,p0,q0,hargs,rfl,rfl,h0,r0⟩:=trodAll_cons hA;obtain⟨rfl,rfl,rfl⟩:=trodAll_nil r0;obtain rfl:args=#[v0]:=by cases args;simp_all
 obtain⟨rfl,rfl⟩:=trodVars_none hV;have k0:=h0;have lt0:∀x∈p0,x.block<W.heap.size:=by obtain⟨m,hm⟩:=k0;exact DataW.trod_lt m _ _ _ hm
 obtain⟨x0,D0,K0⟩:=V.ana (k:=20) (σ:=V.cJ) aud (hval 0 27 v0 rfl rfl) h0;clear hA0 hval0;refine(V.VW.ok.2 (x0,()) (true,()) (V.aj6 x0 K0) W (fun _=>False) [v0] (fun b h=>h.elim) ⟨v0,[],rfl,D0,rfl⟩).mono fun e W' h=>?_;obtain⟨vs,rfl,bel,auP,r,rfl,hdat,hr⟩:=h;have hr:r=[]:=hr;subst hr;have hb:auP=.bool true:=akI hdat;subst hb;exact⟨_,rfl,_,_,_,[],_,[],hW',trodAll_mk1 (shut_bool Tryz.underlying4 _),(trodAll_cons_mk (Below.trod laidOut aud (asl aud) k0 bel lt0) trodAll_mk0),rfl,bel.frame _,fun h=>by cases h⟩
theorem o1:Tryz.pinned.checked.prog.funcNamed Rows.coneOfsRow.func=some 4:=aud
theorem fX{a b:Bool}(h:a=true)(k:b=true):(a&&b)=true:=by rw[h,k];rfl
theorem o2_1:(Rows.coneOfsRow.wf (OpenSpec.ofChange Rows.coneOfsSpec))=true:=aud
theorem o2_2:(laidOutB Tryz.pinned.checked.prog)=true:=aud
theorem o2_3:(mapsRowed Tryz.pinned.checked.prog)=true:=aud
theorem o2_4:(Tryz.f4.params.all (Tryz.pinned.checked.prog.readableRec ·))=true:=aud
theorem o2_5:(namedTie Tryz.pinned.checked.prog Rows.coneOfsRow.named Rows.coneOfsSpec.vars)=true:=aud
theorem o2_6:((Rows.coneOfsRow.stops == []))=true:=aud
theorem o2_7:((Tryz.pinned.checked.prog.stops == []))=true:=aud
theorem o2_8:((Rows.coneOfsRow.knobs == []))=true:=aud
theorem o2_9:((Tryz.pinned.checked.prog.stopKnobs == []))=true:=aud
theorem o2_10:((Rows.coneOfsRow.inPlace == Tryz.pinned.checked.prog.inPlace 4))=true:=aud
theorem o2_11:((Rows.coneOfsRow.unfollowed == Tryz.pinned.checked.prog.unfollowed 4))=true:=aud
theorem o2_12:((Rows.coneOfsRow.recurses == Tryz.pinned.checked.prog.recurses 4))=true:=aud
theorem o2_13:((Rows.coneOfsRow.named == Tryz.pinned.checked.prog.varsNamed 4))=true:=aud
theorem o2_14:((Rows.coneOfsRow.maps == (Tryz.f4.params.toList++Rows.coneOfsSpec.plain.varTypes Tryz.pinned.checked.prog).any (Tryz.pinned.checked.prog.mapsRec ·)))=true:=aud
theorem o2_15:((Rows.coneOfsRow.ifaces == (Tryz.f4.params.toList++Rows.coneOfsSpec.plain.varTypes Tryz.pinned.checked.prog).any (Tryz.pinned.checked.prog.ifacesRec ·)))=true:=aud
theorem o2_16:((Rows.coneOfsRow.mapsOut == Tryz.pinned.checked.prog.mapsAmong Tryz.f4.resultTypes.toList))=true:=aud
theorem o2_17:((Rows.coneOfsRow.loops == (Tryz.f4.params.toList++Rows.coneOfsSpec.plain.varTypes Tryz.pinned.checked.prog).any (Tryz.pinned.checked.prog.loopsFrom ·)))=true:=aud
theorem o2_18:((Rows.coneOfsRow.wideKeys == (Tryz.f4.params.toList++Rows.coneOfsSpec.plain.varTypes Tryz.pinned.checked.prog++Tryz.f4.resultTypes.toList).any (Tryz.pinned.checked.prog.wideKeysFrom ·)))=true:=aud
theorem o2_19:(Rows.coneOfsSpec.vars.all (Tryz.pinned.checked.prog.varReadable ·))=true:=aud
theorem o2_20:(Tryz.f4.resultTypes.all (fun t=>Tryz.pinned.checked.prog.readableRec t&&decide (t<Tryz.pinned.checked.prog.types.size)))=true:=aud
theorem o2_21:((Rows.coneOfsRow.ifacesOut == Tryz.f4.resultTypes.toList.any (Tryz.pinned.checked.prog.ifacesRec ·)))=true:=aud
theorem o2_22:((Rows.coneOfsRow.loopsOut == Tryz.f4.resultTypes.toList.any (Tryz.pinned.checked.prog.loopsFrom ·)))=true:=aud
theorem o2_23:((Rows.coneOfsRow.plainKeys == Tryz.pinned.checked.prog.plainKeys))=true:=aud
theorem o2_24:(Rows.coneOfsRow.shortTexts.isNone)=true:=aud
theorem o2_25:(Tryz.pinned.checked.prog.stopsHeard)=true:=aud
theorem o2_26:(Tryz.pinned.checked.prog.mayEnter)=true:=aud
theorem o2_27:((Rows.coneOfsRow.lifted == Tryz.pinned.checked.prog.liftsFinal))=true:=aud
theorem o2_28:((Tryz.pinned.checked.prog.make == some Rows.coneOfsRow.make))=true:=aud
theorem o2_29:((Rows.coneOfsRow.kinds == (if Rows.coneOfsRow.domain.isEmpty then[]else Tryz.f4.params.toList.map fun t=>match Tryz.pinned.checked.prog.underlying t with|some (.int k)=>some k|_=>none)))=true:=aud
theorem o2_30:((Rows.coneOfsRow.pinned == Rows.coneOfsRow.pinnedBy))=true:=aud
theorem o2_31:((Rows.coneOfsRow.veiled == (Tryz.f4.params.toList++Rows.coneOfsSpec.plain.varTypes Tryz.pinned.checked.prog++Tryz.f4.resultTypes.toList).any (Tryz.pinned.checked.prog.veiledRec ·)))=true:=aud
theorem o2_32:(Rows.coneOfsRow.veiledFits Tryz.pinned.checked.prog Tryz.f4.params.toList (Tryz.f4.params.toList++Rows.coneOfsSpec.plain.varTypes Tryz.pinned.checked.prog++Tryz.f4.resultTypes.toList))=true:=aud
set_option maxRecDepth 100000 in
theorem o2:joinedFacts Tryz.pinned.checked.prog 4 Tryz.f4 Rows.coneOfsSpec Rows.coneOfsRow=true:=by unfold joinedFacts;exact fX (fX (fX (fX (fX (fX (fX (fX (fX (fX (fX (fX (fX (fX (fX (fX (fX (fX (fX (fX (fX (fX (fX (fX (fX (fX (fX (fX (fX (fX (fX o2_1 o2_2) o2_3) o2_4) o2_5) o2_6) o2_7) o2_8) o2_9) o2_10) o2_11) o2_12) o2_13) o2_14) o2_15) o2_16) o2_17) o2_18) o2_19) o2_20) o2_21) o2_22) o2_23) o2_24) o2_25) o2_26) o2_27) o2_28) o2_29) o2_30) o2_31) o2_32
theorem o3:decide (Func.isInstance Tryz.pinned.checked.prog Tryz.f4 Rows.coneOfsRow.origin Rows.coneOfsRow.targs)=true:=aud
theorem o4:Func.isWrapper Tryz.pinned.checked.prog Tryz.f4 Rows.coneOfsRow.wrapper Rows.coneOfsRow.mainSum:=by unfold Func.isWrapper;first|(rw[IO (by decide +kernel)];kernel_rfl)|(rw[Fr (by decide +kernel)];exact⟨rfl,rfl⟩)
theorem over:Rows.coneOfsRow.holds Tryz.pinned (OpenSpec.ofChange Rows.coneOfsSpec):=
 OpenClaim.holds_of_wide 4 Tryz.f4 rfl rfl rfl rfl rfl rfl rfl ⟨rfl,rfl,rfl,rfl,rfl⟩ rfl rfl rfl rfl rfl o1 Tryz.func4 o2
  (asl o3) o4
  (fun os started H enc _=>lifted os started H enc)
theorem proved:Rows.ConeOfsSaid:=over
