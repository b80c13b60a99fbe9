import Derived.Test.YtbbhihkocghhaaaKGe
import Derived.Lib.SmallJoins
set_option linter.all false
/- UnrollCosts returns true for every input: a frame needs no more than it may, and there are so many frames at most. No condition. -/
namespace Go.Proofs.Ytbbhihkocghhaaa.lawUnrollCosts
open Go.ChangeShapes Go.WideShapes Go.ChangeAt Go.RowKit Go.Deep
open Go.ChangeMaps (open_string shut_string)
theorem SN{w:World}{A:Nat->Prop}{adk:Value}(h:V.cH w A .bool true adk):adk=.bool true:=by
 obtain⟨h1,h2⟩:=h;have h1:adk.cells.toList=[.bool true]:=h1;have hv:adk.cells=#[adk]:=by cases adk<;>first|rfl|cases h2
 rw[hv]at h1;exact(List.cons.inj h1).1
set_option maxRecDepth 100000 in
theorem lifted(os:Os)(started:os.Started)(H:Type)(enc:TypeId×Value->H) :
  ReturnsInHanded {} Try.checked os 3 .any (Rows.unrollCostsSpec.pre6 enc Try.prog Try.f3 Rows.unrollCostsRow.domain false) (Rows.unrollCostsSpec.post enc Try.prog Try.f3 false true false false):=by
 refine returnsInHanded_of_change (C:=Try.checked) own started acu Try.func3
  (ChangeSpec.witness6 (enc:=enc) (C:=Try.checked) false ⟨#[],#[.agg #[.int .i64 0,.slice none 0 0,.slice none 0 0,.slice none 0 0,.slice none 0 0,.slice none 0 0,.slice none 0 0,.slice none 0 0],.bool false],[]⟩ 8 acu acu acu acu) ?_
 intro W base args ds gs before hval0 hW hcnd _;have hval:∀(j:Nat) t v,Try.f3.params[j]?=some t->args[j]?=some v->Value.okWide Try.prog W .any base t v:=hval0;have hW':=hW;obtain⟨p,q,hA0,hV,rfl,hfz,hnd⟩:=hW;have hA:DataW.TrodAll enc Try.prog W 0 (fun _=>true) true Try.f3.params.toList args.toList ds p:=hA0;rw[Try.params3]at hA hval;obtain⟨v0,vs0,d0,ds0,p0,q0,hargs,rfl,rfl,h0,r0⟩:=trodAll_cons hA;obtain⟨v1,vs1,d1,ds1,p1,q1,rfl,rfl,rfl,h1,r1⟩:=trodAll_cons r0;obtain⟨rfl,rfl,rfl⟩:=trodAll_nil r1;obtain rfl:args=#[v0,v1]:=by cases args;simp_all
 obtain⟨rfl,rfl⟩:=trodVars_none hV;have k0:=h0;have lt0:∀x∈p0,x.block<W.heap.size:=by obtain⟨m,hm⟩:=k0;exact DataW.trod_lt m _ _ _ hm
 obtain⟨x0,D0,K0⟩:=V.JJ (k:=20) (σ:=V.bB) acu (hval 0 27 v0 rfl rfl) h0;have k1:=h1;have lt1:∀x∈p1,x.block<W.heap.size:=by obtain⟨m,hm⟩:=k1;exact DataW.trod_lt m _ _ _ hm
 obtain⟨x1,D1,K1⟩:=V.JJ (k:=20) (σ:=.bool) acu (hval 1 4 v1 rfl rfl) h1;clear hA0 hval0;refine(V.Ia.ok.2 (x0,x1,()) (true,()) (V.SL x0 x1 K0 K1) W (fun _=>False) [v0,v1] (fun b h=>h.elim) ⟨v0,[v1],rfl,D0,v1,[],rfl,D1,rfl⟩).mono fun e W' h=>?_;obtain⟨vs,rfl,bel,adk,r,rfl,hdat,hr⟩:=h;have hr:r=[]:=hr;subst hr;have hb:adk=.bool true:=SN hdat;subst hb;exact⟨_,rfl,_,_,_,[],_,[],hW',trodAll_mk1 (shut_bool Try.underlying4 _),(trodAll_cons_mk (Below.trod laidOut acu (WF acu) k0 bel lt0) (trodAll_cons_mk (Below.trod laidOut acu (WF acu) k1 bel lt1) trodAll_mk0)),rfl,bel.frame _,fun h=>by cases h⟩
theorem o1:Try.pinned.checked.prog.funcNamed Rows.unrollCostsRow.func=some 3:=acu
theorem o2:joinedFacts Try.pinned.checked.prog 3 Try.f3 Rows.unrollCostsSpec Rows.unrollCostsRow=true:=acu
theorem o3:decide (Func.isInstance Try.pinned.checked.prog Try.f3 Rows.unrollCostsRow.origin Rows.unrollCostsRow.targs)=true:=acu
theorem o4:Func.isWrapper Try.pinned.checked.prog Try.f3 Rows.unrollCostsRow.wrapper Rows.unrollCostsRow.mainSum:=by unfold Func.isWrapper;first|(rw[ut (by decide +kernel)];kernel_rfl)|(rw[qr (by decide +kernel)];exact⟨rfl,rfl⟩)
theorem over:Rows.unrollCostsRow.holds Try.pinned (OpenSpec.ofChange Rows.unrollCostsSpec):=
 OpenClaim.holds_of_wide 3 Try.f3 rfl rfl rfl rfl rfl rfl rfl ⟨rfl,rfl,rfl,rfl,rfl⟩ rfl rfl rfl rfl rfl o1 Try.func3 o2
  (WF o3) o4
  (fun os started H enc _=>lifted os started H enc)
theorem proved:Rows.UnrollCostsSaid:=over
