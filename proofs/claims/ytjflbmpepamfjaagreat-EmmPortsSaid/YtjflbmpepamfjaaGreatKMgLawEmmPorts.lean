import Derived.Test.YtjflbmpepamfjaaGreatKGk
import Derived.Lib.SmallJoins
set_option linter.all false
/- EmmPorts returns true for every input: the ports' acts, and that each is one of its own. No condition. -/
namespace Go.Proofs.YtjflbmpepamfjaaGreat.lawEmmPorts
open Go.ChangeShapes Go.WideShapes Go.ChangeAt Go.RowKit Go.Deep
open Go.ChangeMaps (open_string shut_string)
theorem aeT{w:World}{A:Nat->Prop}{aGX:Value}(h:V.bR w A .bool true aGX):aGX=.bool true:=by
 obtain⟨h1,h2⟩:=h;have h1:aGX.cells.toList=[.bool true]:=h1;have hv:aGX.cells=#[aGX]:=by cases aGX<;>first|rfl|cases h2
 rw[hv]at h1;exact(List.cons.inj h1).1
set_option maxRecDepth 100000 in
theorem lifted(os:Os)(started:os.Started)(H:Type)(enc:TypeId×Value->H) :
  ReturnsInHanded {} Tryz.checked os 3 .any (Rows.emmPortsSpec.pre6 enc Tryz.prog Tryz.f3 Rows.emmPortsRow.domain false) (Rows.emmPortsSpec.post enc Tryz.prog Tryz.f3 false true false false):=by
 refine returnsInHanded_of_change (C:=Tryz.checked) own started aGm Tryz.func3
  (ChangeSpec.witness6 (enc:=enc) (C:=Tryz.checked) false ⟨#[],#[.agg #[.int .i64 0,.slice none 0 0,.slice none 0 0,.slice none 0 0,.slice none 0 0,.slice none 0 0,.slice none 0 0,.slice none 0 0],.slice none 0 0,.int .i64 0],[]⟩ 8 aGm aGm aGm aGm) ?_
 intro W base args ds gs before hval0 hW hcnd _;have hval:∀(j:Nat) t v,Tryz.f3.params[j]?=some t->args[j]?=some v->Value.okWide Tryz.prog W .any base t v:=hval0;have hW':=hW;obtain⟨p,q,hA0,hV,rfl,hfz,hnd⟩:=hW;have hA:DataW.TrodAll enc Tryz.prog W 0 (fun _=>true) true Tryz.f3.params.toList args.toList ds p:=hA0;rw[Tryz.params3]at hA hval;obtain⟨v0,vs0,d0,ds0,p0,q0,hargs,rfl,rfl,h0,r0⟩:=trodAll_cons hA;obtain⟨v1,vs1,d1,ds1,p1,q1,rfl,rfl,rfl,h1,r1⟩:=trodAll_cons r0;obtain⟨v2,vs2,d2,ds2,p2,q2,rfl,rfl,rfl,h2,r2⟩:=trodAll_cons r1;obtain⟨rfl,rfl,rfl⟩:=trodAll_nil r2;obtain rfl:args=#[v0,v1,v2]:=by cases args;simp_all
 obtain⟨rfl,rfl⟩:=trodVars_none hV;have k0:=h0;have lt0:∀x∈p0,x.block<W.heap.size:=by obtain⟨m,hm⟩:=k0;exact DataW.trod_lt m _ _ _ hm
 obtain⟨x0,D0,K0⟩:=V.FC (k:=20) (σ:=V.bD) aGm (hval 0 27 v0 rfl rfl) h0;have k1:=h1;have lt1:∀x∈p1,x.block<W.heap.size:=by obtain⟨m,hm⟩:=k1;exact DataW.trod_lt m _ _ _ hm
 obtain⟨x1,D1,K1⟩:=V.FC (k:=20) (σ:=(.sl .I)) aGm (hval 1 22 v1 rfl rfl) h1;have k2:=h2;have lt2:∀x∈p2,x.block<W.heap.size:=by obtain⟨m,hm⟩:=k2;exact DataW.trod_lt m _ _ _ hm
 obtain⟨x2,D2,K2⟩:=V.FC (k:=20) (σ:=.I) aGm (hval 2 3 v2 rfl rfl) h2;clear hA0 hval0;refine(V.O0.ok.2 (x0,x1,x2,()) (true,()) (V.afs x0 x1 x2 K0 K1 K2) W (fun _=>False) [v0,v1,v2] (fun b h=>h.elim) ⟨v0,[v1,v2],rfl,D0,v1,[v2],rfl,D1,v2,[],rfl,D2,rfl⟩).mono fun e W' h=>?_;obtain⟨vs,rfl,bel,aGX,r,rfl,hdat,hr⟩:=h;have hr:r=[]:=hr;subst hr;have hb:aGX=.bool true:=aeT hdat;subst hb;exact⟨_,rfl,_,_,_,[],_,[],hW',trodAll_mk1 (shut_bool Tryz.underlying4 _),(trodAll_cons_mk (Below.trod laidOut aGm (Pi aGm) k0 bel lt0) (trodAll_cons_mk (Below.trod laidOut aGm (Pi aGm) k1 bel lt1) (trodAll_cons_mk (Below.trod laidOut aGm (Pi aGm) k2 bel lt2) trodAll_mk0))),rfl,bel.frame _,fun h=>by cases h⟩
theorem o1:Tryz.pinned.checked.prog.funcNamed Rows.emmPortsRow.func=some 3:=aGm
theorem o2:joinedFacts Tryz.pinned.checked.prog 3 Tryz.f3 Rows.emmPortsSpec Rows.emmPortsRow=true:=aGm
theorem o3:decide (Func.isInstance Tryz.pinned.checked.prog Tryz.f3 Rows.emmPortsRow.origin Rows.emmPortsRow.targs)=true:=aGm
theorem o4:Func.isWrapper Tryz.pinned.checked.prog Tryz.f3 Rows.emmPortsRow.wrapper Rows.emmPortsRow.mainSum:=by unfold Func.isWrapper;first|(rw[BY (by decide +kernel)];kernel_rfl)|(rw[rx (by decide +kernel)];exact⟨rfl,rfl⟩)
theorem over:Rows.emmPortsRow.holds Tryz.pinned (OpenSpec.ofChange Rows.emmPortsSpec):=
 OpenClaim.holds_of_wide 3 Tryz.f3 rfl rfl rfl rfl rfl rfl rfl ⟨rfl,rfl,rfl,rfl,rfl⟩ rfl rfl rfl rfl rfl o1 Tryz.func3 o2
  (Pi o3) o4
  (fun os started H enc _=>lifted os started H enc)
theorem proved:Rows.EmmPortsSaid:=over
