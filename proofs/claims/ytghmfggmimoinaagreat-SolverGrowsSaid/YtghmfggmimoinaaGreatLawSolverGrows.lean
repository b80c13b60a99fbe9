/- SolverGrows returns true for every input: which solvers there are, and how they grow. No condition. -/
import Derived.Test.YtghmfggmimoinaaGreatSgW
import Derived.Test.YtghmfggmimoinaaGreatAlive24
import Derived.Test.YtghmfggmimoinaaGreatViews
import Derived.Lib.SmallJoins
namespace Go.Proofs.YtghmfggmimoinaaGreat.lawSolverGrows
open Go.ChangeShapes Go.WideShapes Go.ChangeAt Go.RowKit Go.Deep
open Go.ChangeMaps (open_string shut_string)
set_option maxRecDepth 100000 in
theorem lifted (os : Os) (started : os.Started) (H : Type) (enc : TypeId × Value → H) :
  ReturnsInHanded {} Tryz.checked os 3 .any (Rows.solverGrowsSpec.pre6 enc Tryz.prog Tryz.f3 Rows.solverGrowsRow.domain false) (Rows.solverGrowsSpec.post enc Tryz.prog Tryz.f3 false true false false) := by
 refine returnsInHanded_of_change (C := Tryz.checked) own started (by kernel_rfl) Tryz.func3
  (ChangeSpec.witness6 (enc := enc) (C := Tryz.checked) false ⟨#[], #[.int .i64 0, .int .i64 0, .slice none 0 0], []⟩ 8 (by kernel_rfl) (by kernel_rfl) (by kernel_rfl) (by kernel_rfl)) ?_
 intro W base args ds gs before hval0 hW hcnd _
 have hval : ∀ (j : Nat) t v, Tryz.f3.params[j]? = some t → args[j]? = some v → Value.okWide Tryz.prog W .any base t v := hval0
 have hW' := hW
 obtain ⟨p, q, hA0, hV, rfl, hfz, hnd⟩ := hW
 have hA : DataW.TrodAll enc Tryz.prog W 0 (fun _ => true) true Tryz.f3.params.toList args.toList ds p := hA0
 rw [Tryz.params3] at hA hval
 obtain ⟨v0, vs0, d0, ds0, p0, q0, hargs, rfl, rfl, h0, r0⟩ := trodAll_cons hA
 obtain ⟨v1, vs1, d1, ds1, p1, q1, rfl, rfl, rfl, h1, r1⟩ := trodAll_cons r0
 obtain ⟨v2, vs2, d2, ds2, p2, q2, rfl, rfl, rfl, h2, r2⟩ := trodAll_cons r1
 obtain ⟨rfl, rfl, rfl⟩ := trodAll_nil r2
 obtain rfl : args = #[v0, v1, v2] := by cases args; simp_all
 obtain ⟨rfl, rfl⟩ := trodVars_none hV
 have k0 := h0
 have lt0 : ∀ x ∈ p0, x.block < W.heap.size := by obtain ⟨m, hm⟩ := k0; exact DataW.trod_lt m _ _ _ hm
 obtain ⟨a0, rfl, rfl, rfl, w0⟩ := open_int Tryz.underlying3 (hval 0 3 v0 rfl rfl) h0
 have k1 := h1
 have lt1 : ∀ x ∈ p1, x.block < W.heap.size := by obtain ⟨m, hm⟩ := k1; exact DataW.trod_lt m _ _ _ hm
 obtain ⟨a1, rfl, rfl, rfl, w1⟩ := open_int Tryz.underlying3 (hval 1 3 v1 rfl rfl) h1
 have k2 := h2
 have lt2 : ∀ x ∈ p2, x.block < W.heap.size := by obtain ⟨m, hm⟩ := k2; exact DataW.trod_lt m _ _ _ hm
 obtain ⟨a2, len2, cap2, rfl⟩ := okWide_slice Tryz.underlying22 (hval 2 22 v2 rfl rfl)
 obtain ⟨l2, w2⟩ := view_ints Tryz.underlying22 Tryz.underlying3 (by kernel_rfl) h2
 clear hA0 hval0
 refine (growsWalk Ev.Alive24.calls a0 a1 a2 len2 cap2 l2 W w2.1).mono fun e W' ⟨he, bel⟩ => ?_
 subst he
 exact ⟨_, rfl, _, _, _, [], _, [], hW', trodAll_mk1 (shut_bool Tryz.underlying4 _), (trodAll_cons_mk (Below.trod laidOut (by kernel_rfl) (of_decide_eq_true (by kernel_rfl)) k0 bel lt0) (trodAll_cons_mk (Below.trod laidOut (by kernel_rfl) (of_decide_eq_true (by kernel_rfl)) k1 bel lt1) (trodAll_cons_mk (Below.trod laidOut (by kernel_rfl) (of_decide_eq_true (by kernel_rfl)) k2 bel lt2) trodAll_mk0))), rfl, bel.frame _, fun h => by cases h⟩
theorem o1 : Tryz.pinned.checked.prog.funcNamed Rows.solverGrowsRow.func = some 3 := by kernel_rfl
theorem and_t {a b : Bool} (h : a = true) (k : b = true) : (a && b) = true := by rw [h, k]; rfl
theorem o2_1 : (Rows.solverGrowsRow.wf (OpenSpec.ofChange Rows.solverGrowsSpec)) = true := by kernel_rfl
theorem o2_2 : (laidOutB Tryz.pinned.checked.prog) = true := by kernel_rfl
theorem o2_3 : (mapsRowed Tryz.pinned.checked.prog) = true := by kernel_rfl
theorem o2_4 : (Tryz.f3.params.all (Tryz.pinned.checked.prog.readableRec ·)) = true := by kernel_rfl
theorem o2_5 : (namedTie Tryz.pinned.checked.prog Rows.solverGrowsRow.named Rows.solverGrowsSpec.vars) = true := by kernel_rfl
theorem o2_6 : ((Rows.solverGrowsRow.stops == [])) = true := by kernel_rfl
theorem o2_7 : ((Tryz.pinned.checked.prog.stops == [])) = true := by kernel_rfl
theorem o2_8 : ((Rows.solverGrowsRow.knobs == [])) = true := by kernel_rfl
theorem o2_9 : ((Tryz.pinned.checked.prog.stopKnobs == [])) = true := by kernel_rfl
theorem o2_10 : ((Rows.solverGrowsRow.inPlace == Tryz.pinned.checked.prog.inPlace 3)) = true := by kernel_rfl
theorem o2_11 : ((Rows.solverGrowsRow.unfollowed == Tryz.pinned.checked.prog.unfollowed 3)) = true := by kernel_rfl
theorem o2_12 : ((Rows.solverGrowsRow.recurses == Tryz.pinned.checked.prog.recurses 3)) = true := by kernel_rfl
theorem o2_13 : ((Rows.solverGrowsRow.named == Tryz.pinned.checked.prog.varsNamed 3)) = true := by kernel_rfl
theorem o2_14 : ((Rows.solverGrowsRow.maps == (Tryz.f3.params.toList ++ Rows.solverGrowsSpec.plain.varTypes Tryz.pinned.checked.prog).any (Tryz.pinned.checked.prog.mapsRec ·))) = true := by kernel_rfl
theorem o2_15 : ((Rows.solverGrowsRow.ifaces == (Tryz.f3.params.toList ++ Rows.solverGrowsSpec.plain.varTypes Tryz.pinned.checked.prog).any (Tryz.pinned.checked.prog.ifacesRec ·))) = true := by kernel_rfl
theorem o2_16 : ((Rows.solverGrowsRow.mapsOut == Tryz.pinned.checked.prog.mapsAmong Tryz.f3.resultTypes.toList)) = true := by kernel_rfl
theorem o2_17 : ((Rows.solverGrowsRow.loops == (Tryz.f3.params.toList ++ Rows.solverGrowsSpec.plain.varTypes Tryz.pinned.checked.prog).any (Tryz.pinned.checked.prog.loopsFrom ·))) = true := by kernel_rfl
theorem o2_18 : ((Rows.solverGrowsRow.wideKeys == (Tryz.f3.params.toList ++ Rows.solverGrowsSpec.plain.varTypes Tryz.pinned.checked.prog ++ Tryz.f3.resultTypes.toList).any (Tryz.pinned.checked.prog.wideKeysFrom ·))) = true := by kernel_rfl
theorem o2_19 : (Rows.solverGrowsSpec.vars.all (Tryz.pinned.checked.prog.varReadable ·)) = true := by kernel_rfl
theorem o2_20 : (Tryz.f3.resultTypes.all (fun t => Tryz.pinned.checked.prog.readableRec t && decide (t < Tryz.pinned.checked.prog.types.size))) = true := by kernel_rfl
theorem o2_21 : ((Rows.solverGrowsRow.ifacesOut == Tryz.f3.resultTypes.toList.any (Tryz.pinned.checked.prog.ifacesRec ·))) = true := by kernel_rfl
theorem o2_22 : ((Rows.solverGrowsRow.loopsOut == Tryz.f3.resultTypes.toList.any (Tryz.pinned.checked.prog.loopsFrom ·))) = true := by kernel_rfl
theorem o2_23 : ((Rows.solverGrowsRow.plainKeys == Tryz.pinned.checked.prog.plainKeys)) = true := by kernel_rfl
theorem o2_24 : (Rows.solverGrowsRow.shortTexts.isNone) = true := by kernel_rfl
theorem o2_25 : (Tryz.pinned.checked.prog.stopsHeard) = true := by kernel_rfl
theorem o2_26 : (Tryz.pinned.checked.prog.mayEnter) = true := by kernel_rfl
theorem o2_27 : ((Rows.solverGrowsRow.lifted == Tryz.pinned.checked.prog.liftsFinal)) = true := by kernel_rfl
theorem o2_28 : ((Tryz.pinned.checked.prog.make == some Rows.solverGrowsRow.make)) = true := by kernel_rfl
theorem o2_29 : ((Rows.solverGrowsRow.kinds == (if Rows.solverGrowsRow.domain.isEmpty then [] else Tryz.f3.params.toList.map fun t => match Tryz.pinned.checked.prog.underlying t with | some (.int k) => some k | _ => none))) = true := by kernel_rfl
theorem o2_30 : ((Rows.solverGrowsRow.pinned == Rows.solverGrowsRow.pinnedBy)) = true := by kernel_rfl
theorem o2_31 : ((Rows.solverGrowsRow.veiled == (Tryz.f3.params.toList ++ Rows.solverGrowsSpec.plain.varTypes Tryz.pinned.checked.prog ++ Tryz.f3.resultTypes.toList).any (Tryz.pinned.checked.prog.veiledRec ·))) = true := by kernel_rfl
theorem o2_32 : (Rows.solverGrowsRow.veiledFits Tryz.pinned.checked.prog Tryz.f3.params.toList (Tryz.f3.params.toList ++ Rows.solverGrowsSpec.plain.varTypes Tryz.pinned.checked.prog ++ Tryz.f3.resultTypes.toList)) = true := by kernel_rfl
set_option maxRecDepth 100000 in
theorem o2 : joinedFacts Tryz.pinned.checked.prog 3 Tryz.f3 Rows.solverGrowsSpec Rows.solverGrowsRow = true := by
 unfold joinedFacts
 exact and_t (and_t (and_t (and_t (and_t (and_t (and_t (and_t (and_t (and_t (and_t (and_t (and_t (and_t (and_t (and_t (and_t (and_t (and_t (and_t (and_t (and_t (and_t (and_t (and_t (and_t (and_t (and_t (and_t (and_t (and_t o2_1 o2_2) o2_3) o2_4) o2_5) o2_6) o2_7) o2_8) o2_9) o2_10) o2_11) o2_12) o2_13) o2_14) o2_15) o2_16) o2_17) o2_18) o2_19) o2_20) o2_21) o2_22) o2_23) o2_24) o2_25) o2_26) o2_27) o2_28) o2_29) o2_30) o2_31) o2_32
theorem o3 : decide (Func.isInstance Tryz.pinned.checked.prog Tryz.f3 Rows.solverGrowsRow.origin Rows.solverGrowsRow.targs) = true := by kernel_rfl
theorem o4 : Func.isWrapper Tryz.pinned.checked.prog Tryz.f3 Rows.solverGrowsRow.wrapper Rows.solverGrowsRow.mainSum := by
 unfold Func.isWrapper; first | (rw [if_pos (by decide +kernel)]; kernel_rfl) | (rw [if_neg (by decide +kernel)]; exact ⟨rfl, rfl⟩)
theorem over : Rows.solverGrowsRow.holds Tryz.pinned (OpenSpec.ofChange Rows.solverGrowsSpec) :=
 OpenClaim.holds_of_wide 3 Tryz.f3 rfl rfl rfl rfl rfl rfl rfl ⟨rfl, rfl, rfl, rfl, rfl⟩ rfl rfl rfl rfl rfl o1 Tryz.func3 o2
  (of_decide_eq_true o3) o4
  (fun os started H enc _ => lifted os started H enc)
theorem proved : Rows.SolverGrowsSaid := over
end Go.Proofs.YtghmfggmimoinaaGreat.lawSolverGrows
