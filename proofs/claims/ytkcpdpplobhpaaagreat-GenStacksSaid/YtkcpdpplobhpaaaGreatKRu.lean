import Derived.Test.YtkcpdpplobhpaaaGreatKRt
set_option linter.unusedVariables false
set_option linter.unusedSimpArgs false
set_option linter.unnecessarySimpa false
/- The second stack, searched by the document. (Rounds.) -/
namespace Go.Proofs.YtkcpdpplobhpaaaGreat.V
open Go Go.RowKit
set_option maxRecDepth 100000
set_option maxHeartbeats 0
theorem a2gt30:stepsD gd3 8 a2g28=some (.inl a2g29):=by kernel_rfl
theorem a2gt98:stepsD gd3 8 a2g96=some (.inl a2g97):=by kernel_rfl
theorem a2Dt13a:stepsD gdS 4 a2D4=some (.inl a2E28):=by kernel_rfl
theorem a2Dt10a:stepsD gdS 4 a2D1=some (.inl a2E4):=by kernel_rfl
theorem a2Dt11a:stepsD gdS 4 a2D2=some (.inl a2E12):=by kernel_rfl
theorem a2Dt12a:stepsD gdS 4 a2D3=some (.inl a2E20):=by kernel_rfl
theorem a2gt147:stepsD gd3 1 a2g145=some (.inr a2go143):=by kernel_rfl
theorem a2gt85:stepsD gd3 1 a2g83=some (.inr a2go81):=by kernel_rfl
theorem a2mn:astrariumref14_many_FF (a2n,())=some (I 64,()):=by kernel_rfl
theorem a2h92:stepsD gd14 3 a2f91=some (.inl a2f93):=by kernel_rfl
theorem a2Dt18:stepsD gdS 1 a2D9=some (.inr a2Do0):=by kernel_rfl
theorem a2sf122:astrariumref14_state_FF (a2n,(I 14,()))=some (([false,true],([[(I 0,(I 1,())),(I 1,(I 1,()))]],())),()):=by kernel_rfl
theorem a2sf142:astrariumref14_state_FF (a2n,(I 3,()))=some (([true,true],([[]],())),()):=by kernel_rfl
theorem a2h72:stepsD gd14 59 a2f71=some (.inr a2fo73):=by kernel_rfl
end Go.Proofs.YtkcpdpplobhpaaaGreat.V
