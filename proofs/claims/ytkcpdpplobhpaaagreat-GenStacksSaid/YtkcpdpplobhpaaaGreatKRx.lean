import Derived.Test.YtkcpdpplobhpaaaGreatKRt
set_option linter.unusedVariables false
set_option linter.unusedSimpArgs false
set_option linter.unnecessarySimpa false
/- The second stack, searched by the document. (Rounds.) -/
namespace Go.Proofs.YtkcpdpplobhpaaaGreat.V
open Go Go.RowKit
set_option maxRecDepth 100000
set_option maxHeartbeats 0
theorem a2gt84:stepsD gd3 8 a2g82=some (.inl a2g83):=by kernel_rfl
theorem a2gt146:stepsD gd3 8 a2g144=some (.inl a2g145):=by kernel_rfl
theorem a2Dt17b:stepsD gdS 4 a2E60=some (.inl a2D9):=by kernel_rfl
theorem a2Dt14b:stepsD gdS 4 a2E36=some (.inl a2D6):=by kernel_rfl
theorem a2Dt15b:stepsD gdS 4 a2E44=some (.inl a2D7):=by kernel_rfl
theorem a2Dt16b:stepsD gdS 4 a2E52=some (.inl a2D8):=by kernel_rfl
theorem a2gt65:stepsD gd3 1 a2g63=some (.inr a2go61):=by kernel_rfl
theorem a2gt127:stepsD gd3 1 a2g125=some (.inr a2go123):=by kernel_rfl
theorem a2h78:stepsD gd14 2 a2f77=some (.inl a2f79):=by kernel_rfl
theorem a2h134:stepsD gd14 50 a2f133=some (.inr a2fo135):=by kernel_rfl
theorem a2sf108:astrariumref14_state_FF (a2n,(I 10,()))=some (([false,true],([[(I 1,(I 1,()))]],())),()):=by kernel_rfl
theorem a2h38:stepsD gd14 64 a2f37=some (.inr a2fo39):=by kernel_rfl
theorem a2h58:stepsD gd14 3 a2f57=some (.inl a2f59):=by kernel_rfl
end Go.Proofs.YtkcpdpplobhpaaaGreat.V
