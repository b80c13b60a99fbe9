import Derived.Test.YtkcpdpplobhpaaaGreatKRt
set_option linter.unusedVariables false
set_option linter.unusedSimpArgs false
set_option linter.unnecessarySimpa false
/- The second stack, searched by the document. (Rounds.) -/
namespace Go.Proofs.YtkcpdpplobhpaaaGreat.V
open Go Go.RowKit
set_option maxRecDepth 100000
set_option maxHeartbeats 0
theorem a2gt64:stepsD gd3 8 a2g62=some (.inl a2g63):=by kernel_rfl
theorem a2gt126:stepsD gd3 8 a2g124=some (.inl a2g125):=by kernel_rfl
theorem a2Dt17a:stepsD gdS 4 a2D8=some (.inl a2E60):=by kernel_rfl
theorem a2Dt14a:stepsD gdS 4 a2D5=some (.inl a2E36):=by kernel_rfl
theorem a2Dt15a:stepsD gdS 4 a2D6=some (.inl a2E44):=by kernel_rfl
theorem a2Dt16a:stepsD gdS 4 a2D7=some (.inl a2E52):=by kernel_rfl
theorem a2gt51:stepsD gd3 1 a2g49=some (.inr a2go47):=by kernel_rfl
theorem a2gt113:stepsD gd3 1 a2g111=some (.inr a2go109):=by kernel_rfl
theorem a2sf60:astrariumref14_state_FF (a2n,(I 5,()))=some (([true,false],([[(I 0,(I 1,()))]],())),()):=by kernel_rfl
theorem a2h120:stepsD gd14 3 a2f119=some (.inl a2f121):=by kernel_rfl
theorem a2sf94:astrariumref14_state_FF (a2n,(I 6,()))=some (([false,true],([[(I 0,(I 1,()))]],())),()):=by kernel_rfl
theorem a2Et22:stepsD gd5 2 a2E21=some (.inr a2Eo20):=by kernel_rfl
theorem a2h44:stepsD gd14 1 a2f43=some (.inl a2f45):=by kernel_rfl
end Go.Proofs.YtkcpdpplobhpaaaGreat.V
