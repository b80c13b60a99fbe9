import Derived.Test.YtkcpdpplobhpaaaGreatKRt
set_option linter.unusedVariables false
set_option linter.unusedSimpArgs false
set_option linter.unnecessarySimpa false
/- The second stack, searched by the document. (Rounds.) -/
namespace Go.Proofs.YtkcpdpplobhpaaaGreat.V
open Go Go.RowKit
set_option maxRecDepth 100000
set_option maxHeartbeats 0
theorem a2gt50:stepsD gd3 8 a2g48=some (.inl a2g49):=by kernel_rfl
theorem a2gt112:stepsD gd3 8 a2g110=some (.inl a2g111):=by kernel_rfl
theorem a2Dt13b:stepsD gdS 4 a2E28=some (.inl a2D5):=by kernel_rfl
theorem a2Dt10b:stepsD gdS 4 a2E4=some (.inl a2D2):=by kernel_rfl
theorem a2Dt11b:stepsD gdS 4 a2E12=some (.inl a2D3):=by kernel_rfl
theorem a2Dt12b:stepsD gdS 4 a2E20=some (.inl a2D4):=by kernel_rfl
theorem a2gt31:stepsD gd3 1 a2g29=some (.inr a2go27):=by kernel_rfl
theorem a2gt99:stepsD gd3 1 a2g97=some (.inr a2go95):=by kernel_rfl
theorem a2sf46:astrariumref14_state_FF (a2n,(I 1,()))=some (([true,false],([[]],())),()):=by kernel_rfl
theorem a2h106:stepsD gd14 3 a2f105=some (.inl a2f107):=by kernel_rfl
theorem a2sf80:astrariumref14_state_FF (a2n,(I 2,()))=some (([false,true],([[]],())),()):=by kernel_rfl
theorem a2h140:stepsD gd14 3 a2f139=some (.inl a2f141):=by kernel_rfl
theorem a2sf26:astrariumref14_state_FF (a2n,(I 0,()))=some (([false,false],([[]],())),()):=by kernel_rfl
end Go.Proofs.YtkcpdpplobhpaaaGreat.V
