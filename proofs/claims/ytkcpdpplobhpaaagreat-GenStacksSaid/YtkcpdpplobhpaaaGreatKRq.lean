import Derived.Test.YtkcpdpplobhpaaaGreatKRj
set_option linter.unusedVariables false
set_option linter.unusedSimpArgs false
set_option linter.unnecessarySimpa false
/- The smallest stack, searched by the document. -/
namespace Go.Proofs.YtkcpdpplobhpaaaGreat.V
open Go Go.RowKit
set_option maxRecDepth 100000
set_option maxHeartbeats 0
theorem a1mn:astrariumref14_many_FF (a1n,())=some (I 8,()):=by kernel_rfl
def a1Do0:Out astrariumref14_Starts_outs3:=([([false],([[]],()))],())
def a1D1:TL astrariumref14_Starts_lay3.σs:=(I 0,(I 12,([I 1,I 2,I 3],(a1L,([],([I 24],([I 13],(a1M,(a1A,([],()))))))))))
def a1D2:TL astrariumref14_Starts_lay3.σs:=(I 8,(I 12,([I 1,I 2,I 3],(a1L,([],([I 24],([I 13],(a1M,(a1A,([([false],([[]],()))],()))))))))))
theorem a1Dt3:stepsD gdS 8 a1D1=some (.inl a1D2):=by kernel_rfl
theorem a1Dt4:stepsD gdS 1 a1D2=some (.inr a1Do0):=by kernel_rfl
theorem a1Dr5:astrariumref14_Starts_L3 a1D1=some a1Do0:=go_nn (go_in a1Dt3 (go_end a1Dt4)) (by kernel_rfl)
theorem a1ds:astrariumref14_Starts_FF (a1n,())=some ([([false],([[]],()))],()):=(astrariumref14_Starts_eq _).trans (by unfold astrariumref14_Starts_F;exact bnd_k a1Dr5 (by kernel_rfl) (by kernel_rfl))
def a1Eo6:Out astrariumref14_Search_outs5:=(I 20,(I 12,([I 1,I 2,I 3],(a1L,([],([I 24],([I 13],(a1M,(a1A,([false,false,false,false,false,false,false,false],([true,false,false,false,false,false,false,false],())))))))))))
def a1E7:TL astrariumref14_Search_lay5.σs:=(I 20,([([false],([[]],()))],(I 0,(I 12,([I 1,I 2,I 3],(a1L,([],([I 24],([I 13],(a1M,(a1A,([false,false,false,false,false,false,false,false],([false,false,false,false,false,false,false,false],())))))))))))))
theorem a1Et8:stepsD gd5 2 a1E7=some (.inr a1Eo6):=by kernel_rfl
theorem a1Er9:astrariumref14_Search_L5 a1E7=some a1Eo6:=go_nn (go_end a1Et8) (by kernel_rfl)
def a1e10:TL astrariumref14_Search_lay9.σs:=(I 20,(I 1,(I 12,([I 1,I 2,I 3],(a1L,([],([I 24],([I 13],(a1M,(a1A,([false,false,false,false,false,false,false,false],([true,false,false,false,false,false,false,false],()))))))))))))
def a1f11:TL astrariumref14_Search_lay14.σs:=(I 20,(I 1,(false,(I 0,(I 12,([I 1,I 2,I 3],(a1L,([],([I 24],([I 13],(a1M,(a1A,([false,false,false,false,false,false,false,false],([true,false,false,false,false,false,false,false],([false,false,false,false,false,false,false,false],())))))))))))))))
theorem a1sf12:astrariumref14_state_FF (a1n,(I 0,()))=some (([false],([[]],())),()):=by kernel_rfl
def a1go13:Out astrariumref14_cycle_outs3:=(false,([true,true,false,true,false,false,false,false],()))
def a1g14:TL astrariumref14_cycle_lay3.σs:=(false,(I 0,([false,false,false,false,false,false,false,false],(I 12,([I 1,I 2,I 3],(a1L,([],([I 24],([I 13],(a1M,(a1A,([false],([[]],())))))))))))))
def a1g15:TL astrariumref14_cycle_lay3.σs:=(false,(I 8,([true,true,false,true,false,false,false,false],(I 12,([I 1,I 2,I 3],(a1L,([],([I 24],([I 13],(a1M,(a1A,([false],([[]],())))))))))))))
theorem a1gt16:stepsD gd3 8 a1g14=some (.inl a1g15):=by kernel_rfl
theorem a1gt17:stepsD gd3 1 a1g15=some (.inr a1go13):=by kernel_rfl
theorem a1gr18:astrariumref14_cycle_L3 a1g14=some a1go13:=go_nn (go_in a1gt16 (go_end a1gt17)) (by kernel_rfl)
def a1ca19:TL astrariumref14_cycle_lay.σs:=(I 12,([I 1,I 2,I 3],(a1L,([],([I 24],([I 13],(a1M,(a1A,([false],([[]],([false,false,false,false,false,false,false,false],())))))))))))
def a1co20:Out astrariumref14_cycle_outs:=(false,([true,true,false,true,false,false,false,false],()))
theorem a1cy21:astrariumref14_cycle_FF a1ca19=some a1co20:=(astrariumref14_cycle_eq _).trans (by unfold astrariumref14_cycle_F;exact bnd_k a1gr18 (by kernel_rfl) (by kernel_rfl))
def a1f23:TL astrariumref14_Search_lay14.σs:=(I 20,(I 1,(true,(I 1,(I 12,([I 1,I 2,I 3],(a1L,([],([I 24],([I 13],(a1M,(a1A,([true,false,false,false,false,false,false,false],([true,false,false,false,false,false,false,false],([true,true,false,true,false,false,false,false],())))))))))))))))
theorem a1h22:gd14 a1f11=some (.inl a1f23):=br_tt (by kernel_rfl) (Zaj (by kernel_rfl) (br_ff (by kernel_rfl) (Zaj (by kernel_rfl) (br_ff (by kernel_rfl) (Zaj (by kernel_rfl) (bnd_k a1sf12 (by kernel_rfl) (bnd_k a1cy21 (by kernel_rfl) (by kernel_rfl))))))))
def a1fo25:Out astrariumref14_Search_outs14:=.inr ((I 20,(I 1,(true,(I 12,([I 1,I 2,I 3],(a1L,([],([I 24],([I 13],(a1M,(a1A,([true,false,false,false,false,false,false,false],([true,true,false,true,false,false,false,false],()))))))))))))))
theorem a1h24:stepsD gd14 8 a1f23=some (.inr a1fo25):=by kernel_rfl
theorem a1i26:astrariumref14_Search_L14 a1f11=some a1fo25:=go_nn (go_1 a1h22 (go_end a1h24)) (by kernel_rfl)
def a1e28:TL astrariumref14_Search_lay9.σs:=(I 20,(I 2,(I 12,([I 1,I 2,I 3],(a1L,([],([I 24],([I 13],(a1M,(a1A,([true,false,false,false,false,false,false,false],([true,true,false,true,false,false,false,false],()))))))))))))
theorem a1j27:gd9 a1e10=some (.inl a1e28):=br_tt (by kernel_rfl) (bnd_k a1mn (by kernel_rfl) (Zaj (by kernel_rfl) (bnd_k a1i26 (by kernel_rfl) (by kernel_rfl))))
def a1f29:TL astrariumref14_Search_lay14.σs:=(I 20,(I 2,(false,(I 0,(I 12,([I 1,I 2,I 3],(a1L,([],([I 24],([I 13],(a1M,(a1A,([true,false,false,false,false,false,false,false],([true,true,false,true,false,false,false,false],([false,false,false,false,false,false,false,false],())))))))))))))))
def a1f31:TL astrariumref14_Search_lay14.σs:=(I 20,(I 2,(false,(I 1,(I 12,([I 1,I 2,I 3],(a1L,([],([I 24],([I 13],(a1M,(a1A,([true,false,false,false,false,false,false,false],([true,true,false,true,false,false,false,false],([false,false,false,false,false,false,false,false],())))))))))))))))
theorem a1h30:stepsD gd14 1 a1f29=some (.inl a1f31):=by kernel_rfl
theorem a1sf32:astrariumref14_state_FF (a1n,(I 1,()))=some (([true],([[]],())),()):=by kernel_rfl
def a1go33:Out astrariumref14_cycle_outs3:=(true,([true,true,false,false,true,false,false,false],()))
def a1g34:TL astrariumref14_cycle_lay3.σs:=(false,(I 0,([false,false,false,false,false,false,false,false],(I 12,([I 1,I 2,I 3],(a1L,([],([I 24],([I 13],(a1M,(a1A,([true],([[]],())))))))))))))
def a1g35:TL astrariumref14_cycle_lay3.σs:=(true,(I 8,([true,true,false,false,true,false,false,false],(I 12,([I 1,I 2,I 3],(a1L,([],([I 24],([I 13],(a1M,(a1A,([true],([[]],())))))))))))))
theorem a1gt36:stepsD gd3 8 a1g34=some (.inl a1g35):=by kernel_rfl
theorem a1gt37:stepsD gd3 1 a1g35=some (.inr a1go33):=by kernel_rfl
theorem a1gr38:astrariumref14_cycle_L3 a1g34=some a1go33:=go_nn (go_in a1gt36 (go_end a1gt37)) (by kernel_rfl)
def a1ca39:TL astrariumref14_cycle_lay.σs:=(I 12,([I 1,I 2,I 3],(a1L,([],([I 24],([I 13],(a1M,(a1A,([true],([[]],([false,false,false,false,false,false,false,false],())))))))))))
def a1co40:Out astrariumref14_cycle_outs:=(true,([true,true,false,false,true,false,false,false],()))
theorem a1cy41:astrariumref14_cycle_FF a1ca39=some a1co40:=(astrariumref14_cycle_eq _).trans (by unfold astrariumref14_cycle_F;exact bnd_k a1gr38 (by kernel_rfl) (by kernel_rfl))
def a1fo43:Out astrariumref14_Search_outs14:=.inl ((I 2,(false,(I 0,()))))
theorem a1h42:gd14 a1f31=some (.inr a1fo43):=br_tt (by kernel_rfl) (Zaj (by kernel_rfl) (br_ff (by kernel_rfl) (Zaj (by kernel_rfl) (br_ff (by kernel_rfl) (Zaj (by kernel_rfl) (bnd_k a1sf32 (by kernel_rfl) (bnd_k a1cy41 (by kernel_rfl) (by kernel_rfl))))))))
theorem a1i44:astrariumref14_Search_L14 a1f29=some a1fo43:=go_nn (go_in a1h30 (go_x a1h42)) (by kernel_rfl)
def a1eo46:Out astrariumref14_Search_outs9:=.inl ((I 2,(false,(I 0,()))))
theorem a1j45:gd9 a1e28=some (.inr a1eo46):=br_tt (by kernel_rfl) (bnd_k a1mn (by kernel_rfl) (Zaj (by kernel_rfl) (bnd_k a1i44 (by kernel_rfl) (by kernel_rfl))))
theorem a1r9:astrariumref14_Search_L9 a1e10=some a1eo46:=go_nn (go_1 a1j27 (go_x a1j45)) (by kernel_rfl)
theorem a1dse:astrariumref14_Search_FF (a1n,(I 20,()))=some (I 2,(false,(I 0,()))):=(astrariumref14_Search_eq _).trans (by unfold astrariumref14_Search_F;exact bnd_k a1mn (by kernel_rfl) (Zaj (by kernel_rfl) (bnd_k a1mn (by kernel_rfl) (Zaj (by kernel_rfl) (bnd_k a1ds (by kernel_rfl) (bnd_k a1Er9 (by kernel_rfl) (bnd_k a1r9 (by kernel_rfl) (by kernel_rfl))))))))
end Go.Proofs.YtkcpdpplobhpaaaGreat.V
