import Derived.Test.YtkcpdpplobhpaaaGreatKRu
import Derived.Test.YtkcpdpplobhpaaaGreatKRv
import Derived.Test.YtkcpdpplobhpaaaGreatKRw
import Derived.Test.YtkcpdpplobhpaaaGreatKRx
import Derived.Test.YtkcpdpplobhpaaaGreatKRp
import Derived.Test.YtkcpdpplobhpaaaGreatKRq
import Derived.Test.YtkcpdpplobhpaaaGreatKRs
import Derived.Test.YtkcpdpplobhpaaaGreatKRh
import Derived.Test.YtkcpdpplobhpaaaGreatKMf
set_option linter.unusedSectionVars false
set_option linter.unusedVariables false
set_option linter.unusedSimpArgs false
set_option linter.unnecessarySimpa false
section
namespace Go.Proofs.YtkcpdpplobhpaaaGreat.V
open Go Go.RowKit
set_option maxRecDepth 100000
set_option maxHeartbeats 0
theorem a2Dr19:astrariumref14_Starts_L3 a2D1=some a2Do0:=go_nn (go_in a2Dt10a (go_in a2Dt10b (go_in a2Dt11a (go_in a2Dt11b (go_in a2Dt12a (go_in a2Dt12b (go_in a2Dt13a (go_in a2Dt13b (go_in a2Dt14a (go_in a2Dt14b (go_in a2Dt15a (go_in a2Dt15b (go_in a2Dt16a (go_in a2Dt16b (go_in a2Dt17a (go_in a2Dt17b (go_end a2Dt18))))))))))))))))) (by kernel_rfl)
theorem a2ds:astrariumref14_Starts_FF (a2n,())=some ([([false,false],([[]],()))],()):=(astrariumref14_Starts_eq _).trans (by unfold astrariumref14_Starts_F;exact bnd_k a2Dr19 (by kernel_rfl) (by kernel_rfl))
theorem a2Er23:astrariumref14_Search_L5 a2E21=some a2Eo20:=go_nn (go_end a2Et22) (by kernel_rfl)
theorem a2gr32:astrariumref14_cycle_L3 a2g28=some a2go27:=go_nn (go_in a2gt30 (go_end a2gt31)) (by kernel_rfl)
theorem a2cy35:astrariumref14_cycle_FF a2ca33=some a2co34:=(astrariumref14_cycle_eq _).trans (by unfold astrariumref14_cycle_F;exact bnd_k a2gr32 (by kernel_rfl) (by kernel_rfl))
theorem a2h36:gd14 a2f25=some (.inl a2f37):=br_tt (by kernel_rfl) (Zaj (by kernel_rfl) (br_ff (by kernel_rfl) (Zaj (by kernel_rfl) (br_ff (by kernel_rfl) (Zaj (by kernel_rfl) (bnd_k a2sf26 (by kernel_rfl) (bnd_k a2cy35 (by kernel_rfl) (by kernel_rfl))))))))
theorem a2i40:astrariumref14_Search_L14 a2f25=some a2fo39:=go_nn (go_1 a2h36 (go_end a2h38)) (by kernel_rfl)
theorem a2j41:gd9 a2e24=some (.inl a2e42):=br_tt (by kernel_rfl) (bnd_k a2mn (by kernel_rfl) (Zaj (by kernel_rfl) (bnd_k a2i40 (by kernel_rfl) (by kernel_rfl))))
theorem a2gr52:astrariumref14_cycle_L3 a2g48=some a2go47:=go_nn (go_in a2gt50 (go_end a2gt51)) (by kernel_rfl)
theorem a2cy55:astrariumref14_cycle_FF a2ca53=some a2co54:=(astrariumref14_cycle_eq _).trans (by unfold astrariumref14_cycle_F;exact bnd_k a2gr52 (by kernel_rfl) (by kernel_rfl))
theorem a2h56:gd14 a2f45=some (.inl a2f57):=br_tt (by kernel_rfl) (Zaj (by kernel_rfl) (br_ff (by kernel_rfl) (Zaj (by kernel_rfl) (br_ff (by kernel_rfl) (Zaj (by kernel_rfl) (bnd_k a2sf46 (by kernel_rfl) (bnd_k a2cy55 (by kernel_rfl) (by kernel_rfl))))))))
theorem a2gr66:astrariumref14_cycle_L3 a2g62=some a2go61:=go_nn (go_in a2gt64 (go_end a2gt65)) (by kernel_rfl)
theorem a2cy69:astrariumref14_cycle_FF a2ca67=some a2co68:=(astrariumref14_cycle_eq _).trans (by unfold astrariumref14_cycle_F;exact bnd_k a2gr66 (by kernel_rfl) (by kernel_rfl))
theorem a2h70:gd14 a2f59=some (.inl a2f71):=br_tt (by kernel_rfl) (Zaj (by kernel_rfl) (br_ff (by kernel_rfl) (Zaj (by kernel_rfl) (br_ff (by kernel_rfl) (Zaj (by kernel_rfl) (bnd_k a2sf60 (by kernel_rfl) (bnd_k a2cy69 (by kernel_rfl) (by kernel_rfl))))))))
theorem a2i74:astrariumref14_Search_L14 a2f43=some a2fo73:=go_nn (go_in a2h44 (go_1 a2h56 (go_in a2h58 (go_1 a2h70 (go_end a2h72))))) (by kernel_rfl)
theorem a2j75:gd9 a2e42=some (.inl a2e76):=br_tt (by kernel_rfl) (bnd_k a2mn (by kernel_rfl) (Zaj (by kernel_rfl) (bnd_k a2i74 (by kernel_rfl) (by kernel_rfl))))
theorem a2gr86:astrariumref14_cycle_L3 a2g82=some a2go81:=go_nn (go_in a2gt84 (go_end a2gt85)) (by kernel_rfl)
theorem a2cy89:astrariumref14_cycle_FF a2ca87=some a2co88:=(astrariumref14_cycle_eq _).trans (by unfold astrariumref14_cycle_F;exact bnd_k a2gr86 (by kernel_rfl) (by kernel_rfl))
theorem a2h90:gd14 a2f79=some (.inl a2f91):=br_tt (by kernel_rfl) (Zaj (by kernel_rfl) (br_ff (by kernel_rfl) (Zaj (by kernel_rfl) (br_ff (by kernel_rfl) (Zaj (by kernel_rfl) (bnd_k a2sf80 (by kernel_rfl) (bnd_k a2cy89 (by kernel_rfl) (by kernel_rfl))))))))
theorem a2gr100:astrariumref14_cycle_L3 a2g96=some a2go95:=go_nn (go_in a2gt98 (go_end a2gt99)) (by kernel_rfl)
theorem a2cy103:astrariumref14_cycle_FF a2ca101=some a2co102:=(astrariumref14_cycle_eq _).trans (by unfold astrariumref14_cycle_F;exact bnd_k a2gr100 (by kernel_rfl) (by kernel_rfl))
theorem a2h104:gd14 a2f93=some (.inl a2f105):=br_tt (by kernel_rfl) (Zaj (by kernel_rfl) (br_ff (by kernel_rfl) (Zaj (by kernel_rfl) (br_ff (by kernel_rfl) (Zaj (by kernel_rfl) (bnd_k a2sf94 (by kernel_rfl) (bnd_k a2cy103 (by kernel_rfl) (by kernel_rfl))))))))
theorem a2gr114:astrariumref14_cycle_L3 a2g110=some a2go109:=go_nn (go_in a2gt112 (go_end a2gt113)) (by kernel_rfl)
theorem a2cy117:astrariumref14_cycle_FF a2ca115=some a2co116:=(astrariumref14_cycle_eq _).trans (by unfold astrariumref14_cycle_F;exact bnd_k a2gr114 (by kernel_rfl) (by kernel_rfl))
theorem a2h118:gd14 a2f107=some (.inl a2f119):=br_tt (by kernel_rfl) (Zaj (by kernel_rfl) (br_ff (by kernel_rfl) (Zaj (by kernel_rfl) (br_ff (by kernel_rfl) (Zaj (by kernel_rfl) (bnd_k a2sf108 (by kernel_rfl) (bnd_k a2cy117 (by kernel_rfl) (by kernel_rfl))))))))
theorem a2gr128:astrariumref14_cycle_L3 a2g124=some a2go123:=go_nn (go_in a2gt126 (go_end a2gt127)) (by kernel_rfl)
theorem a2cy131:astrariumref14_cycle_FF a2ca129=some a2co130:=(astrariumref14_cycle_eq _).trans (by unfold astrariumref14_cycle_F;exact bnd_k a2gr128 (by kernel_rfl) (by kernel_rfl))
theorem a2h132:gd14 a2f121=some (.inl a2f133):=br_tt (by kernel_rfl) (Zaj (by kernel_rfl) (br_ff (by kernel_rfl) (Zaj (by kernel_rfl) (br_ff (by kernel_rfl) (Zaj (by kernel_rfl) (bnd_k a2sf122 (by kernel_rfl) (bnd_k a2cy131 (by kernel_rfl) (by kernel_rfl))))))))
theorem a2i136:astrariumref14_Search_L14 a2f77=some a2fo135:=go_nn (go_in a2h78 (go_1 a2h90 (go_in a2h92 (go_1 a2h104 (go_in a2h106 (go_1 a2h118 (go_in a2h120 (go_1 a2h132 (go_end a2h134))))))))) (by kernel_rfl)
theorem a2j137:gd9 a2e76=some (.inl a2e138):=br_tt (by kernel_rfl) (bnd_k a2mn (by kernel_rfl) (Zaj (by kernel_rfl) (bnd_k a2i136 (by kernel_rfl) (by kernel_rfl))))
theorem a2gr148:astrariumref14_cycle_L3 a2g144=some a2go143:=go_nn (go_in a2gt146 (go_end a2gt147)) (by kernel_rfl)
theorem a2cy151:astrariumref14_cycle_FF a2ca149=some a2co150:=(astrariumref14_cycle_eq _).trans (by unfold astrariumref14_cycle_F;exact bnd_k a2gr148 (by kernel_rfl) (by kernel_rfl))
theorem a2h152:gd14 a2f141=some (.inr a2fo153):=br_tt (by kernel_rfl) (Zaj (by kernel_rfl) (br_ff (by kernel_rfl) (Zaj (by kernel_rfl) (br_ff (by kernel_rfl) (Zaj (by kernel_rfl) (bnd_k a2sf142 (by kernel_rfl) (bnd_k a2cy151 (by kernel_rfl) (by kernel_rfl))))))))
theorem a2i154:astrariumref14_Search_L14 a2f139=some a2fo153:=go_nn (go_in a2h140 (go_x a2h152)) (by kernel_rfl)
theorem a2j155:gd9 a2e138=some (.inr a2eo156):=br_tt (by kernel_rfl) (bnd_k a2mn (by kernel_rfl) (Zaj (by kernel_rfl) (bnd_k a2i154 (by kernel_rfl) (by kernel_rfl))))
theorem a2r9:astrariumref14_Search_L9 a2e24=some a2eo156:=go_nn (go_1 a2j41 (go_1 a2j75 (go_1 a2j137 (go_x a2j155)))) (by kernel_rfl)
theorem a2dse:astrariumref14_Search_FF (a2n,(I 20,()))=some (I 4,(false,(I 0,()))):=(astrariumref14_Search_eq _).trans (by unfold astrariumref14_Search_F;exact bnd_k a2mn (by kernel_rfl) (Zaj (by kernel_rfl) (bnd_k a2mn (by kernel_rfl) (Zaj (by kernel_rfl) (bnd_k a2ds (by kernel_rfl) (bnd_k a2Er23 (by kernel_rfl) (bnd_k a2r9 (by kernel_rfl) (by kernel_rfl))))))))
end Go.Proofs.YtkcpdpplobhpaaaGreat.V
end
section
namespace Go.Proofs.YtkcpdpplobhpaaaGreat.V
open Go Go.RowKit
set_option maxRecDepth 100000
theorem stacks_1:astrariumlaw39_GenStacks_FF (I 1,())=some (true,()):=(astrariumlaw39_GenStacks_eq _).trans (by
 unfold astrariumlaw39_GenStacks_F
 exact br_ff (by kernel_rfl) (br_ff (by kernel_rfl) (bnd_k a1gn (by kernel_rfl) (br_ff (by kernel_rfl) (bnd_k a1s14 (by kernel_rfl) (br_ff (by kernel_rfl) (bnd_k a1dse (by kernel_rfl) (bnd_k a1se (by kernel_rfl) (br_tt (by kernel_rfl) (br_tt (by kernel_rfl) (Zaj (by kernel_rfl) (br_tt (by kernel_rfl) (bnd_k alive39_is (by kernel_rfl) (by kernel_rfl))))))))))))))
theorem stacks_2:astrariumlaw39_GenStacks_FF (I 2,())=some (true,()):=(astrariumlaw39_GenStacks_eq _).trans (by
 unfold astrariumlaw39_GenStacks_F
 exact br_ff (by kernel_rfl) (br_ff (by kernel_rfl) (bnd_k a2gn (by kernel_rfl) (br_ff (by kernel_rfl) (bnd_k a2s14 (by kernel_rfl) (br_ff (by kernel_rfl) (bnd_k a2dse (by kernel_rfl) (bnd_k a2se (by kernel_rfl) (br_tt (by kernel_rfl) (br_tt (by kernel_rfl) (Zaj (by kernel_rfl) (br_tt (by kernel_rfl) (bnd_k alive39_is (by kernel_rfl) (by kernel_rfl))))))))))))))
theorem genStacks_is (a:Int):astrariumlaw39_GenStacks_FF (a,())=some (true,()):=by
 by_cases h1:a<1
 ·exact br_tt (dec_t h1) (Zba alive39_is rfl)
 by_cases h2:2<a
 ·refine br_ff (dec_f h1) (br_tt ?_ (Zba alive39_is rfl))
  have q:iL 2 a=true:=dec_t h2
  show selB false true (iL 2 a)=true
  rw [q];rfl
 by_cases h3:a=1
 ·subst h3;exact stacks_1
 ·obtain rfl:a=2:=by omega
  exact stacks_2
end Go.Proofs.YtkcpdpplobhpaaaGreat.V
end
