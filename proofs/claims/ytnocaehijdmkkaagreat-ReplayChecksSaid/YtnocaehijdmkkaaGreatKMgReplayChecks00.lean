import Derived.Test.YtnocaehijdmkkaaGreatKTg
import Derived.Test.YtnocaehijdmkkaaGreatKSb
set_option linter.unusedSectionVars false
set_option linter.unusedVariables false
set_option linter.unusedSimpArgs false
set_option linter.unnecessarySimpa false
/- ReplayChecks: true of all data. -/
namespace Go.Proofs.YtnocaehijdmkkaaGreat.V
open Go Go.RowKit
theorem Zbae (d:Za5.T) (t:Zaah.T) (hd:okD Za5 d) (ht:okD Zaah t):Zawx (d,(t,()))=some (true,()):=by
 obtain ⟨⟨ls,cs,u1⟩,ins,bad,u2⟩:=t
 obtain ⟨b,eb,hb⟩:=Za6b d ls cs ins
 have el:Zauw (d,(((ls,(cs,())),(ins,(bad,()))),()))=some (b,()):=Zba eb rfl
 cases b with
 | false=>exact Zba el (br_tt rfl (Zba Zb3i rfl))
 | true=>
  obtain ⟨h5,hL⟩:=hb rfl
  have ft:=fit_of hd h5
  have hok:okS cs:=okS_of ht.1.2.1
  have e1:=check_is ft ls cs ins bad hok (by have:=hL.2.2.1;omega) (by have:=hL.1;omega)
  have e2:=Zb57 ft ls cs ins bad hok (by have:=hL.2.2.1;omega)
  rw [Zri] at e1 e2
  exact Zba el (br_ff rfl (Zba e1 (Zba e2 (br_tt (dec_t rfl) (br_tt (show selB true (iQ _ _) false=true from dec_t rfl) (Zba Zb3i rfl))))))
end Go.Proofs.YtnocaehijdmkkaaGreat.V
