import Derived.Test.YtkcpdpplobhpaaaGreatKMf
import Derived.Test.YtkcpdpplobhpaaaGreatKSa
import Derived.Test.YtkcpdpplobhpaaaGreatKNe
set_option linter.unusedVariables false
set_option linter.unusedSimpArgs false
set_option linter.unnecessarySimpa false
section
namespace Go.Proofs.YtkcpdpplobhpaaaGreat.V
open Go Go.RowKit
theorem u64w {x:Int} (h:0≤x∧x≤18446744073709551615):IntKind.wrap (.u64:IntKind) x=x:=by
 unfold IntKind.wrap
 simp [IntKind.bits,IntKind.signed]
 omega
end Go.Proofs.YtkcpdpplobhpaaaGreat.V
end
