import Derived.Test.YtkcpdpplobhpaaaGreatWRe
import Derived.Test.YtkcpdpplobhpaaaGreatWRf
set_option linter.unusedVariables false
set_option linter.unusedSimpArgs false
set_option linter.unnecessarySimpa false
section
namespace Go.Proofs.YtkcpdpplobhpaaaGreat.V
open Go Go.RowKit
set_option maxRecDepth 1000000
open Go.Proofs.YtkcpdpplobhpaaaGreat.Pl
set_option maxRecDepth 10000
structure Gk where
 v:Nat
 i:List Int
 l:List cu
 a:List fw
