import Derived.Test.YtmkbdfidnfmgmaaGreatWNc
set_option linter.all false
/- the document's oF: what is sound (printed by VTool.lean). -/
namespace Go.Proofs.YtmkbdfidnfmgmaaGreat.V
open Go Go.RowKit
set_option maxRecDepth 1000000
