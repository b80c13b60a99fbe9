import Derived.Test.YtmkbdfidnfmgmaaGreatWNx
set_option linter.all false
/- the document's topo (printed by VTool.lean). -/
namespace Go.Proofs.YtmkbdfidnfmgmaaGreat.V
open Go Go.RowKit
set_option maxRecDepth 1000000
