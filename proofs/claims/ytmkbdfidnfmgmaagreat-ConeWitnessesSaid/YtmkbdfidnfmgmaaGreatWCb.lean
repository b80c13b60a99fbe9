import Derived.Test.YtmkbdfidnfmgmaaGreatWTb
set_option linter.all false
section
namespace Go.Proofs.YtmkbdfidnfmgmaaGreat.V
open Go Go.RowKit
abbrev vG:Sh:=(.agg [cA,(.sl .I),(.sl .I),(.sl .I)])
abbrev jl:Sh:=(.agg [.I,.I])
abbrev ge:=List (Sh.T jl)
set_option maxRecDepth 1000000
