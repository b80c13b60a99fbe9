import Derived.Test.YtkcpdpplobhpaaaGreatKNc
set_option linter.unusedVariables false
set_option linter.unusedSimpArgs false
set_option linter.unnecessarySimpa false
/- the document's topo (printed by VTool.lean). -/
namespace Go.Proofs.YtkcpdpplobhpaaaGreat.V
open Go Go.RowKit
set_option maxRecDepth 1000000
abbrev Zja:List Sh:=[(.int .i64)]
abbrev Zhg:List Sh:=[(.int .i64)]
abbrev Zam6:=TL Zja→Option (TL Zhg)
abbrev Zaj2:=Kd 202 Zja Zhg
def Zhw (a0:Int):Option (TL Zhg):=
 some ((IntKind.wrap .i64 (Int.tdiv a0 (2:Int))),())
def Zb3l  :Zaj2:=⟨u1 Zhw,pD Tryz.func202 5 k0 e0 1 (sS l0) fun d=>by kernel_rfl⟩
def Zam7:Zaj2:=Zb3l  
def Zcv:Zam6:=Zam7.F
end Go.Proofs.YtkcpdpplobhpaaaGreat.V
