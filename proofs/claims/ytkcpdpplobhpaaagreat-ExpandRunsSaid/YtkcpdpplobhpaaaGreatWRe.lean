import Derived.Test.YtkcpdpplobhpaaaGreatWRb
import Derived.Test.YtkcpdpplobhpaaaGreatWRd
set_option linter.unusedVariables false
set_option linter.unusedSimpArgs false
set_option linter.unnecessarySimpa false
section
namespace Go.Proofs.YtkcpdpplobhpaaaGreat.V
open Go Go.RowKit
set_option maxRecDepth 1000000
open Go.Proofs.YtkcpdpplobhpaaaGreat.Pl
set_option maxRecDepth 10000
def abP(n:aB):Int:=(n.aj.length:Int)+dA n
def wid(n:aB):Nat:=(abP n).toNat
structure kJ(n:aB)(V:Nat):Prop where
 hs:cr n V
 h0:dv n=0
 ha:eO (aR n) V=true
 hc:Pl.dF n=0
 ins:n.aL.length<=6
 wd:abP n=(wid n:Int)
 w10:wid n<=10
 sm:∀m∈n.aa,Small m
 off:n.aj.length+ir n.aa=wid n
def Gh(n:aB)(k:Nat):List Bool×List (List aJ):=(oe n (gG k (wid n)) []).2
