import Derived.Test.YtmkbdfidnfmgmaaGreatWCc
import Derived.Test.YtmkbdfidnfmgmaaGreatWCe
import Derived.Test.YtmkbdfidnfmgmaaGreatWTd
set_option linter.all false
section
namespace Go.Proofs.YtmkbdfidnfmgmaaGreat.V
open Go Go.RowKit Go.Proofs.YtmkbdfidnfmgmaaGreat.Pl
set_option maxRecDepth 10000
structure RU(ts:jp)(V:Nat):Prop where
 len:ts.length=V+1
 dY:∀v:Int,0<=v->v<=(V:Int)->0<=rv ts v/\rv ts v<=100000
section
variable{ts:jp}{V:Nat}(F:jE ts V)(hV:V<=2000)
include F
theorem jE.bd(hV:V<=2000):RU ts V:=⟨F.len,fun v a b=>by have:=F.le a b;omega⟩
include hV
