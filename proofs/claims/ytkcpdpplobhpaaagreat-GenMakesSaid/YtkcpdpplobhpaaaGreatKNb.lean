import Derived.Test.YtkcpdpplobhpaaaGreatKNa
import Derived.Deep.AppendLies
import Derived.Deep.RegionLaw
import Derived.BigRegion
set_option linter.unusedVariables false
set_option linter.unusedSimpArgs false
set_option linter.unnecessarySimpa false
section
namespace Go.Proofs.YtkcpdpplobhpaaaGreat
open Go.RowKit Pl
structure OutF (e:TypeId) (base:Nat) (w w':World):Prop where
 below:Below base w w'
 box:∀(c:Nat) (t:TypeId) (cs:Array Value),Blk w c t cs→t≠e→Blk w' c t cs
section
variable {e:TypeId} {base:Nat} {a b c:World}
theorem OutF.size (h:OutF e base a b):a.heap.size≤b.heap.size:=h.below.size
end
end Go.Proofs.YtkcpdpplobhpaaaGreat
end
section
namespace Go.Proofs.YtkcpdpplobhpaaaGreat
open Go.RowKit Pl
end Go.Proofs.YtkcpdpplobhpaaaGreat
end
section
namespace Go.Proofs.YtkcpdpplobhpaaaGreat
open Go.RowKit Pl
end Go.Proofs.YtkcpdpplobhpaaaGreat
end
section
namespace Go.Proofs.YtkcpdpplobhpaaaGreat.Pl
structure Nd where
 frm:List Nat
 to:List Nat
def Apart (N:List Nd):Prop:=∀(i j:Nat) (x y:Nd) (v:Nat),N[i]?=some x→N[j]?=some y→v∈x.to→v∈y.to→i=j
theorem Apart.same {N:List Nd} (ap:Apart N) {x y:Nd} {v:Nat} (hx:x∈N) (hy:y∈N) (h1:v∈x.to) (h2:v∈y.to):x=y:=by
 obtain ⟨i,hi⟩:=List.getElem?_of_mem hx
 obtain ⟨j,hj⟩:=List.getElem?_of_mem hy
 obtain rfl:=ap i j x y v hi hj h1 h2
 rw [hi] at hj
 injection hj
section
variable {N:List Nd}
end
def hasB (N:List Nd):Nat→Nat→Bool
 | 0,v=>N.all fun x=>!x.to.contains v
 | f+1,v=>N.all fun x=>!x.to.contains v||x.frm.all (hasB N f)
def acyB (N:List Nd) (V:Nat):Bool:=(List.range (V+1)).all (hasB N N.length)
/- round by round -/
section
variable {N:List Nd} {V r:Nat}
end
end Go.Proofs.YtkcpdpplobhpaaaGreat.Pl
end
section
namespace Go.Proofs.YtkcpdpplobhpaaaGreat
open Go.RowKit Pl
end Go.Proofs.YtkcpdpplobhpaaaGreat
end
section
namespace Go.Proofs.YtkcpdpplobhpaaaGreat
open Go.RowKit Pl
end Go.Proofs.YtkcpdpplobhpaaaGreat
end
