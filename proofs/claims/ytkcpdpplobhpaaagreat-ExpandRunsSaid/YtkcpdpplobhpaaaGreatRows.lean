/-
  No cell of these rows narrows 'for every input' (looked for: loops, veiled, ifaces, maps, wideKeys, modest, calm, conditions, laid).
  DERIVED. THE GIVEN ROWS OF THIS SEAT. 10 by the template 'for every input the law returns true; each argument reads behind the call as it read before'; 0 by the template 'total and deterministic' (their statements: YtkcpdpplobhpaaaGreatTotals.lean).
  GIVEN WITH THE SEED: the statements are not yours to turn. If you find one false, say at which input.
  Laid BY PROGRAM, IN A SANDBOX (cutbox-rows.mjs): the forced cells as the released guide's own fill.sh prints them over the translation 91194931fa57c7ca… (all of the seat's roots in one cut). By AI agents, Wed Nov 11 2026. No macro, syntax, notation, axiom, sorry.
-/
import Derived.Test.YtkcpdpplobhpaaaGreatChecked
import GoSem.Claim
import GoSem.ClaimJoined
import GoSem.ClaimMapViews
import Derived.JoinedTies
import Derived.KernelRfl
namespace Go.Proofs.YtkcpdpplobhpaaaGreat
/- THE CELL 'sum', in the pinned program and in every row, IS THE sha256 OF THE DUMP (.gsa) THAT YtkcpdpplobhpaaaGreatProg.lean LOADS. Nothing in Lean hashes anything: it is a label: what it is worth is what the hold of that sum in a sandbox is worth. -/
noncomputable def Tryz.pinned : Pinned := { name := "ytkcpdpplobhpaaagreat", sum := "91194931fa57c7ca5c209f92669a340fd4074a0ae1b12391f9815f76f0305ce6", checked := Tryz.checked }
namespace Rows
def none {H : Type} : Left H := { results := [], args := [] }

/-- 'astrariumlaw14.ReachStarts': WHATEVER THE INPUT: true; the input reads as it did. -/
def reachStartsSpec : ChangeSpec := { name := "reachStarts", fn := fun _ => fun
  | [d] => { results := [.lit (.bool true)], args := [d] }
  | _ => none }
def reachStartsRow : OpenClaim := { program := "ytkcpdpplobhpaaagreat", sum := "91194931fa57c7ca5c209f92669a340fd4074a0ae1b12391f9815f76f0305ce6", func := "astrarium/astrariumlaw14.ReachStarts", spec := "reachStarts", unfollowed := true, recurses := true, apart := false }
def ReachStartsSaid : Prop := reachStartsRow.holds Tryz.pinned (OpenSpec.ofChange reachStartsSpec)

/-- ITS FALSE NEIGHBOUR: 'it returns false'. Refute it at one input. -/
def reachStartsWrong : ChangeSpec := { name := "reachStarts", fn := fun _ => fun
  | [d] => { results := [.lit (.bool false)], args := [d] }
  | _ => none }
def ReachStartsWrongFalsely : Prop := reachStartsRow.holds Tryz.pinned (OpenSpec.ofChange reachStartsWrong)

/-- 'astrariumlaw14.ReachSearches': WHATEVER THE INPUT: true; the input reads as it did. -/
def reachSearchesSpec : ChangeSpec := { name := "reachSearches", fn := fun _ => fun
  | [d1, d2] => { results := [.lit (.bool true)], args := [d1, d2] }
  | _ => none }
def reachSearchesRow : OpenClaim := { program := "ytkcpdpplobhpaaagreat", sum := "91194931fa57c7ca5c209f92669a340fd4074a0ae1b12391f9815f76f0305ce6", func := "astrarium/astrariumlaw14.ReachSearches", spec := "reachSearches", unfollowed := true, recurses := true, apart := false }
def ReachSearchesSaid : Prop := reachSearchesRow.holds Tryz.pinned (OpenSpec.ofChange reachSearchesSpec)

/-- ITS FALSE NEIGHBOUR: 'it returns false'. Refute it at one input. -/
def reachSearchesWrong : ChangeSpec := { name := "reachSearches", fn := fun _ => fun
  | [d1, d2] => { results := [.lit (.bool false)], args := [d1, d2] }
  | _ => none }
def ReachSearchesWrongFalsely : Prop := reachSearchesRow.holds Tryz.pinned (OpenSpec.ofChange reachSearchesWrong)

/-- 'astrariumlaw14.ReachCloses': WHATEVER THE INPUT: true; the input reads as it did. -/
def reachClosesSpec : ChangeSpec := { name := "reachCloses", fn := fun _ => fun
  | [d1, d2, d3, d4] => { results := [.lit (.bool true)], args := [d1, d2, d3, d4] }
  | _ => none }
def reachClosesRow : OpenClaim := { program := "ytkcpdpplobhpaaagreat", sum := "91194931fa57c7ca5c209f92669a340fd4074a0ae1b12391f9815f76f0305ce6", func := "astrarium/astrariumlaw14.ReachCloses", spec := "reachCloses", unfollowed := true, recurses := true, apart := false }
def ReachClosesSaid : Prop := reachClosesRow.holds Tryz.pinned (OpenSpec.ofChange reachClosesSpec)

/-- ITS FALSE NEIGHBOUR: 'it returns false'. Refute it at one input. -/
def reachClosesWrong : ChangeSpec := { name := "reachCloses", fn := fun _ => fun
  | [d1, d2, d3, d4] => { results := [.lit (.bool false)], args := [d1, d2, d3, d4] }
  | _ => none }
def ReachClosesWrongFalsely : Prop := reachClosesRow.holds Tryz.pinned (OpenSpec.ofChange reachClosesWrong)

/-- 'astrariumlaw14.ReachPaths': WHATEVER THE INPUT: true; the input reads as it did. -/
def reachPathsSpec : ChangeSpec := { name := "reachPaths", fn := fun _ => fun
  | [d1, d2] => { results := [.lit (.bool true)], args := [d1, d2] }
  | _ => none }
def reachPathsRow : OpenClaim := { program := "ytkcpdpplobhpaaagreat", sum := "91194931fa57c7ca5c209f92669a340fd4074a0ae1b12391f9815f76f0305ce6", func := "astrarium/astrariumlaw14.ReachPaths", spec := "reachPaths", unfollowed := true, recurses := true, apart := false }
def ReachPathsSaid : Prop := reachPathsRow.holds Tryz.pinned (OpenSpec.ofChange reachPathsSpec)

/-- ITS FALSE NEIGHBOUR: 'it returns false'. Refute it at one input. -/
def reachPathsWrong : ChangeSpec := { name := "reachPaths", fn := fun _ => fun
  | [d1, d2] => { results := [.lit (.bool false)], args := [d1, d2] }
  | _ => none }
def ReachPathsWrongFalsely : Prop := reachPathsRow.holds Tryz.pinned (OpenSpec.ofChange reachPathsWrong)

/-- 'astrariumlaw13.ExpandRuns': WHATEVER THE INPUT: true; the input reads as it did. -/
def expandRunsSpec : ChangeSpec := { name := "expandRuns", fn := fun _ => fun
  | [d1, d2, d3] => { results := [.lit (.bool true)], args := [d1, d2, d3] }
  | _ => none }
def expandRunsRow : OpenClaim := { program := "ytkcpdpplobhpaaagreat", sum := "91194931fa57c7ca5c209f92669a340fd4074a0ae1b12391f9815f76f0305ce6", func := "astrarium/astrariumlaw13.ExpandRuns", spec := "expandRuns", unfollowed := true, recurses := true, apart := false }
def ExpandRunsSaid : Prop := expandRunsRow.holds Tryz.pinned (OpenSpec.ofChange expandRunsSpec)

/-- ITS FALSE NEIGHBOUR: 'it returns false'. Refute it at one input. -/
def expandRunsWrong : ChangeSpec := { name := "expandRuns", fn := fun _ => fun
  | [d1, d2, d3] => { results := [.lit (.bool false)], args := [d1, d2, d3] }
  | _ => none }
def ExpandRunsWrongFalsely : Prop := expandRunsRow.holds Tryz.pinned (OpenSpec.ofChange expandRunsWrong)

/-- 'astrariumlaw39.GenRights': WHATEVER THE INPUT: true; the input reads as it did. -/
def genRightsSpec : ChangeSpec := { name := "genRights", fn := fun _ => fun
  | [d1, d2, d3] => { results := [.lit (.bool true)], args := [d1, d2, d3] }
  | _ => none }
def genRightsRow : OpenClaim := { program := "ytkcpdpplobhpaaagreat", sum := "91194931fa57c7ca5c209f92669a340fd4074a0ae1b12391f9815f76f0305ce6", func := "astrarium/astrariumlaw39.GenRights", spec := "genRights", unfollowed := true, recurses := true, apart := false }
def GenRightsSaid : Prop := genRightsRow.holds Tryz.pinned (OpenSpec.ofChange genRightsSpec)

/-- ITS FALSE NEIGHBOUR: 'it returns false'. Refute it at one input. -/
def genRightsWrong : ChangeSpec := { name := "genRights", fn := fun _ => fun
  | [d1, d2, d3] => { results := [.lit (.bool false)], args := [d1, d2, d3] }
  | _ => none }
def GenRightsWrongFalsely : Prop := genRightsRow.holds Tryz.pinned (OpenSpec.ofChange genRightsWrong)

/-- 'astrariumlaw39.GenMakes': WHATEVER THE INPUT: true; the input reads as it did. -/
def genMakesSpec : ChangeSpec := { name := "genMakes", fn := fun _ => fun
  | [d1, d2, d3, d4] => { results := [.lit (.bool true)], args := [d1, d2, d3, d4] }
  | _ => none }
def genMakesRow : OpenClaim := { program := "ytkcpdpplobhpaaagreat", sum := "91194931fa57c7ca5c209f92669a340fd4074a0ae1b12391f9815f76f0305ce6", func := "astrarium/astrariumlaw39.GenMakes", spec := "genMakes", unfollowed := true, recurses := true, apart := false }
def GenMakesSaid : Prop := genMakesRow.holds Tryz.pinned (OpenSpec.ofChange genMakesSpec)

/-- ITS FALSE NEIGHBOUR: 'it returns false'. Refute it at one input. -/
def genMakesWrong : ChangeSpec := { name := "genMakes", fn := fun _ => fun
  | [d1, d2, d3, d4] => { results := [.lit (.bool false)], args := [d1, d2, d3, d4] }
  | _ => none }
def GenMakesWrongFalsely : Prop := genMakesRow.holds Tryz.pinned (OpenSpec.ofChange genMakesWrong)

/-- 'astrariumlaw39.GenCounts': WHATEVER THE INPUT: true; the input reads as it did. -/
def genCountsSpec : ChangeSpec := { name := "genCounts", fn := fun _ => fun
  | [d1, d2] => { results := [.lit (.bool true)], args := [d1, d2] }
  | _ => none }
def genCountsRow : OpenClaim := { program := "ytkcpdpplobhpaaagreat", sum := "91194931fa57c7ca5c209f92669a340fd4074a0ae1b12391f9815f76f0305ce6", func := "astrarium/astrariumlaw39.GenCounts", spec := "genCounts", unfollowed := true, recurses := true, apart := false }
def GenCountsSaid : Prop := genCountsRow.holds Tryz.pinned (OpenSpec.ofChange genCountsSpec)

/-- ITS FALSE NEIGHBOUR: 'it returns false'. Refute it at one input. -/
def genCountsWrong : ChangeSpec := { name := "genCounts", fn := fun _ => fun
  | [d1, d2] => { results := [.lit (.bool false)], args := [d1, d2] }
  | _ => none }
def GenCountsWrongFalsely : Prop := genCountsRow.holds Tryz.pinned (OpenSpec.ofChange genCountsWrong)

/-- 'astrariumlaw39.GenStacks': WHATEVER THE INPUT: true; the input reads as it did. -/
def genStacksSpec : ChangeSpec := { name := "genStacks", fn := fun _ => fun
  | [d] => { results := [.lit (.bool true)], args := [d] }
  | _ => none }
def genStacksRow : OpenClaim := { program := "ytkcpdpplobhpaaagreat", sum := "91194931fa57c7ca5c209f92669a340fd4074a0ae1b12391f9815f76f0305ce6", func := "astrarium/astrariumlaw39.GenStacks", spec := "genStacks", unfollowed := true, recurses := true, apart := false }
def GenStacksSaid : Prop := genStacksRow.holds Tryz.pinned (OpenSpec.ofChange genStacksSpec)

/-- ITS FALSE NEIGHBOUR: 'it returns false'. Refute it at one input. -/
def genStacksWrong : ChangeSpec := { name := "genStacks", fn := fun _ => fun
  | [d] => { results := [.lit (.bool false)], args := [d] }
  | _ => none }
def GenStacksWrongFalsely : Prop := genStacksRow.holds Tryz.pinned (OpenSpec.ofChange genStacksWrong)

/-- 'astrariumlaw29.ConeOfs': WHATEVER THE INPUT: true; the input reads as it did. -/
def coneOfsSpec : ChangeSpec := { name := "coneOfs", fn := fun _ => fun
  | [d] => { results := [.lit (.bool true)], args := [d] }
  | _ => none }
def coneOfsRow : OpenClaim := { program := "ytkcpdpplobhpaaagreat", sum := "91194931fa57c7ca5c209f92669a340fd4074a0ae1b12391f9815f76f0305ce6", func := "astrarium/astrariumlaw29.ConeOfs", spec := "coneOfs", unfollowed := true, recurses := true, apart := false }
def ConeOfsSaid : Prop := coneOfsRow.holds Tryz.pinned (OpenSpec.ofChange coneOfsSpec)

/-- ITS FALSE NEIGHBOUR: 'it returns false'. Refute it at one input. -/
def coneOfsWrong : ChangeSpec := { name := "coneOfs", fn := fun _ => fun
  | [d] => { results := [.lit (.bool false)], args := [d] }
  | _ => none }
def ConeOfsWrongFalsely : Prop := coneOfsRow.holds Tryz.pinned (OpenSpec.ofChange coneOfsWrong)

/- THE SECOND FORM. 'bulk': how many values and letters a reading holds, each counted each time it is reached (what is shared counts as often as it is met; a slice's spare places count too). A statement '..UptoSaid' is the law's where the arguments, and the package variables that the reading takes, are together of bulk at most 1048576: NARROWER than '..Said'. Prove '..Said' where nothing that the law and all that it calls make is longer than what came in: it says more and counts as full. Else prove '..UptoSaid'. A law counts once. -/
mutual
def uptoBulk {H : Type} : DataW H → Nat
  | .lit (.string bytes) => bytes.length + 1
  | .lit _ => 1
  | .nil => 1
  | .ptr d => uptoBulk d + 1
  | .slice elems spare => uptoBulkAll elems + uptoBulkAll spare + 1
  | .agg parts => uptoBulkAll parts + 1
  | .iface _ d => uptoBulk d + 1
  | .map entries => uptoBulkEntries entries + 1
  | .held _ => 1
def uptoBulkAll {H : Type} : List (DataW H) → Nat
  | [] => 0
  | d :: r => uptoBulk d + uptoBulkAll r
def uptoBulkEntries {H : Type} : List (Lit × DataW H) → Nat
  | [] => 0
  | x :: r => uptoBulkEntry x + uptoBulkEntries r
def uptoBulkEntry {H : Type} : Lit × DataW H → Nat
  | (.string bytes, d) => bytes.length + uptoBulk d + 1
  | (_, d) => uptoBulk d + 1
 end
def uptoSmall : (H : Type) → List (DataW H) → Bool := fun _ ds => decide (uptoBulkAll ds ≤ 1048576)
def OpenSpec.upto (s : _root_.Go.ChangeSpec) : _root_.Go.OpenSpec := { _root_.Go.OpenSpec.ofChange s with cond := some uptoSmall }

/-- 'astrariumlaw14.ReachStarts', WHERE WHAT IT READS IS OF BULK AT MOST 1048576: true; the input reads as it did. -/
def reachStartsUptoRow : OpenClaim := { program := "ytkcpdpplobhpaaagreat", sum := "91194931fa57c7ca5c209f92669a340fd4074a0ae1b12391f9815f76f0305ce6", func := "astrarium/astrariumlaw14.ReachStarts", spec := "reachStarts", unfollowed := true, recurses := true, apart := false, narrowed := true }
def ReachStartsUptoSaid : Prop := reachStartsUptoRow.holds Tryz.pinned (OpenSpec.upto reachStartsSpec)

/-- 'astrariumlaw14.ReachSearches', WHERE WHAT IT READS IS OF BULK AT MOST 1048576: true; the input reads as it did. -/
def reachSearchesUptoRow : OpenClaim := { program := "ytkcpdpplobhpaaagreat", sum := "91194931fa57c7ca5c209f92669a340fd4074a0ae1b12391f9815f76f0305ce6", func := "astrarium/astrariumlaw14.ReachSearches", spec := "reachSearches", unfollowed := true, recurses := true, apart := false, narrowed := true }
def ReachSearchesUptoSaid : Prop := reachSearchesUptoRow.holds Tryz.pinned (OpenSpec.upto reachSearchesSpec)

/-- 'astrariumlaw14.ReachCloses', WHERE WHAT IT READS IS OF BULK AT MOST 1048576: true; the input reads as it did. -/
def reachClosesUptoRow : OpenClaim := { program := "ytkcpdpplobhpaaagreat", sum := "91194931fa57c7ca5c209f92669a340fd4074a0ae1b12391f9815f76f0305ce6", func := "astrarium/astrariumlaw14.ReachCloses", spec := "reachCloses", unfollowed := true, recurses := true, apart := false, narrowed := true }
def ReachClosesUptoSaid : Prop := reachClosesUptoRow.holds Tryz.pinned (OpenSpec.upto reachClosesSpec)

/-- 'astrariumlaw14.ReachPaths', WHERE WHAT IT READS IS OF BULK AT MOST 1048576: true; the input reads as it did. -/
def reachPathsUptoRow : OpenClaim := { program := "ytkcpdpplobhpaaagreat", sum := "91194931fa57c7ca5c209f92669a340fd4074a0ae1b12391f9815f76f0305ce6", func := "astrarium/astrariumlaw14.ReachPaths", spec := "reachPaths", unfollowed := true, recurses := true, apart := false, narrowed := true }
def ReachPathsUptoSaid : Prop := reachPathsUptoRow.holds Tryz.pinned (OpenSpec.upto reachPathsSpec)

/-- 'astrariumlaw13.ExpandRuns', WHERE WHAT IT READS IS OF BULK AT MOST 1048576: true; the input reads as it did. -/
def expandRunsUptoRow : OpenClaim := { program := "ytkcpdpplobhpaaagreat", sum := "91194931fa57c7ca5c209f92669a340fd4074a0ae1b12391f9815f76f0305ce6", func := "astrarium/astrariumlaw13.ExpandRuns", spec := "expandRuns", unfollowed := true, recurses := true, apart := false, narrowed := true }
def ExpandRunsUptoSaid : Prop := expandRunsUptoRow.holds Tryz.pinned (OpenSpec.upto expandRunsSpec)

/-- 'astrariumlaw39.GenRights', WHERE WHAT IT READS IS OF BULK AT MOST 1048576: true; the input reads as it did. -/
def genRightsUptoRow : OpenClaim := { program := "ytkcpdpplobhpaaagreat", sum := "91194931fa57c7ca5c209f92669a340fd4074a0ae1b12391f9815f76f0305ce6", func := "astrarium/astrariumlaw39.GenRights", spec := "genRights", unfollowed := true, recurses := true, apart := false, narrowed := true }
def GenRightsUptoSaid : Prop := genRightsUptoRow.holds Tryz.pinned (OpenSpec.upto genRightsSpec)

/-- 'astrariumlaw39.GenMakes', WHERE WHAT IT READS IS OF BULK AT MOST 1048576: true; the input reads as it did. -/
def genMakesUptoRow : OpenClaim := { program := "ytkcpdpplobhpaaagreat", sum := "91194931fa57c7ca5c209f92669a340fd4074a0ae1b12391f9815f76f0305ce6", func := "astrarium/astrariumlaw39.GenMakes", spec := "genMakes", unfollowed := true, recurses := true, apart := false, narrowed := true }
def GenMakesUptoSaid : Prop := genMakesUptoRow.holds Tryz.pinned (OpenSpec.upto genMakesSpec)

/-- 'astrariumlaw39.GenCounts', WHERE WHAT IT READS IS OF BULK AT MOST 1048576: true; the input reads as it did. -/
def genCountsUptoRow : OpenClaim := { program := "ytkcpdpplobhpaaagreat", sum := "91194931fa57c7ca5c209f92669a340fd4074a0ae1b12391f9815f76f0305ce6", func := "astrarium/astrariumlaw39.GenCounts", spec := "genCounts", unfollowed := true, recurses := true, apart := false, narrowed := true }
def GenCountsUptoSaid : Prop := genCountsUptoRow.holds Tryz.pinned (OpenSpec.upto genCountsSpec)

/-- 'astrariumlaw39.GenStacks', WHERE WHAT IT READS IS OF BULK AT MOST 1048576: true; the input reads as it did. -/
def genStacksUptoRow : OpenClaim := { program := "ytkcpdpplobhpaaagreat", sum := "91194931fa57c7ca5c209f92669a340fd4074a0ae1b12391f9815f76f0305ce6", func := "astrarium/astrariumlaw39.GenStacks", spec := "genStacks", unfollowed := true, recurses := true, apart := false, narrowed := true }
def GenStacksUptoSaid : Prop := genStacksUptoRow.holds Tryz.pinned (OpenSpec.upto genStacksSpec)

/-- 'astrariumlaw29.ConeOfs', WHERE WHAT IT READS IS OF BULK AT MOST 1048576: true; the input reads as it did. -/
def coneOfsUptoRow : OpenClaim := { program := "ytkcpdpplobhpaaagreat", sum := "91194931fa57c7ca5c209f92669a340fd4074a0ae1b12391f9815f76f0305ce6", func := "astrarium/astrariumlaw29.ConeOfs", spec := "coneOfs", unfollowed := true, recurses := true, apart := false, narrowed := true }
def ConeOfsUptoSaid : Prop := coneOfsUptoRow.holds Tryz.pinned (OpenSpec.upto coneOfsSpec)

end Rows
end Go.Proofs.YtkcpdpplobhpaaaGreat
