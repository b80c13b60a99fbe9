/-
  No cell of these rows narrows 'for every input' (looked for: loops, veiled, ifaces, maps, wideKeys, modest, calm, conditions, laid).
  DERIVED. THE GIVEN ROWS OF THIS SEAT. 8 by the template 'for every input the law returns true; each argument reads behind the call as it read before'; 0 by the template 'total and deterministic' (their statements: YtnocaehijdmkkaaGreatTotals.lean).
  GIVEN WITH THE SEED: the statements are not yours to turn. If you find one false, say at which input.
  Laid BY PROGRAM, IN A SANDBOX (cutbox-rows.mjs): the forced cells as the released guide's own fill.sh prints them over the translation 250b40ee5a7c7e98… (all of the seat's roots in one cut). By AI agents, Wed Nov 11 2026. No macro, syntax, notation, axiom, sorry.
-/
import Derived.Test.YtnocaehijdmkkaaGreatChecked
import GoSem.Claim
import GoSem.ClaimJoined
import GoSem.ClaimMapViews
import Derived.JoinedTies
import Derived.KernelRfl
namespace Go.Proofs.YtnocaehijdmkkaaGreat
/- THE CELL 'sum', in the pinned program and in every row, IS THE sha256 OF THE DUMP (.gsa) THAT YtnocaehijdmkkaaGreatProg.lean LOADS. Nothing in Lean hashes anything: it is a label: what it is worth is what the hold of that sum in a sandbox is worth. -/
noncomputable def Tryz.pinned : Pinned := { name := "ytnocaehijdmkkaagreat", sum := "250b40ee5a7c7e982fa9e223b22d3bc45e0c64de626b9f80f26195f08802bd09", checked := Tryz.checked }
namespace Rows
def none {H : Type} : Left H := { results := [], args := [] }

/-- 'astrariumlaw16.ReplayChecks': WHATEVER THE INPUT: true; the input reads as it did. -/
def replayChecksSpec : ChangeSpec := { name := "replayChecks", fn := fun _ => fun
  | [d1, d2] => { results := [.lit (.bool true)], args := [d1, d2] }
  | _ => none }
def replayChecksRow : OpenClaim := { program := "ytnocaehijdmkkaagreat", sum := "250b40ee5a7c7e982fa9e223b22d3bc45e0c64de626b9f80f26195f08802bd09", func := "astrarium/astrariumlaw16.ReplayChecks", spec := "replayChecks", unfollowed := true, recurses := true, apart := false }
def ReplayChecksSaid : Prop := replayChecksRow.holds Tryz.pinned (OpenSpec.ofChange replayChecksSpec)

/-- ITS FALSE NEIGHBOUR: 'it returns false'. Refute it at one input. -/
def replayChecksWrong : ChangeSpec := { name := "replayChecks", fn := fun _ => fun
  | [d1, d2] => { results := [.lit (.bool false)], args := [d1, d2] }
  | _ => none }
def ReplayChecksWrongFalsely : Prop := replayChecksRow.holds Tryz.pinned (OpenSpec.ofChange replayChecksWrong)

/-- 'astrariumlaw16.ReplayLeasts': WHATEVER THE INPUT: true; the input reads as it did. -/
def replayLeastsSpec : ChangeSpec := { name := "replayLeasts", fn := fun _ => fun
  | [d1, d2] => { results := [.lit (.bool true)], args := [d1, d2] }
  | _ => none }
def replayLeastsRow : OpenClaim := { program := "ytnocaehijdmkkaagreat", sum := "250b40ee5a7c7e982fa9e223b22d3bc45e0c64de626b9f80f26195f08802bd09", func := "astrarium/astrariumlaw16.ReplayLeasts", spec := "replayLeasts", unfollowed := true, recurses := true, apart := false }
def ReplayLeastsSaid : Prop := replayLeastsRow.holds Tryz.pinned (OpenSpec.ofChange replayLeastsSpec)

/-- ITS FALSE NEIGHBOUR: 'it returns false'. Refute it at one input. -/
def replayLeastsWrong : ChangeSpec := { name := "replayLeasts", fn := fun _ => fun
  | [d1, d2] => { results := [.lit (.bool false)], args := [d1, d2] }
  | _ => none }
def ReplayLeastsWrongFalsely : Prop := replayLeastsRow.holds Tryz.pinned (OpenSpec.ofChange replayLeastsWrong)

/-- 'astrariumlaw12.SimPlays': WHATEVER THE INPUT: true; the input reads as it did. -/
def simPlaysSpec : ChangeSpec := { name := "simPlays", fn := fun _ => fun
  | [d1, d2, d3] => { results := [.lit (.bool true)], args := [d1, d2, d3] }
  | _ => none }
def simPlaysRow : OpenClaim := { program := "ytnocaehijdmkkaagreat", sum := "250b40ee5a7c7e982fa9e223b22d3bc45e0c64de626b9f80f26195f08802bd09", func := "astrarium/astrariumlaw12.SimPlays", spec := "simPlays", unfollowed := true, recurses := true, apart := false }
def SimPlaysSaid : Prop := simPlaysRow.holds Tryz.pinned (OpenSpec.ofChange simPlaysSpec)

/-- ITS FALSE NEIGHBOUR: 'it returns false'. Refute it at one input. -/
def simPlaysWrong : ChangeSpec := { name := "simPlays", fn := fun _ => fun
  | [d1, d2, d3] => { results := [.lit (.bool false)], args := [d1, d2, d3] }
  | _ => none }
def SimPlaysWrongFalsely : Prop := simPlaysRow.holds Tryz.pinned (OpenSpec.ofChange simPlaysWrong)

/-- 'astrariumlaw12.SimRuns': WHATEVER THE INPUT: true; the input reads as it did. -/
def simRunsSpec : ChangeSpec := { name := "simRuns", fn := fun _ => fun
  | [d1, d2, d3] => { results := [.lit (.bool true)], args := [d1, d2, d3] }
  | _ => none }
def simRunsRow : OpenClaim := { program := "ytnocaehijdmkkaagreat", sum := "250b40ee5a7c7e982fa9e223b22d3bc45e0c64de626b9f80f26195f08802bd09", func := "astrarium/astrariumlaw12.SimRuns", spec := "simRuns", unfollowed := true, recurses := true, apart := false }
def SimRunsSaid : Prop := simRunsRow.holds Tryz.pinned (OpenSpec.ofChange simRunsSpec)

/-- ITS FALSE NEIGHBOUR: 'it returns false'. Refute it at one input. -/
def simRunsWrong : ChangeSpec := { name := "simRuns", fn := fun _ => fun
  | [d1, d2, d3] => { results := [.lit (.bool false)], args := [d1, d2, d3] }
  | _ => none }
def SimRunsWrongFalsely : Prop := simRunsRow.holds Tryz.pinned (OpenSpec.ofChange simRunsWrong)

/-- 'astrariumlaw12.SimParts': WHATEVER THE INPUT: true; the input reads as it did. -/
def simPartsSpec : ChangeSpec := { name := "simParts", fn := fun _ => fun
  | [d1, d2, d3, d4, d5] => { results := [.lit (.bool true)], args := [d1, d2, d3, d4, d5] }
  | _ => none }
def simPartsRow : OpenClaim := { program := "ytnocaehijdmkkaagreat", sum := "250b40ee5a7c7e982fa9e223b22d3bc45e0c64de626b9f80f26195f08802bd09", func := "astrarium/astrariumlaw12.SimParts", spec := "simParts", unfollowed := true, recurses := true, apart := false }
def SimPartsSaid : Prop := simPartsRow.holds Tryz.pinned (OpenSpec.ofChange simPartsSpec)

/-- ITS FALSE NEIGHBOUR: 'it returns false'. Refute it at one input. -/
def simPartsWrong : ChangeSpec := { name := "simParts", fn := fun _ => fun
  | [d1, d2, d3, d4, d5] => { results := [.lit (.bool false)], args := [d1, d2, d3, d4, d5] }
  | _ => none }
def SimPartsWrongFalsely : Prop := simPartsRow.holds Tryz.pinned (OpenSpec.ofChange simPartsWrong)

/-- 'astrariumlaw12.SimSets': WHATEVER THE INPUT: true; the input reads as it did. -/
def simSetsSpec : ChangeSpec := { name := "simSets", fn := fun _ => fun
  | [d1, d2, d3, d4] => { results := [.lit (.bool true)], args := [d1, d2, d3, d4] }
  | _ => none }
def simSetsRow : OpenClaim := { program := "ytnocaehijdmkkaagreat", sum := "250b40ee5a7c7e982fa9e223b22d3bc45e0c64de626b9f80f26195f08802bd09", func := "astrarium/astrariumlaw12.SimSets", spec := "simSets", unfollowed := true, recurses := true, apart := false }
def SimSetsSaid : Prop := simSetsRow.holds Tryz.pinned (OpenSpec.ofChange simSetsSpec)

/-- ITS FALSE NEIGHBOUR: 'it returns false'. Refute it at one input. -/
def simSetsWrong : ChangeSpec := { name := "simSets", fn := fun _ => fun
  | [d1, d2, d3, d4] => { results := [.lit (.bool false)], args := [d1, d2, d3, d4] }
  | _ => none }
def SimSetsWrongFalsely : Prop := simSetsRow.holds Tryz.pinned (OpenSpec.ofChange simSetsWrong)

/-- 'astrariumlaw12.SimStates': WHATEVER THE INPUT: true; the input reads as it did. -/
def simStatesSpec : ChangeSpec := { name := "simStates", fn := fun _ => fun
  | [d1, d2] => { results := [.lit (.bool true)], args := [d1, d2] }
  | _ => none }
def simStatesRow : OpenClaim := { program := "ytnocaehijdmkkaagreat", sum := "250b40ee5a7c7e982fa9e223b22d3bc45e0c64de626b9f80f26195f08802bd09", func := "astrarium/astrariumlaw12.SimStates", spec := "simStates", unfollowed := true, recurses := true, apart := false }
def SimStatesSaid : Prop := simStatesRow.holds Tryz.pinned (OpenSpec.ofChange simStatesSpec)

/-- ITS FALSE NEIGHBOUR: 'it returns false'. Refute it at one input. -/
def simStatesWrong : ChangeSpec := { name := "simStates", fn := fun _ => fun
  | [d1, d2] => { results := [.lit (.bool false)], args := [d1, d2] }
  | _ => none }
def SimStatesWrongFalsely : Prop := simStatesRow.holds Tryz.pinned (OpenSpec.ofChange simStatesWrong)

/-- 'astrariumlaw16.ReplayBads': WHATEVER THE INPUT: true; the input reads as it did. -/
def replayBadsSpec : ChangeSpec := { name := "replayBads", fn := fun _ => fun
  | [d1, d2] => { results := [.lit (.bool true)], args := [d1, d2] }
  | _ => none }
def replayBadsRow : OpenClaim := { program := "ytnocaehijdmkkaagreat", sum := "250b40ee5a7c7e982fa9e223b22d3bc45e0c64de626b9f80f26195f08802bd09", func := "astrarium/astrariumlaw16.ReplayBads", spec := "replayBads", unfollowed := true, recurses := true, apart := false }
def ReplayBadsSaid : Prop := replayBadsRow.holds Tryz.pinned (OpenSpec.ofChange replayBadsSpec)

/-- ITS FALSE NEIGHBOUR: 'it returns false'. Refute it at one input. -/
def replayBadsWrong : ChangeSpec := { name := "replayBads", fn := fun _ => fun
  | [d1, d2] => { results := [.lit (.bool false)], args := [d1, d2] }
  | _ => none }
def ReplayBadsWrongFalsely : Prop := replayBadsRow.holds Tryz.pinned (OpenSpec.ofChange replayBadsWrong)

/- THE SECOND FORM. 'bulk': how many values and letters a reading holds, each counted each time it is reached (what is shared counts as often as it is met; a slice's spare places count too). A statement '..UptoSaid' is the law's where the arguments, and the package variables that the reading takes, are together of bulk at most 1048576: NARROWER than '..Said'. Prove '..Said' where nothing that the law and all that it calls make is longer than what came in: it says more and counts as full. Else prove '..UptoSaid'. A law counts once. -/
mutual
def uptoBulk {H : Type} : DataW H → Nat
  | .lit (.string bytes) => bytes.length + 1
  | .lit _ => 1
  | .nil => 1
  | .ptr d => uptoBulk d + 1
  | .slice elems spare => uptoBulkAll elems + uptoBulkAll spare + 1
  | .agg parts => uptoBulkAll parts + 1
  | .iface _ d => uptoBulk d + 1
  | .map entries => uptoBulkEntries entries + 1
  | .held _ => 1
def uptoBulkAll {H : Type} : List (DataW H) → Nat
  | [] => 0
  | d :: r => uptoBulk d + uptoBulkAll r
def uptoBulkEntries {H : Type} : List (Lit × DataW H) → Nat
  | [] => 0
  | x :: r => uptoBulkEntry x + uptoBulkEntries r
def uptoBulkEntry {H : Type} : Lit × DataW H → Nat
  | (.string bytes, d) => bytes.length + uptoBulk d + 1
  | (_, d) => uptoBulk d + 1
 end
def uptoSmall : (H : Type) → List (DataW H) → Bool := fun _ ds => decide (uptoBulkAll ds ≤ 1048576)
def OpenSpec.upto (s : _root_.Go.ChangeSpec) : _root_.Go.OpenSpec := { _root_.Go.OpenSpec.ofChange s with cond := some uptoSmall }

/-- 'astrariumlaw16.ReplayChecks', WHERE WHAT IT READS IS OF BULK AT MOST 1048576: true; the input reads as it did. -/
def replayChecksUptoRow : OpenClaim := { program := "ytnocaehijdmkkaagreat", sum := "250b40ee5a7c7e982fa9e223b22d3bc45e0c64de626b9f80f26195f08802bd09", func := "astrarium/astrariumlaw16.ReplayChecks", spec := "replayChecks", unfollowed := true, recurses := true, apart := false, narrowed := true }
def ReplayChecksUptoSaid : Prop := replayChecksUptoRow.holds Tryz.pinned (OpenSpec.upto replayChecksSpec)

/-- 'astrariumlaw16.ReplayLeasts', WHERE WHAT IT READS IS OF BULK AT MOST 1048576: true; the input reads as it did. -/
def replayLeastsUptoRow : OpenClaim := { program := "ytnocaehijdmkkaagreat", sum := "250b40ee5a7c7e982fa9e223b22d3bc45e0c64de626b9f80f26195f08802bd09", func := "astrarium/astrariumlaw16.ReplayLeasts", spec := "replayLeasts", unfollowed := true, recurses := true, apart := false, narrowed := true }
def ReplayLeastsUptoSaid : Prop := replayLeastsUptoRow.holds Tryz.pinned (OpenSpec.upto replayLeastsSpec)

/-- 'astrariumlaw12.SimPlays', WHERE WHAT IT READS IS OF BULK AT MOST 1048576: true; the input reads as it did. -/
def simPlaysUptoRow : OpenClaim := { program := "ytnocaehijdmkkaagreat", sum := "250b40ee5a7c7e982fa9e223b22d3bc45e0c64de626b9f80f26195f08802bd09", func := "astrarium/astrariumlaw12.SimPlays", spec := "simPlays", unfollowed := true, recurses := true, apart := false, narrowed := true }
def SimPlaysUptoSaid : Prop := simPlaysUptoRow.holds Tryz.pinned (OpenSpec.upto simPlaysSpec)

/-- 'astrariumlaw12.SimRuns', WHERE WHAT IT READS IS OF BULK AT MOST 1048576: true; the input reads as it did. -/
def simRunsUptoRow : OpenClaim := { program := "ytnocaehijdmkkaagreat", sum := "250b40ee5a7c7e982fa9e223b22d3bc45e0c64de626b9f80f26195f08802bd09", func := "astrarium/astrariumlaw12.SimRuns", spec := "simRuns", unfollowed := true, recurses := true, apart := false, narrowed := true }
def SimRunsUptoSaid : Prop := simRunsUptoRow.holds Tryz.pinned (OpenSpec.upto simRunsSpec)

/-- 'astrariumlaw12.SimParts', WHERE WHAT IT READS IS OF BULK AT MOST 1048576: true; the input reads as it did. -/
def simPartsUptoRow : OpenClaim := { program := "ytnocaehijdmkkaagreat", sum := "250b40ee5a7c7e982fa9e223b22d3bc45e0c64de626b9f80f26195f08802bd09", func := "astrarium/astrariumlaw12.SimParts", spec := "simParts", unfollowed := true, recurses := true, apart := false, narrowed := true }
def SimPartsUptoSaid : Prop := simPartsUptoRow.holds Tryz.pinned (OpenSpec.upto simPartsSpec)

/-- 'astrariumlaw12.SimSets', WHERE WHAT IT READS IS OF BULK AT MOST 1048576: true; the input reads as it did. -/
def simSetsUptoRow : OpenClaim := { program := "ytnocaehijdmkkaagreat", sum := "250b40ee5a7c7e982fa9e223b22d3bc45e0c64de626b9f80f26195f08802bd09", func := "astrarium/astrariumlaw12.SimSets", spec := "simSets", unfollowed := true, recurses := true, apart := false, narrowed := true }
def SimSetsUptoSaid : Prop := simSetsUptoRow.holds Tryz.pinned (OpenSpec.upto simSetsSpec)

/-- 'astrariumlaw12.SimStates', WHERE WHAT IT READS IS OF BULK AT MOST 1048576: true; the input reads as it did. -/
def simStatesUptoRow : OpenClaim := { program := "ytnocaehijdmkkaagreat", sum := "250b40ee5a7c7e982fa9e223b22d3bc45e0c64de626b9f80f26195f08802bd09", func := "astrarium/astrariumlaw12.SimStates", spec := "simStates", unfollowed := true, recurses := true, apart := false, narrowed := true }
def SimStatesUptoSaid : Prop := simStatesUptoRow.holds Tryz.pinned (OpenSpec.upto simStatesSpec)

/-- 'astrariumlaw16.ReplayBads', WHERE WHAT IT READS IS OF BULK AT MOST 1048576: true; the input reads as it did. -/
def replayBadsUptoRow : OpenClaim := { program := "ytnocaehijdmkkaagreat", sum := "250b40ee5a7c7e982fa9e223b22d3bc45e0c64de626b9f80f26195f08802bd09", func := "astrarium/astrariumlaw16.ReplayBads", spec := "replayBads", unfollowed := true, recurses := true, apart := false, narrowed := true }
def ReplayBadsUptoSaid : Prop := replayBadsUptoRow.holds Tryz.pinned (OpenSpec.upto replayBadsSpec)

end Rows
end Go.Proofs.YtnocaehijdmkkaaGreat
