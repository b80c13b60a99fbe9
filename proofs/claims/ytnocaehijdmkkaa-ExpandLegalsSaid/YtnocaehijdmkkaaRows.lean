/-
  No cell of these rows narrows 'for every input' (looked for: loops, veiled, ifaces, maps, wideKeys, modest, calm, conditions, laid).
  DERIVED. THE GIVEN ROWS OF THIS SEAT. 4 by the template 'for every input the law returns true; each argument reads behind the call as it read before'; 0 by the template 'total and deterministic' (their statements: YtnocaehijdmkkaaTotals.lean).
  GIVEN WITH THE SEED: the statements are not yours to turn. If you find one false, say at which input.
  Laid BY PROGRAM, IN A SANDBOX (cutbox-rows.mjs): the forced cells as the released guide's own fill.sh prints them over the translation 659e8efce10400fc… (all of the seat's roots in one cut). By AI agents, Wed Nov 11 2026. No macro, syntax, notation, axiom, sorry.
-/
import Derived.Test.YtnocaehijdmkkaaChecked
import GoSem.Claim
import GoSem.ClaimJoined
import GoSem.ClaimMapViews
import Derived.JoinedTies
import Derived.KernelRfl
namespace Go.Proofs.Ytnocaehijdmkkaa
/- THE CELL 'sum', in the pinned program and in every row, IS THE sha256 OF THE DUMP (.gsa) THAT YtnocaehijdmkkaaProg.lean LOADS. Nothing in Lean hashes anything: it is a label: what it is worth is what the hold of that sum in a sandbox is worth. -/
noncomputable def Try.pinned : Pinned := { name := "ytnocaehijdmkkaa", sum := "659e8efce10400fc355464b5e92ad9a2b648fecd611f6bc18827ca08e4bc3671", checked := Try.checked }
namespace Rows
def none {H : Type} : Left H := { results := [], args := [] }

/-- 'astrariumlaw13.ExpandNets': WHATEVER THE INPUT: true; the input reads as it did. -/
def expandNetsSpec : ChangeSpec := { name := "expandNets", fn := fun _ => fun
  | [d] => { results := [.lit (.bool true)], args := [d] }
  | _ => none }
def expandNetsRow : OpenClaim := { program := "ytnocaehijdmkkaa", sum := "659e8efce10400fc355464b5e92ad9a2b648fecd611f6bc18827ca08e4bc3671", func := "astrarium/astrariumlaw13.ExpandNets", spec := "expandNets", unfollowed := true, recurses := true, apart := false }
def ExpandNetsSaid : Prop := expandNetsRow.holds Try.pinned (OpenSpec.ofChange expandNetsSpec)

/-- ITS FALSE NEIGHBOUR: 'it returns false'. Refute it at one input. -/
def expandNetsWrong : ChangeSpec := { name := "expandNets", fn := fun _ => fun
  | [d] => { results := [.lit (.bool false)], args := [d] }
  | _ => none }
def ExpandNetsWrongFalsely : Prop := expandNetsRow.holds Try.pinned (OpenSpec.ofChange expandNetsWrong)

/-- 'astrariumlaw13.ExpandLegals': WHATEVER THE INPUT: true; the input reads as it did. -/
def expandLegalsSpec : ChangeSpec := { name := "expandLegals", fn := fun _ => fun
  | [d1, d2] => { results := [.lit (.bool true)], args := [d1, d2] }
  | _ => none }
def expandLegalsRow : OpenClaim := { program := "ytnocaehijdmkkaa", sum := "659e8efce10400fc355464b5e92ad9a2b648fecd611f6bc18827ca08e4bc3671", func := "astrarium/astrariumlaw13.ExpandLegals", spec := "expandLegals", unfollowed := true, recurses := true, apart := false }
def ExpandLegalsSaid : Prop := expandLegalsRow.holds Try.pinned (OpenSpec.ofChange expandLegalsSpec)

/-- ITS FALSE NEIGHBOUR: 'it returns false'. Refute it at one input. -/
def expandLegalsWrong : ChangeSpec := { name := "expandLegals", fn := fun _ => fun
  | [d1, d2] => { results := [.lit (.bool false)], args := [d1, d2] }
  | _ => none }
def ExpandLegalsWrongFalsely : Prop := expandLegalsRow.holds Try.pinned (OpenSpec.ofChange expandLegalsWrong)

/-- 'astrariumlaw13.ExpandStates': WHATEVER THE INPUT: true; the input reads as it did. -/
def expandStatesSpec : ChangeSpec := { name := "expandStates", fn := fun _ => fun
  | [d1, d2, d3] => { results := [.lit (.bool true)], args := [d1, d2, d3] }
  | _ => none }
def expandStatesRow : OpenClaim := { program := "ytnocaehijdmkkaa", sum := "659e8efce10400fc355464b5e92ad9a2b648fecd611f6bc18827ca08e4bc3671", func := "astrarium/astrariumlaw13.ExpandStates", spec := "expandStates", unfollowed := true, recurses := true, apart := false }
def ExpandStatesSaid : Prop := expandStatesRow.holds Try.pinned (OpenSpec.ofChange expandStatesSpec)

/-- ITS FALSE NEIGHBOUR: 'it returns false'. Refute it at one input. -/
def expandStatesWrong : ChangeSpec := { name := "expandStates", fn := fun _ => fun
  | [d1, d2, d3] => { results := [.lit (.bool false)], args := [d1, d2, d3] }
  | _ => none }
def ExpandStatesWrongFalsely : Prop := expandStatesRow.holds Try.pinned (OpenSpec.ofChange expandStatesWrong)

/-- 'astrariumlaw12.SimNils': WHATEVER THE INPUT: true; the input reads as it did. -/
def simNilsSpec : ChangeSpec := { name := "simNils", fn := fun _ => fun
  | [d] => { results := [.lit (.bool true)], args := [d] }
  | _ => none }
def simNilsRow : OpenClaim := { program := "ytnocaehijdmkkaa", sum := "659e8efce10400fc355464b5e92ad9a2b648fecd611f6bc18827ca08e4bc3671", func := "astrarium/astrariumlaw12.SimNils", spec := "simNils", unfollowed := true, recurses := true, apart := false }
def SimNilsSaid : Prop := simNilsRow.holds Try.pinned (OpenSpec.ofChange simNilsSpec)

/-- ITS FALSE NEIGHBOUR: 'it returns false'. Refute it at one input. -/
def simNilsWrong : ChangeSpec := { name := "simNils", fn := fun _ => fun
  | [d] => { results := [.lit (.bool false)], args := [d] }
  | _ => none }
def SimNilsWrongFalsely : Prop := simNilsRow.holds Try.pinned (OpenSpec.ofChange simNilsWrong)

/- THE SECOND FORM. 'bulk': how many values and letters a reading holds, each counted each time it is reached (what is shared counts as often as it is met; a slice's spare places count too). A statement '..UptoSaid' is the law's where the arguments, and the package variables that the reading takes, are together of bulk at most 1048576: NARROWER than '..Said'. Prove '..Said' where nothing that the law and all that it calls make is longer than what came in: it says more and counts as full. Else prove '..UptoSaid'. A law counts once. -/
mutual
def uptoBulk {H : Type} : DataW H → Nat
  | .lit (.string bytes) => bytes.length + 1
  | .lit _ => 1
  | .nil => 1
  | .ptr d => uptoBulk d + 1
  | .slice elems spare => uptoBulkAll elems + uptoBulkAll spare + 1
  | .agg parts => uptoBulkAll parts + 1
  | .iface _ d => uptoBulk d + 1
  | .map entries => uptoBulkEntries entries + 1
  | .held _ => 1
def uptoBulkAll {H : Type} : List (DataW H) → Nat
  | [] => 0
  | d :: r => uptoBulk d + uptoBulkAll r
def uptoBulkEntries {H : Type} : List (Lit × DataW H) → Nat
  | [] => 0
  | x :: r => uptoBulkEntry x + uptoBulkEntries r
def uptoBulkEntry {H : Type} : Lit × DataW H → Nat
  | (.string bytes, d) => bytes.length + uptoBulk d + 1
  | (_, d) => uptoBulk d + 1
 end
def uptoSmall : (H : Type) → List (DataW H) → Bool := fun _ ds => decide (uptoBulkAll ds ≤ 1048576)
def OpenSpec.upto (s : _root_.Go.ChangeSpec) : _root_.Go.OpenSpec := { _root_.Go.OpenSpec.ofChange s with cond := some uptoSmall }

/-- 'astrariumlaw13.ExpandNets', WHERE WHAT IT READS IS OF BULK AT MOST 1048576: true; the input reads as it did. -/
def expandNetsUptoRow : OpenClaim := { program := "ytnocaehijdmkkaa", sum := "659e8efce10400fc355464b5e92ad9a2b648fecd611f6bc18827ca08e4bc3671", func := "astrarium/astrariumlaw13.ExpandNets", spec := "expandNets", unfollowed := true, recurses := true, apart := false, narrowed := true }
def ExpandNetsUptoSaid : Prop := expandNetsUptoRow.holds Try.pinned (OpenSpec.upto expandNetsSpec)

/-- 'astrariumlaw13.ExpandLegals', WHERE WHAT IT READS IS OF BULK AT MOST 1048576: true; the input reads as it did. -/
def expandLegalsUptoRow : OpenClaim := { program := "ytnocaehijdmkkaa", sum := "659e8efce10400fc355464b5e92ad9a2b648fecd611f6bc18827ca08e4bc3671", func := "astrarium/astrariumlaw13.ExpandLegals", spec := "expandLegals", unfollowed := true, recurses := true, apart := false, narrowed := true }
def ExpandLegalsUptoSaid : Prop := expandLegalsUptoRow.holds Try.pinned (OpenSpec.upto expandLegalsSpec)

/-- 'astrariumlaw13.ExpandStates', WHERE WHAT IT READS IS OF BULK AT MOST 1048576: true; the input reads as it did. -/
def expandStatesUptoRow : OpenClaim := { program := "ytnocaehijdmkkaa", sum := "659e8efce10400fc355464b5e92ad9a2b648fecd611f6bc18827ca08e4bc3671", func := "astrarium/astrariumlaw13.ExpandStates", spec := "expandStates", unfollowed := true, recurses := true, apart := false, narrowed := true }
def ExpandStatesUptoSaid : Prop := expandStatesUptoRow.holds Try.pinned (OpenSpec.upto expandStatesSpec)

/-- 'astrariumlaw12.SimNils', WHERE WHAT IT READS IS OF BULK AT MOST 1048576: true; the input reads as it did. -/
def simNilsUptoRow : OpenClaim := { program := "ytnocaehijdmkkaa", sum := "659e8efce10400fc355464b5e92ad9a2b648fecd611f6bc18827ca08e4bc3671", func := "astrarium/astrariumlaw12.SimNils", spec := "simNils", unfollowed := true, recurses := true, apart := false, narrowed := true }
def SimNilsUptoSaid : Prop := simNilsUptoRow.holds Try.pinned (OpenSpec.upto simNilsSpec)

end Rows
end Go.Proofs.Ytnocaehijdmkkaa
