/-
  No cell of these rows narrows 'for every input' (looked for: loops, veiled, ifaces, maps, wideKeys, modest, calm, conditions, laid).
  DERIVED. THE GIVEN ROWS OF THIS SEAT. 3 by the template 'for every input the law returns true; each argument reads behind the call as it read before'; 0 by the template 'total and deterministic' (their statements: YtijabkidejolbaaGreatTotals.lean).
  GIVEN WITH THE SEED: the statements are not yours to turn. If you find one false, say at which input.
  Laid BY PROGRAM, IN A SANDBOX (cutbox-rows.mjs): the forced cells as the released guide's own fill.sh prints them over the translation 8f2b9f75c3bfbde4… (all of the seat's roots in one cut). By AI agents, Wed Nov 11 2026. No macro, syntax, notation, axiom, sorry.
-/
import Derived.Test.YtijabkidejolbaaGreatChecked
import GoSem.Claim
import GoSem.ClaimJoined
import GoSem.ClaimMapViews
import Derived.JoinedTies
import Derived.KernelRfl
namespace Go.Proofs.YtijabkidejolbaaGreat
/- THE CELL 'sum', in the pinned program and in every row, IS THE sha256 OF THE DUMP (.gsa) THAT YtijabkidejolbaaGreatProg.lean LOADS. Nothing in Lean hashes anything: it is a label: what it is worth is what the hold of that sum in a sandbox is worth. -/
noncomputable def Tryz.pinned : Pinned := { name := "ytijabkidejolbaagreat", sum := "8f2b9f75c3bfbde471ab3ed98c46612954c887532cd09a041996ea1ee96c690a", checked := Tryz.checked }
namespace Rows
def none {H : Type} : Left H := { results := [], args := [] }

/-- 'astrariumlaw32.EmmNils': WHATEVER THE INPUT: true; the input reads as it did. -/
def emmNilsSpec : ChangeSpec := { name := "emmNils", fn := fun _ => fun
  | [d1, d2] => { results := [.lit (.bool true)], args := [d1, d2] }
  | _ => none }
def emmNilsRow : OpenClaim := { program := "ytijabkidejolbaagreat", sum := "8f2b9f75c3bfbde471ab3ed98c46612954c887532cd09a041996ea1ee96c690a", func := "astrarium/astrariumlaw32.EmmNils", spec := "emmNils", unfollowed := true, recurses := true, plainKeys := false, apart := false }
def EmmNilsSaid : Prop := emmNilsRow.holds Tryz.pinned (OpenSpec.ofChange emmNilsSpec)

/-- ITS FALSE NEIGHBOUR: 'it returns false'. Refute it at one input. -/
def emmNilsWrong : ChangeSpec := { name := "emmNils", fn := fun _ => fun
  | [d1, d2] => { results := [.lit (.bool false)], args := [d1, d2] }
  | _ => none }
def EmmNilsWrongFalsely : Prop := emmNilsRow.holds Tryz.pinned (OpenSpec.ofChange emmNilsWrong)

/-- 'astrariumlaw35.ExtractNils': WHATEVER THE INPUT: true; the input reads as it did. -/
def extractNilsSpec : ChangeSpec := { name := "extractNils", fn := fun _ => fun
  | [d] => { results := [.lit (.bool true)], args := [d] }
  | _ => none }
def extractNilsRow : OpenClaim := { program := "ytijabkidejolbaagreat", sum := "8f2b9f75c3bfbde471ab3ed98c46612954c887532cd09a041996ea1ee96c690a", func := "astrarium/astrariumlaw35.ExtractNils", spec := "extractNils", unfollowed := true, recurses := true, plainKeys := false, apart := false }
def ExtractNilsSaid : Prop := extractNilsRow.holds Tryz.pinned (OpenSpec.ofChange extractNilsSpec)

/-- ITS FALSE NEIGHBOUR: 'it returns false'. Refute it at one input. -/
def extractNilsWrong : ChangeSpec := { name := "extractNils", fn := fun _ => fun
  | [d] => { results := [.lit (.bool false)], args := [d] }
  | _ => none }
def ExtractNilsWrongFalsely : Prop := extractNilsRow.holds Tryz.pinned (OpenSpec.ofChange extractNilsWrong)

/-- 'astrariumlaw24.SolverGrows': WHATEVER THE INPUT: true; the input reads as it did. -/
def solverGrowsSpec : ChangeSpec := { name := "solverGrows", fn := fun _ => fun
  | [d1, d2, d3] => { results := [.lit (.bool true)], args := [d1, d2, d3] }
  | _ => none }
def solverGrowsRow : OpenClaim := { program := "ytijabkidejolbaagreat", sum := "8f2b9f75c3bfbde471ab3ed98c46612954c887532cd09a041996ea1ee96c690a", func := "astrarium/astrariumlaw24.SolverGrows", spec := "solverGrows", unfollowed := true, recurses := true, plainKeys := false, apart := false }
def SolverGrowsSaid : Prop := solverGrowsRow.holds Tryz.pinned (OpenSpec.ofChange solverGrowsSpec)

/-- ITS FALSE NEIGHBOUR: 'it returns false'. Refute it at one input. -/
def solverGrowsWrong : ChangeSpec := { name := "solverGrows", fn := fun _ => fun
  | [d1, d2, d3] => { results := [.lit (.bool false)], args := [d1, d2, d3] }
  | _ => none }
def SolverGrowsWrongFalsely : Prop := solverGrowsRow.holds Tryz.pinned (OpenSpec.ofChange solverGrowsWrong)

/- THE SECOND FORM. 'bulk': how many values and letters a reading holds, each counted each time it is reached (what is shared counts as often as it is met; a slice's spare places count too). A statement '..UptoSaid' is the law's where the arguments, and the package variables that the reading takes, are together of bulk at most 1048576: NARROWER than '..Said'. Prove '..Said' where nothing that the law and all that it calls make is longer than what came in: it says more and counts as full. Else prove '..UptoSaid'. A law counts once. -/
mutual
def uptoBulk {H : Type} : DataW H → Nat
  | .lit (.string bytes) => bytes.length + 1
  | .lit _ => 1
  | .nil => 1
  | .ptr d => uptoBulk d + 1
  | .slice elems spare => uptoBulkAll elems + uptoBulkAll spare + 1
  | .agg parts => uptoBulkAll parts + 1
  | .iface _ d => uptoBulk d + 1
  | .map entries => uptoBulkEntries entries + 1
  | .held _ => 1
def uptoBulkAll {H : Type} : List (DataW H) → Nat
  | [] => 0
  | d :: r => uptoBulk d + uptoBulkAll r
def uptoBulkEntries {H : Type} : List (Lit × DataW H) → Nat
  | [] => 0
  | x :: r => uptoBulkEntry x + uptoBulkEntries r
def uptoBulkEntry {H : Type} : Lit × DataW H → Nat
  | (.string bytes, d) => bytes.length + uptoBulk d + 1
  | (_, d) => uptoBulk d + 1
 end
def uptoSmall : (H : Type) → List (DataW H) → Bool := fun _ ds => decide (uptoBulkAll ds ≤ 1048576)
def OpenSpec.upto (s : _root_.Go.ChangeSpec) : _root_.Go.OpenSpec := { _root_.Go.OpenSpec.ofChange s with cond := some uptoSmall }

/-- 'astrariumlaw32.EmmNils', WHERE WHAT IT READS IS OF BULK AT MOST 1048576: true; the input reads as it did. -/
def emmNilsUptoRow : OpenClaim := { program := "ytijabkidejolbaagreat", sum := "8f2b9f75c3bfbde471ab3ed98c46612954c887532cd09a041996ea1ee96c690a", func := "astrarium/astrariumlaw32.EmmNils", spec := "emmNils", unfollowed := true, recurses := true, plainKeys := false, apart := false, narrowed := true }
def EmmNilsUptoSaid : Prop := emmNilsUptoRow.holds Tryz.pinned (OpenSpec.upto emmNilsSpec)

/-- 'astrariumlaw35.ExtractNils', WHERE WHAT IT READS IS OF BULK AT MOST 1048576: true; the input reads as it did. -/
def extractNilsUptoRow : OpenClaim := { program := "ytijabkidejolbaagreat", sum := "8f2b9f75c3bfbde471ab3ed98c46612954c887532cd09a041996ea1ee96c690a", func := "astrarium/astrariumlaw35.ExtractNils", spec := "extractNils", unfollowed := true, recurses := true, plainKeys := false, apart := false, narrowed := true }
def ExtractNilsUptoSaid : Prop := extractNilsUptoRow.holds Tryz.pinned (OpenSpec.upto extractNilsSpec)

/-- 'astrariumlaw24.SolverGrows', WHERE WHAT IT READS IS OF BULK AT MOST 1048576: true; the input reads as it did. -/
def solverGrowsUptoRow : OpenClaim := { program := "ytijabkidejolbaagreat", sum := "8f2b9f75c3bfbde471ab3ed98c46612954c887532cd09a041996ea1ee96c690a", func := "astrarium/astrariumlaw24.SolverGrows", spec := "solverGrows", unfollowed := true, recurses := true, plainKeys := false, apart := false, narrowed := true }
def SolverGrowsUptoSaid : Prop := solverGrowsUptoRow.holds Tryz.pinned (OpenSpec.upto solverGrowsSpec)

end Rows
end Go.Proofs.YtijabkidejolbaaGreat
