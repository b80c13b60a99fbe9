/-
  No cell of these rows narrows 'for every input' (looked for: loops, veiled, ifaces, maps, wideKeys, modest, calm, conditions, laid).
  DERIVED. THE GIVEN ROWS OF THIS SEAT. 6 by the template 'for every input the law returns true; each argument reads behind the call as it read before'; 0 by the template 'total and deterministic' (their statements: YtmkbdfidnfmgmaaGreatTotals.lean).
  GIVEN WITH THE SEED: the statements are not yours to turn. If you find one false, say at which input.
  Laid BY PROGRAM, IN A SANDBOX (cutbox-rows.mjs): the forced cells as the released guide's own fill.sh prints them over the translation de8a7546edd7fb8b… (all of the seat's roots in one cut). By AI agents, Wed Nov 11 2026. No macro, syntax, notation, axiom, sorry.
-/
import Derived.Test.YtmkbdfidnfmgmaaGreatChecked
import GoSem.Claim
import GoSem.ClaimJoined
import GoSem.ClaimMapViews
import Derived.JoinedTies
import Derived.KernelRfl
namespace Go.Proofs.YtmkbdfidnfmgmaaGreat
/- THE CELL 'sum', in the pinned program and in every row, IS THE sha256 OF THE DUMP (.gsa) THAT YtmkbdfidnfmgmaaGreatProg.lean LOADS. Nothing in Lean hashes anything: it is a label: what it is worth is what the hold of that sum in a sandbox is worth. -/
noncomputable def Tryz.pinned : Pinned := { name := "ytmkbdfidnfmgmaagreat", sum := "de8a7546edd7fb8b9a3c97b77016e1544c3c1cf414c1fe82b39c91c82a702272", checked := Tryz.checked }
namespace Rows
def none {H : Type} : Left H := { results := [], args := [] }

/-- 'astrariumlaw12.SimPlays': WHATEVER THE INPUT: true; the input reads as it did. -/
def simPlaysSpec : ChangeSpec := { name := "simPlays", fn := fun _ => fun
  | [d1, d2, d3] => { results := [.lit (.bool true)], args := [d1, d2, d3] }
  | _ => none }
def simPlaysRow : OpenClaim := { program := "ytmkbdfidnfmgmaagreat", sum := "de8a7546edd7fb8b9a3c97b77016e1544c3c1cf414c1fe82b39c91c82a702272", func := "astrarium/astrariumlaw12.SimPlays", spec := "simPlays", unfollowed := true, recurses := true, plainKeys := false, apart := false }
def SimPlaysSaid : Prop := simPlaysRow.holds Tryz.pinned (OpenSpec.ofChange simPlaysSpec)

/-- ITS FALSE NEIGHBOUR: 'it returns false'. Refute it at one input. -/
def simPlaysWrong : ChangeSpec := { name := "simPlays", fn := fun _ => fun
  | [d1, d2, d3] => { results := [.lit (.bool false)], args := [d1, d2, d3] }
  | _ => none }
def SimPlaysWrongFalsely : Prop := simPlaysRow.holds Tryz.pinned (OpenSpec.ofChange simPlaysWrong)

/-- 'astrariumlaw29.ConeOfs': WHATEVER THE INPUT: true; the input reads as it did. -/
def coneOfsSpec : ChangeSpec := { name := "coneOfs", fn := fun _ => fun
  | [d] => { results := [.lit (.bool true)], args := [d] }
  | _ => none }
def coneOfsRow : OpenClaim := { program := "ytmkbdfidnfmgmaagreat", sum := "de8a7546edd7fb8b9a3c97b77016e1544c3c1cf414c1fe82b39c91c82a702272", func := "astrarium/astrariumlaw29.ConeOfs", spec := "coneOfs", unfollowed := true, recurses := true, plainKeys := false, apart := false }
def ConeOfsSaid : Prop := coneOfsRow.holds Tryz.pinned (OpenSpec.ofChange coneOfsSpec)

/-- ITS FALSE NEIGHBOUR: 'it returns false'. Refute it at one input. -/
def coneOfsWrong : ChangeSpec := { name := "coneOfs", fn := fun _ => fun
  | [d] => { results := [.lit (.bool false)], args := [d] }
  | _ => none }
def ConeOfsWrongFalsely : Prop := coneOfsRow.holds Tryz.pinned (OpenSpec.ofChange coneOfsWrong)

/-- 'astrariumlaw29.ConeLifts': WHATEVER THE INPUT: true; the input reads as it did. -/
def coneLiftsSpec : ChangeSpec := { name := "coneLifts", fn := fun _ => fun
  | [d1, d2, d3] => { results := [.lit (.bool true)], args := [d1, d2, d3] }
  | _ => none }
def coneLiftsRow : OpenClaim := { program := "ytmkbdfidnfmgmaagreat", sum := "de8a7546edd7fb8b9a3c97b77016e1544c3c1cf414c1fe82b39c91c82a702272", func := "astrarium/astrariumlaw29.ConeLifts", spec := "coneLifts", unfollowed := true, recurses := true, plainKeys := false, apart := false }
def ConeLiftsSaid : Prop := coneLiftsRow.holds Tryz.pinned (OpenSpec.ofChange coneLiftsSpec)

/-- ITS FALSE NEIGHBOUR: 'it returns false'. Refute it at one input. -/
def coneLiftsWrong : ChangeSpec := { name := "coneLifts", fn := fun _ => fun
  | [d1, d2, d3] => { results := [.lit (.bool false)], args := [d1, d2, d3] }
  | _ => none }
def ConeLiftsWrongFalsely : Prop := coneLiftsRow.holds Tryz.pinned (OpenSpec.ofChange coneLiftsWrong)

/-- 'astrariumlaw29.ConeWitnesses': WHATEVER THE INPUT: true; the input reads as it did. -/
def coneWitnessesSpec : ChangeSpec := { name := "coneWitnesses", fn := fun _ => fun
  | [d1, d2] => { results := [.lit (.bool true)], args := [d1, d2] }
  | _ => none }
def coneWitnessesRow : OpenClaim := { program := "ytmkbdfidnfmgmaagreat", sum := "de8a7546edd7fb8b9a3c97b77016e1544c3c1cf414c1fe82b39c91c82a702272", func := "astrarium/astrariumlaw29.ConeWitnesses", spec := "coneWitnesses", unfollowed := true, recurses := true, plainKeys := false, apart := false }
def ConeWitnessesSaid : Prop := coneWitnessesRow.holds Tryz.pinned (OpenSpec.ofChange coneWitnessesSpec)

/-- ITS FALSE NEIGHBOUR: 'it returns false'. Refute it at one input. -/
def coneWitnessesWrong : ChangeSpec := { name := "coneWitnesses", fn := fun _ => fun
  | [d1, d2] => { results := [.lit (.bool false)], args := [d1, d2] }
  | _ => none }
def ConeWitnessesWrongFalsely : Prop := coneWitnessesRow.holds Tryz.pinned (OpenSpec.ofChange coneWitnessesWrong)

/-- 'astrariumlaw29.ConeRuns': WHATEVER THE INPUT: true; the input reads as it did. -/
def coneRunsSpec : ChangeSpec := { name := "coneRuns", fn := fun _ => fun
  | [d1, d2, d3] => { results := [.lit (.bool true)], args := [d1, d2, d3] }
  | _ => none }
def coneRunsRow : OpenClaim := { program := "ytmkbdfidnfmgmaagreat", sum := "de8a7546edd7fb8b9a3c97b77016e1544c3c1cf414c1fe82b39c91c82a702272", func := "astrarium/astrariumlaw29.ConeRuns", spec := "coneRuns", unfollowed := true, recurses := true, plainKeys := false, apart := false }
def ConeRunsSaid : Prop := coneRunsRow.holds Tryz.pinned (OpenSpec.ofChange coneRunsSpec)

/-- ITS FALSE NEIGHBOUR: 'it returns false'. Refute it at one input. -/
def coneRunsWrong : ChangeSpec := { name := "coneRuns", fn := fun _ => fun
  | [d1, d2, d3] => { results := [.lit (.bool false)], args := [d1, d2, d3] }
  | _ => none }
def ConeRunsWrongFalsely : Prop := coneRunsRow.holds Tryz.pinned (OpenSpec.ofChange coneRunsWrong)

/-- 'astrariumlaw28.StrashRuns': WHATEVER THE INPUT: true; the input reads as it did. -/
def strashRunsSpec : ChangeSpec := { name := "strashRuns", fn := fun _ => fun
  | [d1, d2, d3] => { results := [.lit (.bool true)], args := [d1, d2, d3] }
  | _ => none }
def strashRunsRow : OpenClaim := { program := "ytmkbdfidnfmgmaagreat", sum := "de8a7546edd7fb8b9a3c97b77016e1544c3c1cf414c1fe82b39c91c82a702272", func := "astrarium/astrariumlaw28.StrashRuns", spec := "strashRuns", unfollowed := true, recurses := true, plainKeys := false, apart := false }
def StrashRunsSaid : Prop := strashRunsRow.holds Tryz.pinned (OpenSpec.ofChange strashRunsSpec)

/-- ITS FALSE NEIGHBOUR: 'it returns false'. Refute it at one input. -/
def strashRunsWrong : ChangeSpec := { name := "strashRuns", fn := fun _ => fun
  | [d1, d2, d3] => { results := [.lit (.bool false)], args := [d1, d2, d3] }
  | _ => none }
def StrashRunsWrongFalsely : Prop := strashRunsRow.holds Tryz.pinned (OpenSpec.ofChange strashRunsWrong)

/- THE SECOND FORM. 'bulk': how many values and letters a reading holds, each counted each time it is reached (what is shared counts as often as it is met; a slice's spare places count too). A statement '..UptoSaid' is the law's where the arguments, and the package variables that the reading takes, are together of bulk at most 1048576: NARROWER than '..Said'. Prove '..Said' where nothing that the law and all that it calls make is longer than what came in: it says more and counts as full. Else prove '..UptoSaid'. A law counts once. -/
mutual
def uptoBulk {H : Type} : DataW H → Nat
  | .lit (.string bytes) => bytes.length + 1
  | .lit _ => 1
  | .nil => 1
  | .ptr d => uptoBulk d + 1
  | .slice elems spare => uptoBulkAll elems + uptoBulkAll spare + 1
  | .agg parts => uptoBulkAll parts + 1
  | .iface _ d => uptoBulk d + 1
  | .map entries => uptoBulkEntries entries + 1
  | .held _ => 1
def uptoBulkAll {H : Type} : List (DataW H) → Nat
  | [] => 0
  | d :: r => uptoBulk d + uptoBulkAll r
def uptoBulkEntries {H : Type} : List (Lit × DataW H) → Nat
  | [] => 0
  | x :: r => uptoBulkEntry x + uptoBulkEntries r
def uptoBulkEntry {H : Type} : Lit × DataW H → Nat
  | (.string bytes, d) => bytes.length + uptoBulk d + 1
  | (_, d) => uptoBulk d + 1
 end
def uptoSmall : (H : Type) → List (DataW H) → Bool := fun _ ds => decide (uptoBulkAll ds ≤ 1048576)
def OpenSpec.upto (s : _root_.Go.ChangeSpec) : _root_.Go.OpenSpec := { _root_.Go.OpenSpec.ofChange s with cond := some uptoSmall }

/-- 'astrariumlaw12.SimPlays', WHERE WHAT IT READS IS OF BULK AT MOST 1048576: true; the input reads as it did. -/
def simPlaysUptoRow : OpenClaim := { program := "ytmkbdfidnfmgmaagreat", sum := "de8a7546edd7fb8b9a3c97b77016e1544c3c1cf414c1fe82b39c91c82a702272", func := "astrarium/astrariumlaw12.SimPlays", spec := "simPlays", unfollowed := true, recurses := true, plainKeys := false, apart := false, narrowed := true }
def SimPlaysUptoSaid : Prop := simPlaysUptoRow.holds Tryz.pinned (OpenSpec.upto simPlaysSpec)

/-- 'astrariumlaw29.ConeOfs', WHERE WHAT IT READS IS OF BULK AT MOST 1048576: true; the input reads as it did. -/
def coneOfsUptoRow : OpenClaim := { program := "ytmkbdfidnfmgmaagreat", sum := "de8a7546edd7fb8b9a3c97b77016e1544c3c1cf414c1fe82b39c91c82a702272", func := "astrarium/astrariumlaw29.ConeOfs", spec := "coneOfs", unfollowed := true, recurses := true, plainKeys := false, apart := false, narrowed := true }
def ConeOfsUptoSaid : Prop := coneOfsUptoRow.holds Tryz.pinned (OpenSpec.upto coneOfsSpec)

/-- 'astrariumlaw29.ConeLifts', WHERE WHAT IT READS IS OF BULK AT MOST 1048576: true; the input reads as it did. -/
def coneLiftsUptoRow : OpenClaim := { program := "ytmkbdfidnfmgmaagreat", sum := "de8a7546edd7fb8b9a3c97b77016e1544c3c1cf414c1fe82b39c91c82a702272", func := "astrarium/astrariumlaw29.ConeLifts", spec := "coneLifts", unfollowed := true, recurses := true, plainKeys := false, apart := false, narrowed := true }
def ConeLiftsUptoSaid : Prop := coneLiftsUptoRow.holds Tryz.pinned (OpenSpec.upto coneLiftsSpec)

/-- 'astrariumlaw29.ConeWitnesses', WHERE WHAT IT READS IS OF BULK AT MOST 1048576: true; the input reads as it did. -/
def coneWitnessesUptoRow : OpenClaim := { program := "ytmkbdfidnfmgmaagreat", sum := "de8a7546edd7fb8b9a3c97b77016e1544c3c1cf414c1fe82b39c91c82a702272", func := "astrarium/astrariumlaw29.ConeWitnesses", spec := "coneWitnesses", unfollowed := true, recurses := true, plainKeys := false, apart := false, narrowed := true }
def ConeWitnessesUptoSaid : Prop := coneWitnessesUptoRow.holds Tryz.pinned (OpenSpec.upto coneWitnessesSpec)

/-- 'astrariumlaw29.ConeRuns', WHERE WHAT IT READS IS OF BULK AT MOST 1048576: true; the input reads as it did. -/
def coneRunsUptoRow : OpenClaim := { program := "ytmkbdfidnfmgmaagreat", sum := "de8a7546edd7fb8b9a3c97b77016e1544c3c1cf414c1fe82b39c91c82a702272", func := "astrarium/astrariumlaw29.ConeRuns", spec := "coneRuns", unfollowed := true, recurses := true, plainKeys := false, apart := false, narrowed := true }
def ConeRunsUptoSaid : Prop := coneRunsUptoRow.holds Tryz.pinned (OpenSpec.upto coneRunsSpec)

/-- 'astrariumlaw28.StrashRuns', WHERE WHAT IT READS IS OF BULK AT MOST 1048576: true; the input reads as it did. -/
def strashRunsUptoRow : OpenClaim := { program := "ytmkbdfidnfmgmaagreat", sum := "de8a7546edd7fb8b9a3c97b77016e1544c3c1cf414c1fe82b39c91c82a702272", func := "astrarium/astrariumlaw28.StrashRuns", spec := "strashRuns", unfollowed := true, recurses := true, plainKeys := false, apart := false, narrowed := true }
def StrashRunsUptoSaid : Prop := strashRunsUptoRow.holds Tryz.pinned (OpenSpec.upto strashRunsSpec)

end Rows
end Go.Proofs.YtmkbdfidnfmgmaaGreat
