/-
  No cell of these rows narrows 'for every input' (looked for: loops, veiled, ifaces, maps, wideKeys, modest, calm, conditions, laid).
  DERIVED. THE GIVEN ROWS OF THIS SEAT. 11 by the template 'for every input the law returns true; each argument reads behind the call as it read before'; 0 by the template 'total and deterministic' (their statements: YtcfkagielgnkkaaTotals.lean).
  GIVEN WITH THE SEED: the statements are not yours to turn. If you find one false, say at which input.
  Laid BY PROGRAM, IN A SANDBOX (cutbox-rows.mjs): the forced cells as the released guide's own fill.sh prints them over the translation d8219d1367ba66bc… (all of the seat's roots in one cut). By AI agents, Wed Nov 11 2026. No macro, syntax, notation, axiom, sorry.
-/
import Derived.Test.YtcfkagielgnkkaaChecked
import GoSem.Claim
import GoSem.ClaimJoined
import GoSem.ClaimMapViews
import Derived.JoinedTies
import Derived.KernelRfl
namespace Go.Proofs.Ytcfkagielgnkkaa
/- THE CELL 'sum', in the pinned program and in every row, IS THE sha256 OF THE DUMP (.gsa) THAT YtcfkagielgnkkaaProg.lean LOADS. Nothing in Lean hashes anything: it is a label: what it is worth is what the hold of that sum in a sandbox is worth. -/
noncomputable def Try.pinned : Pinned := { name := "ytcfkagielgnkkaa", sum := "d8219d1367ba66bcbc2ee76a98a0c7b042040ae52d98b0029aa05c62453a654b", checked := Try.checked }
namespace Rows
def none {H : Type} : Left H := { results := [], args := [] }

/-- 'astrariumlaw10.BitsWords': WHATEVER THE INPUT: true; the input reads as it did. -/
def bitsWordsSpec : ChangeSpec := { name := "bitsWords", fn := fun _ => fun
  | [d1, d2, d3] => { results := [.lit (.bool true)], args := [d1, d2, d3] }
  | _ => none }
def bitsWordsRow : OpenClaim := { program := "ytcfkagielgnkkaa", sum := "d8219d1367ba66bcbc2ee76a98a0c7b042040ae52d98b0029aa05c62453a654b", func := "astrarium/astrariumlaw10.BitsWords", spec := "bitsWords", unfollowed := true, recurses := true, apart := false }
def BitsWordsSaid : Prop := bitsWordsRow.holds Try.pinned (OpenSpec.ofChange bitsWordsSpec)

/-- ITS FALSE NEIGHBOUR: 'it returns false'. Refute it at one input. -/
def bitsWordsWrong : ChangeSpec := { name := "bitsWords", fn := fun _ => fun
  | [d1, d2, d3] => { results := [.lit (.bool false)], args := [d1, d2, d3] }
  | _ => none }
def BitsWordsWrongFalsely : Prop := bitsWordsRow.holds Try.pinned (OpenSpec.ofChange bitsWordsWrong)

/-- 'astrariumlaw10.BitsTexts': WHATEVER THE INPUT: true; the input reads as it did. -/
def bitsTextsSpec : ChangeSpec := { name := "bitsTexts", fn := fun _ => fun
  | [d1, d2] => { results := [.lit (.bool true)], args := [d1, d2] }
  | _ => none }
def bitsTextsRow : OpenClaim := { program := "ytcfkagielgnkkaa", sum := "d8219d1367ba66bcbc2ee76a98a0c7b042040ae52d98b0029aa05c62453a654b", func := "astrarium/astrariumlaw10.BitsTexts", spec := "bitsTexts", unfollowed := true, recurses := true, apart := false }
def BitsTextsSaid : Prop := bitsTextsRow.holds Try.pinned (OpenSpec.ofChange bitsTextsSpec)

/-- ITS FALSE NEIGHBOUR: 'it returns false'. Refute it at one input. -/
def bitsTextsWrong : ChangeSpec := { name := "bitsTexts", fn := fun _ => fun
  | [d1, d2] => { results := [.lit (.bool false)], args := [d1, d2] }
  | _ => none }
def BitsTextsWrongFalsely : Prop := bitsTextsRow.holds Try.pinned (OpenSpec.ofChange bitsTextsWrong)

/-- 'astrariumlaw10.BitsValues': WHATEVER THE INPUT: true; the input reads as it did. -/
def bitsValuesSpec : ChangeSpec := { name := "bitsValues", fn := fun _ => fun
  | [d1, d2, d3] => { results := [.lit (.bool true)], args := [d1, d2, d3] }
  | _ => none }
def bitsValuesRow : OpenClaim := { program := "ytcfkagielgnkkaa", sum := "d8219d1367ba66bcbc2ee76a98a0c7b042040ae52d98b0029aa05c62453a654b", func := "astrarium/astrariumlaw10.BitsValues", spec := "bitsValues", unfollowed := true, recurses := true, apart := false }
def BitsValuesSaid : Prop := bitsValuesRow.holds Try.pinned (OpenSpec.ofChange bitsValuesSpec)

/-- ITS FALSE NEIGHBOUR: 'it returns false'. Refute it at one input. -/
def bitsValuesWrong : ChangeSpec := { name := "bitsValues", fn := fun _ => fun
  | [d1, d2, d3] => { results := [.lit (.bool false)], args := [d1, d2, d3] }
  | _ => none }
def BitsValuesWrongFalsely : Prop := bitsValuesRow.holds Try.pinned (OpenSpec.ofChange bitsValuesWrong)

/-- 'astrariumlaw10.BitsBack': WHATEVER THE INPUT: true; the input reads as it did. -/
def bitsBackSpec : ChangeSpec := { name := "bitsBack", fn := fun _ => fun
  | [d1, d2] => { results := [.lit (.bool true)], args := [d1, d2] }
  | _ => none }
def bitsBackRow : OpenClaim := { program := "ytcfkagielgnkkaa", sum := "d8219d1367ba66bcbc2ee76a98a0c7b042040ae52d98b0029aa05c62453a654b", func := "astrarium/astrariumlaw10.BitsBack", spec := "bitsBack", unfollowed := true, recurses := true, apart := false }
def BitsBackSaid : Prop := bitsBackRow.holds Try.pinned (OpenSpec.ofChange bitsBackSpec)

/-- ITS FALSE NEIGHBOUR: 'it returns false'. Refute it at one input. -/
def bitsBackWrong : ChangeSpec := { name := "bitsBack", fn := fun _ => fun
  | [d1, d2] => { results := [.lit (.bool false)], args := [d1, d2] }
  | _ => none }
def BitsBackWrongFalsely : Prop := bitsBackRow.holds Try.pinned (OpenSpec.ofChange bitsBackWrong)

/-- 'astrariumlaw03.ScanWhole': WHATEVER THE INPUT: true; the input reads as it did. -/
def scanWholeSpec : ChangeSpec := { name := "scanWhole", fn := fun _ => fun
  | [d1, d2] => { results := [.lit (.bool true)], args := [d1, d2] }
  | _ => none }
def scanWholeRow : OpenClaim := { program := "ytcfkagielgnkkaa", sum := "d8219d1367ba66bcbc2ee76a98a0c7b042040ae52d98b0029aa05c62453a654b", func := "astrarium/astrariumlaw03.ScanWhole", spec := "scanWhole", apart := false }
def ScanWholeSaid : Prop := scanWholeRow.holds Try.pinned (OpenSpec.ofChange scanWholeSpec)

/-- ITS FALSE NEIGHBOUR: 'it returns false'. Refute it at one input. -/
def scanWholeWrong : ChangeSpec := { name := "scanWhole", fn := fun _ => fun
  | [d1, d2] => { results := [.lit (.bool false)], args := [d1, d2] }
  | _ => none }
def ScanWholeWrongFalsely : Prop := scanWholeRow.holds Try.pinned (OpenSpec.ofChange scanWholeWrong)

/-- 'astrariumlaw03.ScanPlays': WHATEVER THE INPUT: true; the input reads as it did. -/
def scanPlaysSpec : ChangeSpec := { name := "scanPlays", fn := fun _ => fun
  | [d1, d2] => { results := [.lit (.bool true)], args := [d1, d2] }
  | _ => none }
def scanPlaysRow : OpenClaim := { program := "ytcfkagielgnkkaa", sum := "d8219d1367ba66bcbc2ee76a98a0c7b042040ae52d98b0029aa05c62453a654b", func := "astrarium/astrariumlaw03.ScanPlays", spec := "scanPlays", apart := false }
def ScanPlaysSaid : Prop := scanPlaysRow.holds Try.pinned (OpenSpec.ofChange scanPlaysSpec)

/-- ITS FALSE NEIGHBOUR: 'it returns false'. Refute it at one input. -/
def scanPlaysWrong : ChangeSpec := { name := "scanPlays", fn := fun _ => fun
  | [d1, d2] => { results := [.lit (.bool false)], args := [d1, d2] }
  | _ => none }
def ScanPlaysWrongFalsely : Prop := scanPlaysRow.holds Try.pinned (OpenSpec.ofChange scanPlaysWrong)

/-- 'astrariumlaw03.ScanNils': WHATEVER THE INPUT: true; the input reads as it did. -/
def scanNilsSpec : ChangeSpec := { name := "scanNils", fn := fun _ => fun
  | [d1, d2] => { results := [.lit (.bool true)], args := [d1, d2] }
  | _ => none }
def scanNilsRow : OpenClaim := { program := "ytcfkagielgnkkaa", sum := "d8219d1367ba66bcbc2ee76a98a0c7b042040ae52d98b0029aa05c62453a654b", func := "astrarium/astrariumlaw03.ScanNils", spec := "scanNils", apart := false }
def ScanNilsSaid : Prop := scanNilsRow.holds Try.pinned (OpenSpec.ofChange scanNilsSpec)

/-- ITS FALSE NEIGHBOUR: 'it returns false'. Refute it at one input. -/
def scanNilsWrong : ChangeSpec := { name := "scanNils", fn := fun _ => fun
  | [d1, d2] => { results := [.lit (.bool false)], args := [d1, d2] }
  | _ => none }
def ScanNilsWrongFalsely : Prop := scanNilsRow.holds Try.pinned (OpenSpec.ofChange scanNilsWrong)

/-- 'astrariumlaw19.HeapOrders': WHATEVER THE INPUT: true; the input reads as it did. -/
def heapOrdersSpec : ChangeSpec := { name := "heapOrders", fn := fun _ => fun
  | [d] => { results := [.lit (.bool true)], args := [d] }
  | _ => none }
def heapOrdersRow : OpenClaim := { program := "ytcfkagielgnkkaa", sum := "d8219d1367ba66bcbc2ee76a98a0c7b042040ae52d98b0029aa05c62453a654b", func := "astrarium/astrariumlaw19.HeapOrders", spec := "heapOrders", apart := false }
def HeapOrdersSaid : Prop := heapOrdersRow.holds Try.pinned (OpenSpec.ofChange heapOrdersSpec)

/-- ITS FALSE NEIGHBOUR: 'it returns false'. Refute it at one input. -/
def heapOrdersWrong : ChangeSpec := { name := "heapOrders", fn := fun _ => fun
  | [d] => { results := [.lit (.bool false)], args := [d] }
  | _ => none }
def HeapOrdersWrongFalsely : Prop := heapOrdersRow.holds Try.pinned (OpenSpec.ofChange heapOrdersWrong)

/-- 'astrariumlaw30.TableValues': WHATEVER THE INPUT: true; the input reads as it did. -/
def tableValuesSpec : ChangeSpec := { name := "tableValues", fn := fun _ => fun
  | [d1, d2, d3, d4, d5] => { results := [.lit (.bool true)], args := [d1, d2, d3, d4, d5] }
  | _ => none }
def tableValuesRow : OpenClaim := { program := "ytcfkagielgnkkaa", sum := "d8219d1367ba66bcbc2ee76a98a0c7b042040ae52d98b0029aa05c62453a654b", func := "astrarium/astrariumlaw30.TableValues", spec := "tableValues", unfollowed := true, recurses := true, apart := false }
def TableValuesSaid : Prop := tableValuesRow.holds Try.pinned (OpenSpec.ofChange tableValuesSpec)

/-- ITS FALSE NEIGHBOUR: 'it returns false'. Refute it at one input. -/
def tableValuesWrong : ChangeSpec := { name := "tableValues", fn := fun _ => fun
  | [d1, d2, d3, d4, d5] => { results := [.lit (.bool false)], args := [d1, d2, d3, d4, d5] }
  | _ => none }
def TableValuesWrongFalsely : Prop := tableValuesRow.holds Try.pinned (OpenSpec.ofChange tableValuesWrong)

/-- 'astrariumlaw30.TableNils': WHATEVER THE INPUT: true; the input reads as it did. -/
def tableNilsSpec : ChangeSpec := { name := "tableNils", fn := fun _ => fun
  | [d1, d2] => { results := [.lit (.bool true)], args := [d1, d2] }
  | _ => none }
def tableNilsRow : OpenClaim := { program := "ytcfkagielgnkkaa", sum := "d8219d1367ba66bcbc2ee76a98a0c7b042040ae52d98b0029aa05c62453a654b", func := "astrarium/astrariumlaw30.TableNils", spec := "tableNils", unfollowed := true, recurses := true, apart := false }
def TableNilsSaid : Prop := tableNilsRow.holds Try.pinned (OpenSpec.ofChange tableNilsSpec)

/-- ITS FALSE NEIGHBOUR: 'it returns false'. Refute it at one input. -/
def tableNilsWrong : ChangeSpec := { name := "tableNils", fn := fun _ => fun
  | [d1, d2] => { results := [.lit (.bool false)], args := [d1, d2] }
  | _ => none }
def TableNilsWrongFalsely : Prop := tableNilsRow.holds Try.pinned (OpenSpec.ofChange tableNilsWrong)

/-- 'astrariumlaw19.HeapNils': WHATEVER THE INPUT: true; the input reads as it did. -/
def heapNilsSpec : ChangeSpec := { name := "heapNils", fn := fun _ => fun
  | [d1, d2] => { results := [.lit (.bool true)], args := [d1, d2] }
  | _ => none }
def heapNilsRow : OpenClaim := { program := "ytcfkagielgnkkaa", sum := "d8219d1367ba66bcbc2ee76a98a0c7b042040ae52d98b0029aa05c62453a654b", func := "astrarium/astrariumlaw19.HeapNils", spec := "heapNils", unfollowed := true, recurses := true, apart := false }
def HeapNilsSaid : Prop := heapNilsRow.holds Try.pinned (OpenSpec.ofChange heapNilsSpec)

/-- ITS FALSE NEIGHBOUR: 'it returns false'. Refute it at one input. -/
def heapNilsWrong : ChangeSpec := { name := "heapNils", fn := fun _ => fun
  | [d1, d2] => { results := [.lit (.bool false)], args := [d1, d2] }
  | _ => none }
def HeapNilsWrongFalsely : Prop := heapNilsRow.holds Try.pinned (OpenSpec.ofChange heapNilsWrong)

/- THE SECOND FORM. 'bulk': how many values and letters a reading holds, each counted each time it is reached (what is shared counts as often as it is met; a slice's spare places count too). A statement '..UptoSaid' is the law's where the arguments, and the package variables that the reading takes, are together of bulk at most 1048576: NARROWER than '..Said'. Prove '..Said' where nothing that the law and all that it calls make is longer than what came in: it says more and counts as full. Else prove '..UptoSaid'. A law counts once. -/
mutual
def uptoBulk {H : Type} : DataW H → Nat
  | .lit (.string bytes) => bytes.length + 1
  | .lit _ => 1
  | .nil => 1
  | .ptr d => uptoBulk d + 1
  | .slice elems spare => uptoBulkAll elems + uptoBulkAll spare + 1
  | .agg parts => uptoBulkAll parts + 1
  | .iface _ d => uptoBulk d + 1
  | .map entries => uptoBulkEntries entries + 1
  | .held _ => 1
def uptoBulkAll {H : Type} : List (DataW H) → Nat
  | [] => 0
  | d :: r => uptoBulk d + uptoBulkAll r
def uptoBulkEntries {H : Type} : List (Lit × DataW H) → Nat
  | [] => 0
  | x :: r => uptoBulkEntry x + uptoBulkEntries r
def uptoBulkEntry {H : Type} : Lit × DataW H → Nat
  | (.string bytes, d) => bytes.length + uptoBulk d + 1
  | (_, d) => uptoBulk d + 1
 end
def uptoSmall : (H : Type) → List (DataW H) → Bool := fun _ ds => decide (uptoBulkAll ds ≤ 1048576)
def OpenSpec.upto (s : _root_.Go.ChangeSpec) : _root_.Go.OpenSpec := { _root_.Go.OpenSpec.ofChange s with cond := some uptoSmall }

/-- 'astrariumlaw10.BitsWords', WHERE WHAT IT READS IS OF BULK AT MOST 1048576: true; the input reads as it did. -/
def bitsWordsUptoRow : OpenClaim := { program := "ytcfkagielgnkkaa", sum := "d8219d1367ba66bcbc2ee76a98a0c7b042040ae52d98b0029aa05c62453a654b", func := "astrarium/astrariumlaw10.BitsWords", spec := "bitsWords", unfollowed := true, recurses := true, apart := false, narrowed := true }
def BitsWordsUptoSaid : Prop := bitsWordsUptoRow.holds Try.pinned (OpenSpec.upto bitsWordsSpec)

/-- 'astrariumlaw10.BitsTexts', WHERE WHAT IT READS IS OF BULK AT MOST 1048576: true; the input reads as it did. -/
def bitsTextsUptoRow : OpenClaim := { program := "ytcfkagielgnkkaa", sum := "d8219d1367ba66bcbc2ee76a98a0c7b042040ae52d98b0029aa05c62453a654b", func := "astrarium/astrariumlaw10.BitsTexts", spec := "bitsTexts", unfollowed := true, recurses := true, apart := false, narrowed := true }
def BitsTextsUptoSaid : Prop := bitsTextsUptoRow.holds Try.pinned (OpenSpec.upto bitsTextsSpec)

/-- 'astrariumlaw10.BitsValues', WHERE WHAT IT READS IS OF BULK AT MOST 1048576: true; the input reads as it did. -/
def bitsValuesUptoRow : OpenClaim := { program := "ytcfkagielgnkkaa", sum := "d8219d1367ba66bcbc2ee76a98a0c7b042040ae52d98b0029aa05c62453a654b", func := "astrarium/astrariumlaw10.BitsValues", spec := "bitsValues", unfollowed := true, recurses := true, apart := false, narrowed := true }
def BitsValuesUptoSaid : Prop := bitsValuesUptoRow.holds Try.pinned (OpenSpec.upto bitsValuesSpec)

/-- 'astrariumlaw10.BitsBack', WHERE WHAT IT READS IS OF BULK AT MOST 1048576: true; the input reads as it did. -/
def bitsBackUptoRow : OpenClaim := { program := "ytcfkagielgnkkaa", sum := "d8219d1367ba66bcbc2ee76a98a0c7b042040ae52d98b0029aa05c62453a654b", func := "astrarium/astrariumlaw10.BitsBack", spec := "bitsBack", unfollowed := true, recurses := true, apart := false, narrowed := true }
def BitsBackUptoSaid : Prop := bitsBackUptoRow.holds Try.pinned (OpenSpec.upto bitsBackSpec)

/-- 'astrariumlaw03.ScanWhole', WHERE WHAT IT READS IS OF BULK AT MOST 1048576: true; the input reads as it did. -/
def scanWholeUptoRow : OpenClaim := { program := "ytcfkagielgnkkaa", sum := "d8219d1367ba66bcbc2ee76a98a0c7b042040ae52d98b0029aa05c62453a654b", func := "astrarium/astrariumlaw03.ScanWhole", spec := "scanWhole", apart := false, narrowed := true }
def ScanWholeUptoSaid : Prop := scanWholeUptoRow.holds Try.pinned (OpenSpec.upto scanWholeSpec)

/-- 'astrariumlaw03.ScanPlays', WHERE WHAT IT READS IS OF BULK AT MOST 1048576: true; the input reads as it did. -/
def scanPlaysUptoRow : OpenClaim := { program := "ytcfkagielgnkkaa", sum := "d8219d1367ba66bcbc2ee76a98a0c7b042040ae52d98b0029aa05c62453a654b", func := "astrarium/astrariumlaw03.ScanPlays", spec := "scanPlays", apart := false, narrowed := true }
def ScanPlaysUptoSaid : Prop := scanPlaysUptoRow.holds Try.pinned (OpenSpec.upto scanPlaysSpec)

/-- 'astrariumlaw03.ScanNils', WHERE WHAT IT READS IS OF BULK AT MOST 1048576: true; the input reads as it did. -/
def scanNilsUptoRow : OpenClaim := { program := "ytcfkagielgnkkaa", sum := "d8219d1367ba66bcbc2ee76a98a0c7b042040ae52d98b0029aa05c62453a654b", func := "astrarium/astrariumlaw03.ScanNils", spec := "scanNils", apart := false, narrowed := true }
def ScanNilsUptoSaid : Prop := scanNilsUptoRow.holds Try.pinned (OpenSpec.upto scanNilsSpec)

/-- 'astrariumlaw19.HeapOrders', WHERE WHAT IT READS IS OF BULK AT MOST 1048576: true; the input reads as it did. -/
def heapOrdersUptoRow : OpenClaim := { program := "ytcfkagielgnkkaa", sum := "d8219d1367ba66bcbc2ee76a98a0c7b042040ae52d98b0029aa05c62453a654b", func := "astrarium/astrariumlaw19.HeapOrders", spec := "heapOrders", apart := false, narrowed := true }
def HeapOrdersUptoSaid : Prop := heapOrdersUptoRow.holds Try.pinned (OpenSpec.upto heapOrdersSpec)

/-- 'astrariumlaw30.TableValues', WHERE WHAT IT READS IS OF BULK AT MOST 1048576: true; the input reads as it did. -/
def tableValuesUptoRow : OpenClaim := { program := "ytcfkagielgnkkaa", sum := "d8219d1367ba66bcbc2ee76a98a0c7b042040ae52d98b0029aa05c62453a654b", func := "astrarium/astrariumlaw30.TableValues", spec := "tableValues", unfollowed := true, recurses := true, apart := false, narrowed := true }
def TableValuesUptoSaid : Prop := tableValuesUptoRow.holds Try.pinned (OpenSpec.upto tableValuesSpec)

/-- 'astrariumlaw30.TableNils', WHERE WHAT IT READS IS OF BULK AT MOST 1048576: true; the input reads as it did. -/
def tableNilsUptoRow : OpenClaim := { program := "ytcfkagielgnkkaa", sum := "d8219d1367ba66bcbc2ee76a98a0c7b042040ae52d98b0029aa05c62453a654b", func := "astrarium/astrariumlaw30.TableNils", spec := "tableNils", unfollowed := true, recurses := true, apart := false, narrowed := true }
def TableNilsUptoSaid : Prop := tableNilsUptoRow.holds Try.pinned (OpenSpec.upto tableNilsSpec)

/-- 'astrariumlaw19.HeapNils', WHERE WHAT IT READS IS OF BULK AT MOST 1048576: true; the input reads as it did. -/
def heapNilsUptoRow : OpenClaim := { program := "ytcfkagielgnkkaa", sum := "d8219d1367ba66bcbc2ee76a98a0c7b042040ae52d98b0029aa05c62453a654b", func := "astrarium/astrariumlaw19.HeapNils", spec := "heapNils", unfollowed := true, recurses := true, apart := false, narrowed := true }
def HeapNilsUptoSaid : Prop := heapNilsUptoRow.holds Try.pinned (OpenSpec.upto heapNilsSpec)

end Rows
end Go.Proofs.Ytcfkagielgnkkaa
