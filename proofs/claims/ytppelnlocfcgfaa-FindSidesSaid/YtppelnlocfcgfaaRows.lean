/-
  No cell of these rows narrows 'for every input' (looked for: loops, veiled, ifaces, maps, wideKeys, modest, calm, conditions, laid).
  DERIVED. THE GIVEN ROWS OF THIS SEAT. 13 by the template 'for every input the law returns true; each argument reads behind the call as it read before'; 0 by the template 'total and deterministic' (their statements: YtppelnlocfcgfaaTotals.lean).
  GIVEN WITH THE SEED: the statements are not yours to turn. If you find one false, say at which input.
  Laid BY PROGRAM, IN A SANDBOX (cutbox-rows.mjs): the forced cells as the released guide's own fill.sh prints them over the translation dabf6158bd855ae2… (all of the seat's roots in one cut). By AI agents, Wed Nov 11 2026. No macro, syntax, notation, axiom, sorry.
-/
import Derived.Test.YtppelnlocfcgfaaChecked
import GoSem.Claim
import GoSem.ClaimJoined
import GoSem.ClaimMapViews
import Derived.JoinedTies
import Derived.KernelRfl
namespace Go.Proofs.Ytppelnlocfcgfaa
/- THE CELL 'sum', in the pinned program and in every row, IS THE sha256 OF THE DUMP (.gsa) THAT YtppelnlocfcgfaaProg.lean LOADS. Nothing in Lean hashes anything: it is a label: what it is worth is what the hold of that sum in a sandbox is worth. -/
noncomputable def Try.pinned : Pinned := { name := "ytppelnlocfcgfaa", sum := "dabf6158bd855ae20d54e407508f3849bba3b7a5f054e0e861ae6569ab8a7954", checked := Try.checked }
namespace Rows
def none {H : Type} : Left H := { results := [], args := [] }

/-- 'silversidelaw07.FindRepeats': WHATEVER THE INPUT: true; the input reads as it did. -/
def findRepeatsSpec : ChangeSpec := { name := "findRepeats", fn := fun _ => fun
  | [d] => { results := [.lit (.bool true)], args := [d] }
  | _ => none }
def findRepeatsRow : OpenClaim := { program := "ytppelnlocfcgfaa", sum := "dabf6158bd855ae20d54e407508f3849bba3b7a5f054e0e861ae6569ab8a7954", func := "silverside/silversidelaw07.FindRepeats", spec := "findRepeats", inPlace := ["internal/abi.NoEscape"], unfollowed := true, recurses := true, apart := false }
def FindRepeatsSaid : Prop := findRepeatsRow.holds Try.pinned (OpenSpec.ofChange findRepeatsSpec)

/-- ITS FALSE NEIGHBOUR: 'it returns false'. Refute it at one input. -/
def findRepeatsWrong : ChangeSpec := { name := "findRepeats", fn := fun _ => fun
  | [d] => { results := [.lit (.bool false)], args := [d] }
  | _ => none }
def FindRepeatsWrongFalsely : Prop := findRepeatsRow.holds Try.pinned (OpenSpec.ofChange findRepeatsWrong)

/-- 'silversidelaw07.FindTurns': WHATEVER THE INPUT: true; the input reads as it did. -/
def findTurnsSpec : ChangeSpec := { name := "findTurns", fn := fun _ => fun
  | [d] => { results := [.lit (.bool true)], args := [d] }
  | _ => none }
def findTurnsRow : OpenClaim := { program := "ytppelnlocfcgfaa", sum := "dabf6158bd855ae20d54e407508f3849bba3b7a5f054e0e861ae6569ab8a7954", func := "silverside/silversidelaw07.FindTurns", spec := "findTurns", inPlace := ["internal/abi.NoEscape"], unfollowed := true, recurses := true, apart := false }
def FindTurnsSaid : Prop := findTurnsRow.holds Try.pinned (OpenSpec.ofChange findTurnsSpec)

/-- ITS FALSE NEIGHBOUR: 'it returns false'. Refute it at one input. -/
def findTurnsWrong : ChangeSpec := { name := "findTurns", fn := fun _ => fun
  | [d] => { results := [.lit (.bool false)], args := [d] }
  | _ => none }
def FindTurnsWrongFalsely : Prop := findTurnsRow.holds Try.pinned (OpenSpec.ofChange findTurnsWrong)

/-- 'silversidelaw07.FindRestores': WHATEVER THE INPUT: true; the input reads as it did. -/
def findRestoresSpec : ChangeSpec := { name := "findRestores", fn := fun _ => fun
  | [d1, d2] => { results := [.lit (.bool true)], args := [d1, d2] }
  | _ => none }
def findRestoresRow : OpenClaim := { program := "ytppelnlocfcgfaa", sum := "dabf6158bd855ae20d54e407508f3849bba3b7a5f054e0e861ae6569ab8a7954", func := "silverside/silversidelaw07.FindRestores", spec := "findRestores", inPlace := ["internal/abi.NoEscape"], unfollowed := true, recurses := true, apart := false }
def FindRestoresSaid : Prop := findRestoresRow.holds Try.pinned (OpenSpec.ofChange findRestoresSpec)

/-- ITS FALSE NEIGHBOUR: 'it returns false'. Refute it at one input. -/
def findRestoresWrong : ChangeSpec := { name := "findRestores", fn := fun _ => fun
  | [d1, d2] => { results := [.lit (.bool false)], args := [d1, d2] }
  | _ => none }
def FindRestoresWrongFalsely : Prop := findRestoresRow.holds Try.pinned (OpenSpec.ofChange findRestoresWrong)

/-- 'silversidelaw07.FindBack': WHATEVER THE INPUT: true; the input reads as it did. -/
def findBackSpec : ChangeSpec := { name := "findBack", fn := fun _ => fun
  | [d1, d2] => { results := [.lit (.bool true)], args := [d1, d2] }
  | _ => none }
def findBackRow : OpenClaim := { program := "ytppelnlocfcgfaa", sum := "dabf6158bd855ae20d54e407508f3849bba3b7a5f054e0e861ae6569ab8a7954", func := "silverside/silversidelaw07.FindBack", spec := "findBack", inPlace := ["internal/abi.NoEscape"], unfollowed := true, recurses := true, apart := false }
def FindBackSaid : Prop := findBackRow.holds Try.pinned (OpenSpec.ofChange findBackSpec)

/-- ITS FALSE NEIGHBOUR: 'it returns false'. Refute it at one input. -/
def findBackWrong : ChangeSpec := { name := "findBack", fn := fun _ => fun
  | [d1, d2] => { results := [.lit (.bool false)], args := [d1, d2] }
  | _ => none }
def FindBackWrongFalsely : Prop := findBackRow.holds Try.pinned (OpenSpec.ofChange findBackWrong)

/-- 'silversidelaw07.FindSums': WHATEVER THE INPUT: true; the input reads as it did. -/
def findSumsSpec : ChangeSpec := { name := "findSums", fn := fun _ => fun
  | [d] => { results := [.lit (.bool true)], args := [d] }
  | _ => none }
def findSumsRow : OpenClaim := { program := "ytppelnlocfcgfaa", sum := "dabf6158bd855ae20d54e407508f3849bba3b7a5f054e0e861ae6569ab8a7954", func := "silverside/silversidelaw07.FindSums", spec := "findSums", inPlace := ["internal/abi.NoEscape"], unfollowed := true, recurses := true, apart := false }
def FindSumsSaid : Prop := findSumsRow.holds Try.pinned (OpenSpec.ofChange findSumsSpec)

/-- ITS FALSE NEIGHBOUR: 'it returns false'. Refute it at one input. -/
def findSumsWrong : ChangeSpec := { name := "findSums", fn := fun _ => fun
  | [d] => { results := [.lit (.bool false)], args := [d] }
  | _ => none }
def FindSumsWrongFalsely : Prop := findSumsRow.holds Try.pinned (OpenSpec.ofChange findSumsWrong)

/-- 'silversidelaw07.FindOrders': WHATEVER THE INPUT: true; the input reads as it did. -/
def findOrdersSpec : ChangeSpec := { name := "findOrders", fn := fun _ => fun
  | [d] => { results := [.lit (.bool true)], args := [d] }
  | _ => none }
def findOrdersRow : OpenClaim := { program := "ytppelnlocfcgfaa", sum := "dabf6158bd855ae20d54e407508f3849bba3b7a5f054e0e861ae6569ab8a7954", func := "silverside/silversidelaw07.FindOrders", spec := "findOrders", inPlace := ["internal/abi.NoEscape"], unfollowed := true, recurses := true, apart := false }
def FindOrdersSaid : Prop := findOrdersRow.holds Try.pinned (OpenSpec.ofChange findOrdersSpec)

/-- ITS FALSE NEIGHBOUR: 'it returns false'. Refute it at one input. -/
def findOrdersWrong : ChangeSpec := { name := "findOrders", fn := fun _ => fun
  | [d] => { results := [.lit (.bool false)], args := [d] }
  | _ => none }
def FindOrdersWrongFalsely : Prop := findOrdersRow.holds Try.pinned (OpenSpec.ofChange findOrdersWrong)

/-- 'silversidelaw07.FindShortest': WHATEVER THE INPUT: true; the input reads as it did. -/
def findShortestSpec : ChangeSpec := { name := "findShortest", fn := fun _ => fun
  | [d1, d2] => { results := [.lit (.bool true)], args := [d1, d2] }
  | _ => none }
def findShortestRow : OpenClaim := { program := "ytppelnlocfcgfaa", sum := "dabf6158bd855ae20d54e407508f3849bba3b7a5f054e0e861ae6569ab8a7954", func := "silverside/silversidelaw07.FindShortest", spec := "findShortest", inPlace := ["internal/abi.NoEscape"], unfollowed := true, recurses := true, apart := false }
def FindShortestSaid : Prop := findShortestRow.holds Try.pinned (OpenSpec.ofChange findShortestSpec)

/-- ITS FALSE NEIGHBOUR: 'it returns false'. Refute it at one input. -/
def findShortestWrong : ChangeSpec := { name := "findShortest", fn := fun _ => fun
  | [d1, d2] => { results := [.lit (.bool false)], args := [d1, d2] }
  | _ => none }
def FindShortestWrongFalsely : Prop := findShortestRow.holds Try.pinned (OpenSpec.ofChange findShortestWrong)

/-- 'silversidelaw07.FindOnce': WHATEVER THE INPUT: true; the input reads as it did. -/
def findOnceSpec : ChangeSpec := { name := "findOnce", fn := fun _ => fun
  | [d1, d2] => { results := [.lit (.bool true)], args := [d1, d2] }
  | _ => none }
def findOnceRow : OpenClaim := { program := "ytppelnlocfcgfaa", sum := "dabf6158bd855ae20d54e407508f3849bba3b7a5f054e0e861ae6569ab8a7954", func := "silverside/silversidelaw07.FindOnce", spec := "findOnce", inPlace := ["internal/abi.NoEscape"], unfollowed := true, recurses := true, apart := false }
def FindOnceSaid : Prop := findOnceRow.holds Try.pinned (OpenSpec.ofChange findOnceSpec)

/-- ITS FALSE NEIGHBOUR: 'it returns false'. Refute it at one input. -/
def findOnceWrong : ChangeSpec := { name := "findOnce", fn := fun _ => fun
  | [d1, d2] => { results := [.lit (.bool false)], args := [d1, d2] }
  | _ => none }
def FindOnceWrongFalsely : Prop := findOnceRow.holds Try.pinned (OpenSpec.ofChange findOnceWrong)

/-- 'silversidelaw07.FindFinds': WHATEVER THE INPUT: true; the input reads as it did. -/
def findFindsSpec : ChangeSpec := { name := "findFinds", fn := fun _ => fun
  | [d1, d2] => { results := [.lit (.bool true)], args := [d1, d2] }
  | _ => none }
def findFindsRow : OpenClaim := { program := "ytppelnlocfcgfaa", sum := "dabf6158bd855ae20d54e407508f3849bba3b7a5f054e0e861ae6569ab8a7954", func := "silverside/silversidelaw07.FindFinds", spec := "findFinds", inPlace := ["internal/abi.NoEscape"], unfollowed := true, recurses := true, apart := false }
def FindFindsSaid : Prop := findFindsRow.holds Try.pinned (OpenSpec.ofChange findFindsSpec)

/-- ITS FALSE NEIGHBOUR: 'it returns false'. Refute it at one input. -/
def findFindsWrong : ChangeSpec := { name := "findFinds", fn := fun _ => fun
  | [d1, d2] => { results := [.lit (.bool false)], args := [d1, d2] }
  | _ => none }
def FindFindsWrongFalsely : Prop := findFindsRow.holds Try.pinned (OpenSpec.ofChange findFindsWrong)

/-- 'silversidelaw07.FindSides': WHATEVER THE INPUT: true; the input reads as it did. -/
def findSidesSpec : ChangeSpec := { name := "findSides", fn := fun _ => fun
  | [d1, d2] => { results := [.lit (.bool true)], args := [d1, d2] }
  | _ => none }
def findSidesRow : OpenClaim := { program := "ytppelnlocfcgfaa", sum := "dabf6158bd855ae20d54e407508f3849bba3b7a5f054e0e861ae6569ab8a7954", func := "silverside/silversidelaw07.FindSides", spec := "findSides", inPlace := ["internal/abi.NoEscape"], unfollowed := true, recurses := true, apart := false }
def FindSidesSaid : Prop := findSidesRow.holds Try.pinned (OpenSpec.ofChange findSidesSpec)

/-- ITS FALSE NEIGHBOUR: 'it returns false'. Refute it at one input. -/
def findSidesWrong : ChangeSpec := { name := "findSides", fn := fun _ => fun
  | [d1, d2] => { results := [.lit (.bool false)], args := [d1, d2] }
  | _ => none }
def FindSidesWrongFalsely : Prop := findSidesRow.holds Try.pinned (OpenSpec.ofChange findSidesWrong)

/-- 'silversidelaw07.FindCommon': WHATEVER THE INPUT: true; the input reads as it did. -/
def findCommonSpec : ChangeSpec := { name := "findCommon", fn := fun _ => fun
  | [d1, d2] => { results := [.lit (.bool true)], args := [d1, d2] }
  | _ => none }
def findCommonRow : OpenClaim := { program := "ytppelnlocfcgfaa", sum := "dabf6158bd855ae20d54e407508f3849bba3b7a5f054e0e861ae6569ab8a7954", func := "silverside/silversidelaw07.FindCommon", spec := "findCommon", inPlace := ["internal/abi.NoEscape"], unfollowed := true, recurses := true, apart := false }
def FindCommonSaid : Prop := findCommonRow.holds Try.pinned (OpenSpec.ofChange findCommonSpec)

/-- ITS FALSE NEIGHBOUR: 'it returns false'. Refute it at one input. -/
def findCommonWrong : ChangeSpec := { name := "findCommon", fn := fun _ => fun
  | [d1, d2] => { results := [.lit (.bool false)], args := [d1, d2] }
  | _ => none }
def FindCommonWrongFalsely : Prop := findCommonRow.holds Try.pinned (OpenSpec.ofChange findCommonWrong)

/-- 'silversidelaw07.FindBoth': WHATEVER THE INPUT: true; the input reads as it did. -/
def findBothSpec : ChangeSpec := { name := "findBoth", fn := fun _ => fun
  | [d1, d2] => { results := [.lit (.bool true)], args := [d1, d2] }
  | _ => none }
def findBothRow : OpenClaim := { program := "ytppelnlocfcgfaa", sum := "dabf6158bd855ae20d54e407508f3849bba3b7a5f054e0e861ae6569ab8a7954", func := "silverside/silversidelaw07.FindBoth", spec := "findBoth", inPlace := ["internal/abi.NoEscape"], unfollowed := true, recurses := true, apart := false }
def FindBothSaid : Prop := findBothRow.holds Try.pinned (OpenSpec.ofChange findBothSpec)

/-- ITS FALSE NEIGHBOUR: 'it returns false'. Refute it at one input. -/
def findBothWrong : ChangeSpec := { name := "findBoth", fn := fun _ => fun
  | [d1, d2] => { results := [.lit (.bool false)], args := [d1, d2] }
  | _ => none }
def FindBothWrongFalsely : Prop := findBothRow.holds Try.pinned (OpenSpec.ofChange findBothWrong)

/-- 'silversidelaw07.FindZero': WHATEVER THE INPUT: true; the input reads as it did. -/
def findZeroSpec : ChangeSpec := { name := "findZero", fn := fun _ => fun
  | [d1, d2, d3] => { results := [.lit (.bool true)], args := [d1, d2, d3] }
  | _ => none }
def findZeroRow : OpenClaim := { program := "ytppelnlocfcgfaa", sum := "dabf6158bd855ae20d54e407508f3849bba3b7a5f054e0e861ae6569ab8a7954", func := "silverside/silversidelaw07.FindZero", spec := "findZero", inPlace := ["internal/abi.NoEscape"], unfollowed := true, recurses := true, apart := false }
def FindZeroSaid : Prop := findZeroRow.holds Try.pinned (OpenSpec.ofChange findZeroSpec)

/-- ITS FALSE NEIGHBOUR: 'it returns false'. Refute it at one input. -/
def findZeroWrong : ChangeSpec := { name := "findZero", fn := fun _ => fun
  | [d1, d2, d3] => { results := [.lit (.bool false)], args := [d1, d2, d3] }
  | _ => none }
def FindZeroWrongFalsely : Prop := findZeroRow.holds Try.pinned (OpenSpec.ofChange findZeroWrong)

/- THE SECOND FORM. 'bulk': how many values and letters a reading holds, each counted each time it is reached (what is shared counts as often as it is met; a slice's spare places count too). A statement '..UptoSaid' is the law's where the arguments, and the package variables that the reading takes, are together of bulk at most 1048576: NARROWER than '..Said'. Prove '..Said' where nothing that the law and all that it calls make is longer than what came in: it says more and counts as full. Else prove '..UptoSaid'. A law counts once. -/
mutual
def uptoBulk {H : Type} : DataW H → Nat
  | .lit (.string bytes) => bytes.length + 1
  | .lit _ => 1
  | .nil => 1
  | .ptr d => uptoBulk d + 1
  | .slice elems spare => uptoBulkAll elems + uptoBulkAll spare + 1
  | .agg parts => uptoBulkAll parts + 1
  | .iface _ d => uptoBulk d + 1
  | .map entries => uptoBulkEntries entries + 1
  | .held _ => 1
def uptoBulkAll {H : Type} : List (DataW H) → Nat
  | [] => 0
  | d :: r => uptoBulk d + uptoBulkAll r
def uptoBulkEntries {H : Type} : List (Lit × DataW H) → Nat
  | [] => 0
  | x :: r => uptoBulkEntry x + uptoBulkEntries r
def uptoBulkEntry {H : Type} : Lit × DataW H → Nat
  | (.string bytes, d) => bytes.length + uptoBulk d + 1
  | (_, d) => uptoBulk d + 1
 end
def uptoSmall : (H : Type) → List (DataW H) → Bool := fun _ ds => decide (uptoBulkAll ds ≤ 1048576)
def OpenSpec.upto (s : _root_.Go.ChangeSpec) : _root_.Go.OpenSpec := { _root_.Go.OpenSpec.ofChange s with cond := some uptoSmall }

/-- 'silversidelaw07.FindRepeats', WHERE WHAT IT READS IS OF BULK AT MOST 1048576: true; the input reads as it did. -/
def findRepeatsUptoRow : OpenClaim := { program := "ytppelnlocfcgfaa", sum := "dabf6158bd855ae20d54e407508f3849bba3b7a5f054e0e861ae6569ab8a7954", func := "silverside/silversidelaw07.FindRepeats", spec := "findRepeats", inPlace := ["internal/abi.NoEscape"], unfollowed := true, recurses := true, apart := false, narrowed := true }
def FindRepeatsUptoSaid : Prop := findRepeatsUptoRow.holds Try.pinned (OpenSpec.upto findRepeatsSpec)

/-- 'silversidelaw07.FindTurns', WHERE WHAT IT READS IS OF BULK AT MOST 1048576: true; the input reads as it did. -/
def findTurnsUptoRow : OpenClaim := { program := "ytppelnlocfcgfaa", sum := "dabf6158bd855ae20d54e407508f3849bba3b7a5f054e0e861ae6569ab8a7954", func := "silverside/silversidelaw07.FindTurns", spec := "findTurns", inPlace := ["internal/abi.NoEscape"], unfollowed := true, recurses := true, apart := false, narrowed := true }
def FindTurnsUptoSaid : Prop := findTurnsUptoRow.holds Try.pinned (OpenSpec.upto findTurnsSpec)

/-- 'silversidelaw07.FindRestores', WHERE WHAT IT READS IS OF BULK AT MOST 1048576: true; the input reads as it did. -/
def findRestoresUptoRow : OpenClaim := { program := "ytppelnlocfcgfaa", sum := "dabf6158bd855ae20d54e407508f3849bba3b7a5f054e0e861ae6569ab8a7954", func := "silverside/silversidelaw07.FindRestores", spec := "findRestores", inPlace := ["internal/abi.NoEscape"], unfollowed := true, recurses := true, apart := false, narrowed := true }
def FindRestoresUptoSaid : Prop := findRestoresUptoRow.holds Try.pinned (OpenSpec.upto findRestoresSpec)

/-- 'silversidelaw07.FindBack', WHERE WHAT IT READS IS OF BULK AT MOST 1048576: true; the input reads as it did. -/
def findBackUptoRow : OpenClaim := { program := "ytppelnlocfcgfaa", sum := "dabf6158bd855ae20d54e407508f3849bba3b7a5f054e0e861ae6569ab8a7954", func := "silverside/silversidelaw07.FindBack", spec := "findBack", inPlace := ["internal/abi.NoEscape"], unfollowed := true, recurses := true, apart := false, narrowed := true }
def FindBackUptoSaid : Prop := findBackUptoRow.holds Try.pinned (OpenSpec.upto findBackSpec)

/-- 'silversidelaw07.FindSums', WHERE WHAT IT READS IS OF BULK AT MOST 1048576: true; the input reads as it did. -/
def findSumsUptoRow : OpenClaim := { program := "ytppelnlocfcgfaa", sum := "dabf6158bd855ae20d54e407508f3849bba3b7a5f054e0e861ae6569ab8a7954", func := "silverside/silversidelaw07.FindSums", spec := "findSums", inPlace := ["internal/abi.NoEscape"], unfollowed := true, recurses := true, apart := false, narrowed := true }
def FindSumsUptoSaid : Prop := findSumsUptoRow.holds Try.pinned (OpenSpec.upto findSumsSpec)

/-- 'silversidelaw07.FindOrders', WHERE WHAT IT READS IS OF BULK AT MOST 1048576: true; the input reads as it did. -/
def findOrdersUptoRow : OpenClaim := { program := "ytppelnlocfcgfaa", sum := "dabf6158bd855ae20d54e407508f3849bba3b7a5f054e0e861ae6569ab8a7954", func := "silverside/silversidelaw07.FindOrders", spec := "findOrders", inPlace := ["internal/abi.NoEscape"], unfollowed := true, recurses := true, apart := false, narrowed := true }
def FindOrdersUptoSaid : Prop := findOrdersUptoRow.holds Try.pinned (OpenSpec.upto findOrdersSpec)

/-- 'silversidelaw07.FindShortest', WHERE WHAT IT READS IS OF BULK AT MOST 1048576: true; the input reads as it did. -/
def findShortestUptoRow : OpenClaim := { program := "ytppelnlocfcgfaa", sum := "dabf6158bd855ae20d54e407508f3849bba3b7a5f054e0e861ae6569ab8a7954", func := "silverside/silversidelaw07.FindShortest", spec := "findShortest", inPlace := ["internal/abi.NoEscape"], unfollowed := true, recurses := true, apart := false, narrowed := true }
def FindShortestUptoSaid : Prop := findShortestUptoRow.holds Try.pinned (OpenSpec.upto findShortestSpec)

/-- 'silversidelaw07.FindOnce', WHERE WHAT IT READS IS OF BULK AT MOST 1048576: true; the input reads as it did. -/
def findOnceUptoRow : OpenClaim := { program := "ytppelnlocfcgfaa", sum := "dabf6158bd855ae20d54e407508f3849bba3b7a5f054e0e861ae6569ab8a7954", func := "silverside/silversidelaw07.FindOnce", spec := "findOnce", inPlace := ["internal/abi.NoEscape"], unfollowed := true, recurses := true, apart := false, narrowed := true }
def FindOnceUptoSaid : Prop := findOnceUptoRow.holds Try.pinned (OpenSpec.upto findOnceSpec)

/-- 'silversidelaw07.FindFinds', WHERE WHAT IT READS IS OF BULK AT MOST 1048576: true; the input reads as it did. -/
def findFindsUptoRow : OpenClaim := { program := "ytppelnlocfcgfaa", sum := "dabf6158bd855ae20d54e407508f3849bba3b7a5f054e0e861ae6569ab8a7954", func := "silverside/silversidelaw07.FindFinds", spec := "findFinds", inPlace := ["internal/abi.NoEscape"], unfollowed := true, recurses := true, apart := false, narrowed := true }
def FindFindsUptoSaid : Prop := findFindsUptoRow.holds Try.pinned (OpenSpec.upto findFindsSpec)

/-- 'silversidelaw07.FindSides', WHERE WHAT IT READS IS OF BULK AT MOST 1048576: true; the input reads as it did. -/
def findSidesUptoRow : OpenClaim := { program := "ytppelnlocfcgfaa", sum := "dabf6158bd855ae20d54e407508f3849bba3b7a5f054e0e861ae6569ab8a7954", func := "silverside/silversidelaw07.FindSides", spec := "findSides", inPlace := ["internal/abi.NoEscape"], unfollowed := true, recurses := true, apart := false, narrowed := true }
def FindSidesUptoSaid : Prop := findSidesUptoRow.holds Try.pinned (OpenSpec.upto findSidesSpec)

/-- 'silversidelaw07.FindCommon', WHERE WHAT IT READS IS OF BULK AT MOST 1048576: true; the input reads as it did. -/
def findCommonUptoRow : OpenClaim := { program := "ytppelnlocfcgfaa", sum := "dabf6158bd855ae20d54e407508f3849bba3b7a5f054e0e861ae6569ab8a7954", func := "silverside/silversidelaw07.FindCommon", spec := "findCommon", inPlace := ["internal/abi.NoEscape"], unfollowed := true, recurses := true, apart := false, narrowed := true }
def FindCommonUptoSaid : Prop := findCommonUptoRow.holds Try.pinned (OpenSpec.upto findCommonSpec)

/-- 'silversidelaw07.FindBoth', WHERE WHAT IT READS IS OF BULK AT MOST 1048576: true; the input reads as it did. -/
def findBothUptoRow : OpenClaim := { program := "ytppelnlocfcgfaa", sum := "dabf6158bd855ae20d54e407508f3849bba3b7a5f054e0e861ae6569ab8a7954", func := "silverside/silversidelaw07.FindBoth", spec := "findBoth", inPlace := ["internal/abi.NoEscape"], unfollowed := true, recurses := true, apart := false, narrowed := true }
def FindBothUptoSaid : Prop := findBothUptoRow.holds Try.pinned (OpenSpec.upto findBothSpec)

/-- 'silversidelaw07.FindZero', WHERE WHAT IT READS IS OF BULK AT MOST 1048576: true; the input reads as it did. -/
def findZeroUptoRow : OpenClaim := { program := "ytppelnlocfcgfaa", sum := "dabf6158bd855ae20d54e407508f3849bba3b7a5f054e0e861ae6569ab8a7954", func := "silverside/silversidelaw07.FindZero", spec := "findZero", inPlace := ["internal/abi.NoEscape"], unfollowed := true, recurses := true, apart := false, narrowed := true }
def FindZeroUptoSaid : Prop := findZeroUptoRow.holds Try.pinned (OpenSpec.upto findZeroSpec)

end Rows
end Go.Proofs.Ytppelnlocfcgfaa
