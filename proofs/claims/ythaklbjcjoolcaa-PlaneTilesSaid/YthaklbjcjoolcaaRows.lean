/-
  No cell of these rows narrows 'for every input' (looked for: loops, veiled, ifaces, maps, wideKeys, modest, calm, conditions, laid).
  DERIVED. THE GIVEN ROWS OF THIS SEAT. 17 by the template 'for every input the law returns true; each argument reads behind the call as it read before'; 0 by the template 'total and deterministic' (their statements: YthaklbjcjoolcaaTotals.lean).
  GIVEN WITH THE SEED: the statements are not yours to turn. If you find one false, say at which input.
  Laid BY PROGRAM, IN A SANDBOX (cutbox-rows.mjs): the forced cells as the released guide's own fill.sh prints them over the translation f03ebf01bddd853c… (all of the seat's roots in one cut). By AI agents, Wed Nov 11 2026. No macro, syntax, notation, axiom, sorry.
-/
import Derived.Test.YthaklbjcjoolcaaChecked
import GoSem.Claim
import GoSem.ClaimJoined
import GoSem.ClaimMapViews
import Derived.JoinedTies
import Derived.KernelRfl
namespace Go.Proofs.Ythaklbjcjoolcaa
/- THE CELL 'sum', in the pinned program and in every row, IS THE sha256 OF THE DUMP (.gsa) THAT YthaklbjcjoolcaaProg.lean LOADS. Nothing in Lean hashes anything: it is a label: what it is worth is what the hold of that sum in a sandbox is worth. -/
noncomputable def Try.pinned : Pinned := { name := "ythaklbjcjoolcaa", sum := "f03ebf01bddd853c746cee70d05570e83faaec2f281549c57985ff95bf46fca6", checked := Try.checked }
namespace Rows
def none {H : Type} : Left H := { results := [], args := [] }

/-- 'silversidelaw01.PlaneAreas': WHATEVER THE INPUT: true; the input reads as it did. -/
def planeAreasSpec : ChangeSpec := { name := "planeAreas", fn := fun _ => fun
  | [d] => { results := [.lit (.bool true)], args := [d] }
  | _ => none }
def planeAreasRow : OpenClaim := { program := "ythaklbjcjoolcaa", sum := "f03ebf01bddd853c746cee70d05570e83faaec2f281549c57985ff95bf46fca6", func := "silverside/silversidelaw01.PlaneAreas", spec := "planeAreas", unfollowed := true, recurses := true, plainKeys := false, apart := false }
def PlaneAreasSaid : Prop := planeAreasRow.holds Try.pinned (OpenSpec.ofChange planeAreasSpec)

/-- ITS FALSE NEIGHBOUR: 'it returns false'. Refute it at one input. -/
def planeAreasWrong : ChangeSpec := { name := "planeAreas", fn := fun _ => fun
  | [d] => { results := [.lit (.bool false)], args := [d] }
  | _ => none }
def PlaneAreasWrongFalsely : Prop := planeAreasRow.holds Try.pinned (OpenSpec.ofChange planeAreasWrong)

/-- 'silversidelaw01.PlaneSimple': WHATEVER THE INPUT: true; the input reads as it did. -/
def planeSimpleSpec : ChangeSpec := { name := "planeSimple", fn := fun _ => fun
  | [d] => { results := [.lit (.bool true)], args := [d] }
  | _ => none }
def planeSimpleRow : OpenClaim := { program := "ythaklbjcjoolcaa", sum := "f03ebf01bddd853c746cee70d05570e83faaec2f281549c57985ff95bf46fca6", func := "silverside/silversidelaw01.PlaneSimple", spec := "planeSimple", unfollowed := true, recurses := true, plainKeys := false, apart := false }
def PlaneSimpleSaid : Prop := planeSimpleRow.holds Try.pinned (OpenSpec.ofChange planeSimpleSpec)

/-- ITS FALSE NEIGHBOUR: 'it returns false'. Refute it at one input. -/
def planeSimpleWrong : ChangeSpec := { name := "planeSimple", fn := fun _ => fun
  | [d] => { results := [.lit (.bool false)], args := [d] }
  | _ => none }
def PlaneSimpleWrongFalsely : Prop := planeSimpleRow.holds Try.pinned (OpenSpec.ofChange planeSimpleWrong)

/-- 'silversidelaw01.PlaneInside': WHATEVER THE INPUT: true; the input reads as it did. -/
def planeInsideSpec : ChangeSpec := { name := "planeInside", fn := fun _ => fun
  | [d1, d2] => { results := [.lit (.bool true)], args := [d1, d2] }
  | _ => none }
def planeInsideRow : OpenClaim := { program := "ythaklbjcjoolcaa", sum := "f03ebf01bddd853c746cee70d05570e83faaec2f281549c57985ff95bf46fca6", func := "silverside/silversidelaw01.PlaneInside", spec := "planeInside", unfollowed := true, recurses := true, plainKeys := false, apart := false }
def PlaneInsideSaid : Prop := planeInsideRow.holds Try.pinned (OpenSpec.ofChange planeInsideSpec)

/-- ITS FALSE NEIGHBOUR: 'it returns false'. Refute it at one input. -/
def planeInsideWrong : ChangeSpec := { name := "planeInside", fn := fun _ => fun
  | [d1, d2] => { results := [.lit (.bool false)], args := [d1, d2] }
  | _ => none }
def PlaneInsideWrongFalsely : Prop := planeInsideRow.holds Try.pinned (OpenSpec.ofChange planeInsideWrong)

/-- 'silversidelaw01.PlaneTurns': WHATEVER THE INPUT: true; the input reads as it did. -/
def planeTurnsSpec : ChangeSpec := { name := "planeTurns", fn := fun _ => fun
  | [d1, d2, d3] => { results := [.lit (.bool true)], args := [d1, d2, d3] }
  | _ => none }
def planeTurnsRow : OpenClaim := { program := "ythaklbjcjoolcaa", sum := "f03ebf01bddd853c746cee70d05570e83faaec2f281549c57985ff95bf46fca6", func := "silverside/silversidelaw01.PlaneTurns", spec := "planeTurns", unfollowed := true, recurses := true, plainKeys := false, apart := false }
def PlaneTurnsSaid : Prop := planeTurnsRow.holds Try.pinned (OpenSpec.ofChange planeTurnsSpec)

/-- ITS FALSE NEIGHBOUR: 'it returns false'. Refute it at one input. -/
def planeTurnsWrong : ChangeSpec := { name := "planeTurns", fn := fun _ => fun
  | [d1, d2, d3] => { results := [.lit (.bool false)], args := [d1, d2, d3] }
  | _ => none }
def PlaneTurnsWrongFalsely : Prop := planeTurnsRow.holds Try.pinned (OpenSpec.ofChange planeTurnsWrong)

/-- 'silversidelaw01.PlaneHulls': WHATEVER THE INPUT: true; the input reads as it did. -/
def planeHullsSpec : ChangeSpec := { name := "planeHulls", fn := fun _ => fun
  | [d] => { results := [.lit (.bool true)], args := [d] }
  | _ => none }
def planeHullsRow : OpenClaim := { program := "ythaklbjcjoolcaa", sum := "f03ebf01bddd853c746cee70d05570e83faaec2f281549c57985ff95bf46fca6", func := "silverside/silversidelaw01.PlaneHulls", spec := "planeHulls", unfollowed := true, recurses := true, plainKeys := false, apart := false }
def PlaneHullsSaid : Prop := planeHullsRow.holds Try.pinned (OpenSpec.ofChange planeHullsSpec)

/-- ITS FALSE NEIGHBOUR: 'it returns false'. Refute it at one input. -/
def planeHullsWrong : ChangeSpec := { name := "planeHulls", fn := fun _ => fun
  | [d] => { results := [.lit (.bool false)], args := [d] }
  | _ => none }
def PlaneHullsWrongFalsely : Prop := planeHullsRow.holds Try.pinned (OpenSpec.ofChange planeHullsWrong)

/-- 'silversidelaw01.PlaneMeets': WHATEVER THE INPUT: true; the input reads as it did. -/
def planeMeetsSpec : ChangeSpec := { name := "planeMeets", fn := fun _ => fun
  | [d1, d2] => { results := [.lit (.bool true)], args := [d1, d2] }
  | _ => none }
def planeMeetsRow : OpenClaim := { program := "ythaklbjcjoolcaa", sum := "f03ebf01bddd853c746cee70d05570e83faaec2f281549c57985ff95bf46fca6", func := "silverside/silversidelaw01.PlaneMeets", spec := "planeMeets", unfollowed := true, recurses := true, plainKeys := false, apart := false }
def PlaneMeetsSaid : Prop := planeMeetsRow.holds Try.pinned (OpenSpec.ofChange planeMeetsSpec)

/-- ITS FALSE NEIGHBOUR: 'it returns false'. Refute it at one input. -/
def planeMeetsWrong : ChangeSpec := { name := "planeMeets", fn := fun _ => fun
  | [d1, d2] => { results := [.lit (.bool false)], args := [d1, d2] }
  | _ => none }
def PlaneMeetsWrongFalsely : Prop := planeMeetsRow.holds Try.pinned (OpenSpec.ofChange planeMeetsWrong)

/-- 'silversidelaw01.PlaneCorners': WHATEVER THE INPUT: true; the input reads as it did. -/
def planeCornersSpec : ChangeSpec := { name := "planeCorners", fn := fun _ => fun
  | [d] => { results := [.lit (.bool true)], args := [d] }
  | _ => none }
def planeCornersRow : OpenClaim := { program := "ythaklbjcjoolcaa", sum := "f03ebf01bddd853c746cee70d05570e83faaec2f281549c57985ff95bf46fca6", func := "silverside/silversidelaw01.PlaneCorners", spec := "planeCorners", unfollowed := true, recurses := true, plainKeys := false, apart := false }
def PlaneCornersSaid : Prop := planeCornersRow.holds Try.pinned (OpenSpec.ofChange planeCornersSpec)

/-- ITS FALSE NEIGHBOUR: 'it returns false'. Refute it at one input. -/
def planeCornersWrong : ChangeSpec := { name := "planeCorners", fn := fun _ => fun
  | [d] => { results := [.lit (.bool false)], args := [d] }
  | _ => none }
def PlaneCornersWrongFalsely : Prop := planeCornersRow.holds Try.pinned (OpenSpec.ofChange planeCornersWrong)

/-- 'silversidelaw01.PlaneSeparates': WHATEVER THE INPUT: true; the input reads as it did. -/
def planeSeparatesSpec : ChangeSpec := { name := "planeSeparates", fn := fun _ => fun
  | [d1, d2] => { results := [.lit (.bool true)], args := [d1, d2] }
  | _ => none }
def planeSeparatesRow : OpenClaim := { program := "ythaklbjcjoolcaa", sum := "f03ebf01bddd853c746cee70d05570e83faaec2f281549c57985ff95bf46fca6", func := "silverside/silversidelaw01.PlaneSeparates", spec := "planeSeparates", unfollowed := true, recurses := true, plainKeys := false, apart := false }
def PlaneSeparatesSaid : Prop := planeSeparatesRow.holds Try.pinned (OpenSpec.ofChange planeSeparatesSpec)

/-- ITS FALSE NEIGHBOUR: 'it returns false'. Refute it at one input. -/
def planeSeparatesWrong : ChangeSpec := { name := "planeSeparates", fn := fun _ => fun
  | [d1, d2] => { results := [.lit (.bool false)], args := [d1, d2] }
  | _ => none }
def PlaneSeparatesWrongFalsely : Prop := planeSeparatesRow.holds Try.pinned (OpenSpec.ofChange planeSeparatesWrong)

/-- 'silversidelaw01.PlaneChecks': WHATEVER THE INPUT: true; the input reads as it did. -/
def planeChecksSpec : ChangeSpec := { name := "planeChecks", fn := fun _ => fun
  | [d1, d2, d3] => { results := [.lit (.bool true)], args := [d1, d2, d3] }
  | _ => none }
def planeChecksRow : OpenClaim := { program := "ythaklbjcjoolcaa", sum := "f03ebf01bddd853c746cee70d05570e83faaec2f281549c57985ff95bf46fca6", func := "silverside/silversidelaw01.PlaneChecks", spec := "planeChecks", unfollowed := true, recurses := true, plainKeys := false, apart := false }
def PlaneChecksSaid : Prop := planeChecksRow.holds Try.pinned (OpenSpec.ofChange planeChecksSpec)

/-- ITS FALSE NEIGHBOUR: 'it returns false'. Refute it at one input. -/
def planeChecksWrong : ChangeSpec := { name := "planeChecks", fn := fun _ => fun
  | [d1, d2, d3] => { results := [.lit (.bool false)], args := [d1, d2, d3] }
  | _ => none }
def PlaneChecksWrongFalsely : Prop := planeChecksRow.holds Try.pinned (OpenSpec.ofChange planeChecksWrong)

/-- 'silversidelaw01.PlaneWidest': WHATEVER THE INPUT: true; the input reads as it did. -/
def planeWidestSpec : ChangeSpec := { name := "planeWidest", fn := fun _ => fun
  | [d] => { results := [.lit (.bool true)], args := [d] }
  | _ => none }
def planeWidestRow : OpenClaim := { program := "ythaklbjcjoolcaa", sum := "f03ebf01bddd853c746cee70d05570e83faaec2f281549c57985ff95bf46fca6", func := "silverside/silversidelaw01.PlaneWidest", spec := "planeWidest", unfollowed := true, recurses := true, plainKeys := false, apart := false }
def PlaneWidestSaid : Prop := planeWidestRow.holds Try.pinned (OpenSpec.ofChange planeWidestSpec)

/-- ITS FALSE NEIGHBOUR: 'it returns false'. Refute it at one input. -/
def planeWidestWrong : ChangeSpec := { name := "planeWidest", fn := fun _ => fun
  | [d] => { results := [.lit (.bool false)], args := [d] }
  | _ => none }
def PlaneWidestWrongFalsely : Prop := planeWidestRow.holds Try.pinned (OpenSpec.ofChange planeWidestWrong)

/-- 'silversidelaw01.PlaneOnce': WHATEVER THE INPUT: true; the input reads as it did. -/
def planeOnceSpec : ChangeSpec := { name := "planeOnce", fn := fun _ => fun
  | [d1, d2, d3] => { results := [.lit (.bool true)], args := [d1, d2, d3] }
  | _ => none }
def planeOnceRow : OpenClaim := { program := "ythaklbjcjoolcaa", sum := "f03ebf01bddd853c746cee70d05570e83faaec2f281549c57985ff95bf46fca6", func := "silverside/silversidelaw01.PlaneOnce", spec := "planeOnce", unfollowed := true, recurses := true, plainKeys := false, apart := false }
def PlaneOnceSaid : Prop := planeOnceRow.holds Try.pinned (OpenSpec.ofChange planeOnceSpec)

/-- ITS FALSE NEIGHBOUR: 'it returns false'. Refute it at one input. -/
def planeOnceWrong : ChangeSpec := { name := "planeOnce", fn := fun _ => fun
  | [d1, d2, d3] => { results := [.lit (.bool false)], args := [d1, d2, d3] }
  | _ => none }
def PlaneOnceWrongFalsely : Prop := planeOnceRow.holds Try.pinned (OpenSpec.ofChange planeOnceWrong)

/-- 'silversidelaw01.PlaneMoves': WHATEVER THE INPUT: true; the input reads as it did. -/
def planeMovesSpec : ChangeSpec := { name := "planeMoves", fn := fun _ => fun
  | [d1, d2, d3] => { results := [.lit (.bool true)], args := [d1, d2, d3] }
  | _ => none }
def planeMovesRow : OpenClaim := { program := "ythaklbjcjoolcaa", sum := "f03ebf01bddd853c746cee70d05570e83faaec2f281549c57985ff95bf46fca6", func := "silverside/silversidelaw01.PlaneMoves", spec := "planeMoves", unfollowed := true, recurses := true, plainKeys := false, apart := false }
def PlaneMovesSaid : Prop := planeMovesRow.holds Try.pinned (OpenSpec.ofChange planeMovesSpec)

/-- ITS FALSE NEIGHBOUR: 'it returns false'. Refute it at one input. -/
def planeMovesWrong : ChangeSpec := { name := "planeMoves", fn := fun _ => fun
  | [d1, d2, d3] => { results := [.lit (.bool false)], args := [d1, d2, d3] }
  | _ => none }
def PlaneMovesWrongFalsely : Prop := planeMovesRow.holds Try.pinned (OpenSpec.ofChange planeMovesWrong)

/-- 'silversidelaw01.PlaneSpans': WHATEVER THE INPUT: true; the input reads as it did. -/
def planeSpansSpec : ChangeSpec := { name := "planeSpans", fn := fun _ => fun
  | [d] => { results := [.lit (.bool true)], args := [d] }
  | _ => none }
def planeSpansRow : OpenClaim := { program := "ythaklbjcjoolcaa", sum := "f03ebf01bddd853c746cee70d05570e83faaec2f281549c57985ff95bf46fca6", func := "silverside/silversidelaw01.PlaneSpans", spec := "planeSpans", unfollowed := true, recurses := true, plainKeys := false, apart := false }
def PlaneSpansSaid : Prop := planeSpansRow.holds Try.pinned (OpenSpec.ofChange planeSpansSpec)

/-- ITS FALSE NEIGHBOUR: 'it returns false'. Refute it at one input. -/
def planeSpansWrong : ChangeSpec := { name := "planeSpans", fn := fun _ => fun
  | [d] => { results := [.lit (.bool false)], args := [d] }
  | _ => none }
def PlaneSpansWrongFalsely : Prop := planeSpansRow.holds Try.pinned (OpenSpec.ofChange planeSpansWrong)

/-- 'silversidelaw01.PlaneCovers': WHATEVER THE INPUT: true; the input reads as it did. -/
def planeCoversSpec : ChangeSpec := { name := "planeCovers", fn := fun _ => fun
  | [d1, d2] => { results := [.lit (.bool true)], args := [d1, d2] }
  | _ => none }
def planeCoversRow : OpenClaim := { program := "ythaklbjcjoolcaa", sum := "f03ebf01bddd853c746cee70d05570e83faaec2f281549c57985ff95bf46fca6", func := "silverside/silversidelaw01.PlaneCovers", spec := "planeCovers", unfollowed := true, recurses := true, plainKeys := false, apart := false }
def PlaneCoversSaid : Prop := planeCoversRow.holds Try.pinned (OpenSpec.ofChange planeCoversSpec)

/-- ITS FALSE NEIGHBOUR: 'it returns false'. Refute it at one input. -/
def planeCoversWrong : ChangeSpec := { name := "planeCovers", fn := fun _ => fun
  | [d1, d2] => { results := [.lit (.bool false)], args := [d1, d2] }
  | _ => none }
def PlaneCoversWrongFalsely : Prop := planeCoversRow.holds Try.pinned (OpenSpec.ofChange planeCoversWrong)

/-- 'silversidelaw01.PlaneTiles': WHATEVER THE INPUT: true; the input reads as it did. -/
def planeTilesSpec : ChangeSpec := { name := "planeTiles", fn := fun _ => fun
  | [d1, d2] => { results := [.lit (.bool true)], args := [d1, d2] }
  | _ => none }
def planeTilesRow : OpenClaim := { program := "ythaklbjcjoolcaa", sum := "f03ebf01bddd853c746cee70d05570e83faaec2f281549c57985ff95bf46fca6", func := "silverside/silversidelaw01.PlaneTiles", spec := "planeTiles", unfollowed := true, recurses := true, plainKeys := false, apart := false }
def PlaneTilesSaid : Prop := planeTilesRow.holds Try.pinned (OpenSpec.ofChange planeTilesSpec)

/-- ITS FALSE NEIGHBOUR: 'it returns false'. Refute it at one input. -/
def planeTilesWrong : ChangeSpec := { name := "planeTiles", fn := fun _ => fun
  | [d1, d2] => { results := [.lit (.bool false)], args := [d1, d2] }
  | _ => none }
def PlaneTilesWrongFalsely : Prop := planeTilesRow.holds Try.pinned (OpenSpec.ofChange planeTilesWrong)

/-- 'silversidelaw01.PlaneOwn': WHATEVER THE INPUT: true; the input reads as it did. -/
def planeOwnSpec : ChangeSpec := { name := "planeOwn", fn := fun _ => fun
  | [d] => { results := [.lit (.bool true)], args := [d] }
  | _ => none }
def planeOwnRow : OpenClaim := { program := "ythaklbjcjoolcaa", sum := "f03ebf01bddd853c746cee70d05570e83faaec2f281549c57985ff95bf46fca6", func := "silverside/silversidelaw01.PlaneOwn", spec := "planeOwn", unfollowed := true, recurses := true, plainKeys := false, apart := false }
def PlaneOwnSaid : Prop := planeOwnRow.holds Try.pinned (OpenSpec.ofChange planeOwnSpec)

/-- ITS FALSE NEIGHBOUR: 'it returns false'. Refute it at one input. -/
def planeOwnWrong : ChangeSpec := { name := "planeOwn", fn := fun _ => fun
  | [d] => { results := [.lit (.bool false)], args := [d] }
  | _ => none }
def PlaneOwnWrongFalsely : Prop := planeOwnRow.holds Try.pinned (OpenSpec.ofChange planeOwnWrong)

/-- 'silversidelaw01.PlaneTriangles': WHATEVER THE INPUT: true; the input reads as it did. -/
def planeTrianglesSpec : ChangeSpec := { name := "planeTriangles", fn := fun _ => fun
  | [d] => { results := [.lit (.bool true)], args := [d] }
  | _ => none }
def planeTrianglesRow : OpenClaim := { program := "ythaklbjcjoolcaa", sum := "f03ebf01bddd853c746cee70d05570e83faaec2f281549c57985ff95bf46fca6", func := "silverside/silversidelaw01.PlaneTriangles", spec := "planeTriangles", unfollowed := true, recurses := true, plainKeys := false, apart := false }
def PlaneTrianglesSaid : Prop := planeTrianglesRow.holds Try.pinned (OpenSpec.ofChange planeTrianglesSpec)

/-- ITS FALSE NEIGHBOUR: 'it returns false'. Refute it at one input. -/
def planeTrianglesWrong : ChangeSpec := { name := "planeTriangles", fn := fun _ => fun
  | [d] => { results := [.lit (.bool false)], args := [d] }
  | _ => none }
def PlaneTrianglesWrongFalsely : Prop := planeTrianglesRow.holds Try.pinned (OpenSpec.ofChange planeTrianglesWrong)

/- THE SECOND FORM. 'bulk': how many values and letters a reading holds, each counted each time it is reached (what is shared counts as often as it is met; a slice's spare places count too). A statement '..UptoSaid' is the law's where the arguments, and the package variables that the reading takes, are together of bulk at most 1048576: NARROWER than '..Said'. Prove '..Said' where nothing that the law and all that it calls make is longer than what came in: it says more and counts as full. Else prove '..UptoSaid'. A law counts once. -/
mutual
def uptoBulk {H : Type} : DataW H → Nat
  | .lit (.string bytes) => bytes.length + 1
  | .lit _ => 1
  | .nil => 1
  | .ptr d => uptoBulk d + 1
  | .slice elems spare => uptoBulkAll elems + uptoBulkAll spare + 1
  | .agg parts => uptoBulkAll parts + 1
  | .iface _ d => uptoBulk d + 1
  | .map entries => uptoBulkEntries entries + 1
  | .held _ => 1
def uptoBulkAll {H : Type} : List (DataW H) → Nat
  | [] => 0
  | d :: r => uptoBulk d + uptoBulkAll r
def uptoBulkEntries {H : Type} : List (Lit × DataW H) → Nat
  | [] => 0
  | x :: r => uptoBulkEntry x + uptoBulkEntries r
def uptoBulkEntry {H : Type} : Lit × DataW H → Nat
  | (.string bytes, d) => bytes.length + uptoBulk d + 1
  | (_, d) => uptoBulk d + 1
 end
def uptoSmall : (H : Type) → List (DataW H) → Bool := fun _ ds => decide (uptoBulkAll ds ≤ 1048576)
def OpenSpec.upto (s : _root_.Go.ChangeSpec) : _root_.Go.OpenSpec := { _root_.Go.OpenSpec.ofChange s with cond := some uptoSmall }

/-- 'silversidelaw01.PlaneAreas', WHERE WHAT IT READS IS OF BULK AT MOST 1048576: true; the input reads as it did. -/
def planeAreasUptoRow : OpenClaim := { program := "ythaklbjcjoolcaa", sum := "f03ebf01bddd853c746cee70d05570e83faaec2f281549c57985ff95bf46fca6", func := "silverside/silversidelaw01.PlaneAreas", spec := "planeAreas", unfollowed := true, recurses := true, plainKeys := false, apart := false, narrowed := true }
def PlaneAreasUptoSaid : Prop := planeAreasUptoRow.holds Try.pinned (OpenSpec.upto planeAreasSpec)

/-- 'silversidelaw01.PlaneSimple', WHERE WHAT IT READS IS OF BULK AT MOST 1048576: true; the input reads as it did. -/
def planeSimpleUptoRow : OpenClaim := { program := "ythaklbjcjoolcaa", sum := "f03ebf01bddd853c746cee70d05570e83faaec2f281549c57985ff95bf46fca6", func := "silverside/silversidelaw01.PlaneSimple", spec := "planeSimple", unfollowed := true, recurses := true, plainKeys := false, apart := false, narrowed := true }
def PlaneSimpleUptoSaid : Prop := planeSimpleUptoRow.holds Try.pinned (OpenSpec.upto planeSimpleSpec)

/-- 'silversidelaw01.PlaneInside', WHERE WHAT IT READS IS OF BULK AT MOST 1048576: true; the input reads as it did. -/
def planeInsideUptoRow : OpenClaim := { program := "ythaklbjcjoolcaa", sum := "f03ebf01bddd853c746cee70d05570e83faaec2f281549c57985ff95bf46fca6", func := "silverside/silversidelaw01.PlaneInside", spec := "planeInside", unfollowed := true, recurses := true, plainKeys := false, apart := false, narrowed := true }
def PlaneInsideUptoSaid : Prop := planeInsideUptoRow.holds Try.pinned (OpenSpec.upto planeInsideSpec)

/-- 'silversidelaw01.PlaneTurns', WHERE WHAT IT READS IS OF BULK AT MOST 1048576: true; the input reads as it did. -/
def planeTurnsUptoRow : OpenClaim := { program := "ythaklbjcjoolcaa", sum := "f03ebf01bddd853c746cee70d05570e83faaec2f281549c57985ff95bf46fca6", func := "silverside/silversidelaw01.PlaneTurns", spec := "planeTurns", unfollowed := true, recurses := true, plainKeys := false, apart := false, narrowed := true }
def PlaneTurnsUptoSaid : Prop := planeTurnsUptoRow.holds Try.pinned (OpenSpec.upto planeTurnsSpec)

/-- 'silversidelaw01.PlaneHulls', WHERE WHAT IT READS IS OF BULK AT MOST 1048576: true; the input reads as it did. -/
def planeHullsUptoRow : OpenClaim := { program := "ythaklbjcjoolcaa", sum := "f03ebf01bddd853c746cee70d05570e83faaec2f281549c57985ff95bf46fca6", func := "silverside/silversidelaw01.PlaneHulls", spec := "planeHulls", unfollowed := true, recurses := true, plainKeys := false, apart := false, narrowed := true }
def PlaneHullsUptoSaid : Prop := planeHullsUptoRow.holds Try.pinned (OpenSpec.upto planeHullsSpec)

/-- 'silversidelaw01.PlaneMeets', WHERE WHAT IT READS IS OF BULK AT MOST 1048576: true; the input reads as it did. -/
def planeMeetsUptoRow : OpenClaim := { program := "ythaklbjcjoolcaa", sum := "f03ebf01bddd853c746cee70d05570e83faaec2f281549c57985ff95bf46fca6", func := "silverside/silversidelaw01.PlaneMeets", spec := "planeMeets", unfollowed := true, recurses := true, plainKeys := false, apart := false, narrowed := true }
def PlaneMeetsUptoSaid : Prop := planeMeetsUptoRow.holds Try.pinned (OpenSpec.upto planeMeetsSpec)

/-- 'silversidelaw01.PlaneCorners', WHERE WHAT IT READS IS OF BULK AT MOST 1048576: true; the input reads as it did. -/
def planeCornersUptoRow : OpenClaim := { program := "ythaklbjcjoolcaa", sum := "f03ebf01bddd853c746cee70d05570e83faaec2f281549c57985ff95bf46fca6", func := "silverside/silversidelaw01.PlaneCorners", spec := "planeCorners", unfollowed := true, recurses := true, plainKeys := false, apart := false, narrowed := true }
def PlaneCornersUptoSaid : Prop := planeCornersUptoRow.holds Try.pinned (OpenSpec.upto planeCornersSpec)

/-- 'silversidelaw01.PlaneSeparates', WHERE WHAT IT READS IS OF BULK AT MOST 1048576: true; the input reads as it did. -/
def planeSeparatesUptoRow : OpenClaim := { program := "ythaklbjcjoolcaa", sum := "f03ebf01bddd853c746cee70d05570e83faaec2f281549c57985ff95bf46fca6", func := "silverside/silversidelaw01.PlaneSeparates", spec := "planeSeparates", unfollowed := true, recurses := true, plainKeys := false, apart := false, narrowed := true }
def PlaneSeparatesUptoSaid : Prop := planeSeparatesUptoRow.holds Try.pinned (OpenSpec.upto planeSeparatesSpec)

/-- 'silversidelaw01.PlaneChecks', WHERE WHAT IT READS IS OF BULK AT MOST 1048576: true; the input reads as it did. -/
def planeChecksUptoRow : OpenClaim := { program := "ythaklbjcjoolcaa", sum := "f03ebf01bddd853c746cee70d05570e83faaec2f281549c57985ff95bf46fca6", func := "silverside/silversidelaw01.PlaneChecks", spec := "planeChecks", unfollowed := true, recurses := true, plainKeys := false, apart := false, narrowed := true }
def PlaneChecksUptoSaid : Prop := planeChecksUptoRow.holds Try.pinned (OpenSpec.upto planeChecksSpec)

/-- 'silversidelaw01.PlaneWidest', WHERE WHAT IT READS IS OF BULK AT MOST 1048576: true; the input reads as it did. -/
def planeWidestUptoRow : OpenClaim := { program := "ythaklbjcjoolcaa", sum := "f03ebf01bddd853c746cee70d05570e83faaec2f281549c57985ff95bf46fca6", func := "silverside/silversidelaw01.PlaneWidest", spec := "planeWidest", unfollowed := true, recurses := true, plainKeys := false, apart := false, narrowed := true }
def PlaneWidestUptoSaid : Prop := planeWidestUptoRow.holds Try.pinned (OpenSpec.upto planeWidestSpec)

/-- 'silversidelaw01.PlaneOnce', WHERE WHAT IT READS IS OF BULK AT MOST 1048576: true; the input reads as it did. -/
def planeOnceUptoRow : OpenClaim := { program := "ythaklbjcjoolcaa", sum := "f03ebf01bddd853c746cee70d05570e83faaec2f281549c57985ff95bf46fca6", func := "silverside/silversidelaw01.PlaneOnce", spec := "planeOnce", unfollowed := true, recurses := true, plainKeys := false, apart := false, narrowed := true }
def PlaneOnceUptoSaid : Prop := planeOnceUptoRow.holds Try.pinned (OpenSpec.upto planeOnceSpec)

/-- 'silversidelaw01.PlaneMoves', WHERE WHAT IT READS IS OF BULK AT MOST 1048576: true; the input reads as it did. -/
def planeMovesUptoRow : OpenClaim := { program := "ythaklbjcjoolcaa", sum := "f03ebf01bddd853c746cee70d05570e83faaec2f281549c57985ff95bf46fca6", func := "silverside/silversidelaw01.PlaneMoves", spec := "planeMoves", unfollowed := true, recurses := true, plainKeys := false, apart := false, narrowed := true }
def PlaneMovesUptoSaid : Prop := planeMovesUptoRow.holds Try.pinned (OpenSpec.upto planeMovesSpec)

/-- 'silversidelaw01.PlaneSpans', WHERE WHAT IT READS IS OF BULK AT MOST 1048576: true; the input reads as it did. -/
def planeSpansUptoRow : OpenClaim := { program := "ythaklbjcjoolcaa", sum := "f03ebf01bddd853c746cee70d05570e83faaec2f281549c57985ff95bf46fca6", func := "silverside/silversidelaw01.PlaneSpans", spec := "planeSpans", unfollowed := true, recurses := true, plainKeys := false, apart := false, narrowed := true }
def PlaneSpansUptoSaid : Prop := planeSpansUptoRow.holds Try.pinned (OpenSpec.upto planeSpansSpec)

/-- 'silversidelaw01.PlaneCovers', WHERE WHAT IT READS IS OF BULK AT MOST 1048576: true; the input reads as it did. -/
def planeCoversUptoRow : OpenClaim := { program := "ythaklbjcjoolcaa", sum := "f03ebf01bddd853c746cee70d05570e83faaec2f281549c57985ff95bf46fca6", func := "silverside/silversidelaw01.PlaneCovers", spec := "planeCovers", unfollowed := true, recurses := true, plainKeys := false, apart := false, narrowed := true }
def PlaneCoversUptoSaid : Prop := planeCoversUptoRow.holds Try.pinned (OpenSpec.upto planeCoversSpec)

/-- 'silversidelaw01.PlaneTiles', WHERE WHAT IT READS IS OF BULK AT MOST 1048576: true; the input reads as it did. -/
def planeTilesUptoRow : OpenClaim := { program := "ythaklbjcjoolcaa", sum := "f03ebf01bddd853c746cee70d05570e83faaec2f281549c57985ff95bf46fca6", func := "silverside/silversidelaw01.PlaneTiles", spec := "planeTiles", unfollowed := true, recurses := true, plainKeys := false, apart := false, narrowed := true }
def PlaneTilesUptoSaid : Prop := planeTilesUptoRow.holds Try.pinned (OpenSpec.upto planeTilesSpec)

/-- 'silversidelaw01.PlaneOwn', WHERE WHAT IT READS IS OF BULK AT MOST 1048576: true; the input reads as it did. -/
def planeOwnUptoRow : OpenClaim := { program := "ythaklbjcjoolcaa", sum := "f03ebf01bddd853c746cee70d05570e83faaec2f281549c57985ff95bf46fca6", func := "silverside/silversidelaw01.PlaneOwn", spec := "planeOwn", unfollowed := true, recurses := true, plainKeys := false, apart := false, narrowed := true }
def PlaneOwnUptoSaid : Prop := planeOwnUptoRow.holds Try.pinned (OpenSpec.upto planeOwnSpec)

/-- 'silversidelaw01.PlaneTriangles', WHERE WHAT IT READS IS OF BULK AT MOST 1048576: true; the input reads as it did. -/
def planeTrianglesUptoRow : OpenClaim := { program := "ythaklbjcjoolcaa", sum := "f03ebf01bddd853c746cee70d05570e83faaec2f281549c57985ff95bf46fca6", func := "silverside/silversidelaw01.PlaneTriangles", spec := "planeTriangles", unfollowed := true, recurses := true, plainKeys := false, apart := false, narrowed := true }
def PlaneTrianglesUptoSaid : Prop := planeTrianglesUptoRow.holds Try.pinned (OpenSpec.upto planeTrianglesSpec)

end Rows
end Go.Proofs.Ythaklbjcjoolcaa
