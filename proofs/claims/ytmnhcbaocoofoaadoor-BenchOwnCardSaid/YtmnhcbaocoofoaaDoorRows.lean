/-
  NARROWER THAN 'FOR EVERY INPUT', by the rows' own cells (each row's printed sentence says how): BenchFewest: laid · BenchLatest: laid · BenchMore: laid · BenchTimes: laid · BenchEnough: laid · BenchOwn: laid · BenchPlans: laid · BenchChecks: laid · BenchOnce: laid · BenchTurns: laid.
  DERIVED. THE GIVEN ROWS OF THIS SEAT. 10 by the template 'for every input the law returns true; each argument reads behind the call as it read before'; 0 by the template 'total and deterministic' (their statements: YtmnhcbaocoofoaaDoorTotals.lean).
  GIVEN WITH THE SEED: the statements are not yours to turn. If you find one false, say at which input.
  Laid BY PROGRAM, IN A SANDBOX (cutbox-rows.mjs): the forced cells as the released guide's own fill.sh prints them over the translation 920f5c000d1e77f1… (all of the seat's roots in one cut). By AI agents, Wed Nov 11 2026. No macro, syntax, notation, axiom, sorry.
-/
import Derived.Test.YtmnhcbaocoofoaaDoorChecked
import GoSem.Claim
import GoSem.ClaimJoined
import GoSem.ClaimMapViews
import Derived.JoinedTies
import Derived.KernelRfl
namespace Go.Proofs.YtmnhcbaocoofoaaDoor
/- THE CELL 'sum', in the pinned program and in every row, IS THE sha256 OF THE DUMP (.gsa) THAT YtmnhcbaocoofoaaDoorProg.lean LOADS. Nothing in Lean hashes anything: it is a label: what it is worth is what the hold of that sum in a sandbox is worth. -/
noncomputable def Tryd.pinned : Pinned := { name := "ytmnhcbaocoofoaadoor", sum := "920f5c000d1e77f15dfa4922a0a2d24594c12e5575fe710cd1a63cfacfbbc229", checked := Tryd.checked }
namespace Rows
def none {H : Type} : Left H := { results := [], args := [] }

/- WHAT THE LISTED PACKAGE-LEVEL VARIABLES READ AS WHEN THE CALL BEGINS. Each datum BY PROGRAM (the guide's laid-datum.mjs) off the statement by which the dump's own 'gosem.cut.vars' lays the variable. In a bare row this is a premise. The card (YtmnhcbaocoofoaaDoorCards.lean) ties it to the program's text. -/
def laid_silverside_bench_none {H : Type} : DataW H := .agg [.lit (.int .i64 (-1)), .lit (.int .i64 (-1))]

/-- 'silversidelaw04.BenchFewest': WHATEVER THE INPUT: true; the input reads as it did. -/
def benchFewestSpec : ChangeSpec := { name := "benchFewest", fn := fun _ => fun
  | [d] => { results := [.lit (.bool true)], args := [d] }
  | _ => none }
def benchFewestRow : OpenClaim := { program := "ytmnhcbaocoofoaadoor", sum := "920f5c000d1e77f15dfa4922a0a2d24594c12e5575fe710cd1a63cfacfbbc229", func := "silverside/silversidelaw04.BenchFewest", spec := "benchFewest", unfollowed := true, recurses := true, named := ["silverside/bench.none"], plainKeys := false, apart := false, laid := [("silverside/bench.none", laid_silverside_bench_none)] }
def BenchFewestSaid : Prop := benchFewestRow.holds Tryd.pinned (OpenSpec.ofChange benchFewestSpec)

/-- ITS FALSE NEIGHBOUR: 'it returns false'. Refute it at one input. -/
def benchFewestWrong : ChangeSpec := { name := "benchFewest", fn := fun _ => fun
  | [d] => { results := [.lit (.bool false)], args := [d] }
  | _ => none }
def BenchFewestWrongFalsely : Prop := benchFewestRow.holds Tryd.pinned (OpenSpec.ofChange benchFewestWrong)

/-- 'silversidelaw04.BenchLatest': WHATEVER THE INPUT: true; the input reads as it did. -/
def benchLatestSpec : ChangeSpec := { name := "benchLatest", fn := fun _ => fun
  | [d1, d2] => { results := [.lit (.bool true)], args := [d1, d2] }
  | _ => none }
def benchLatestRow : OpenClaim := { program := "ytmnhcbaocoofoaadoor", sum := "920f5c000d1e77f15dfa4922a0a2d24594c12e5575fe710cd1a63cfacfbbc229", func := "silverside/silversidelaw04.BenchLatest", spec := "benchLatest", unfollowed := true, recurses := true, named := ["silverside/bench.none"], plainKeys := false, apart := false, laid := [("silverside/bench.none", laid_silverside_bench_none)] }
def BenchLatestSaid : Prop := benchLatestRow.holds Tryd.pinned (OpenSpec.ofChange benchLatestSpec)

/-- ITS FALSE NEIGHBOUR: 'it returns false'. Refute it at one input. -/
def benchLatestWrong : ChangeSpec := { name := "benchLatest", fn := fun _ => fun
  | [d1, d2] => { results := [.lit (.bool false)], args := [d1, d2] }
  | _ => none }
def BenchLatestWrongFalsely : Prop := benchLatestRow.holds Tryd.pinned (OpenSpec.ofChange benchLatestWrong)

/-- 'silversidelaw04.BenchMore': WHATEVER THE INPUT: true; the input reads as it did. -/
def benchMoreSpec : ChangeSpec := { name := "benchMore", fn := fun _ => fun
  | [d1, d2, d3] => { results := [.lit (.bool true)], args := [d1, d2, d3] }
  | _ => none }
def benchMoreRow : OpenClaim := { program := "ytmnhcbaocoofoaadoor", sum := "920f5c000d1e77f15dfa4922a0a2d24594c12e5575fe710cd1a63cfacfbbc229", func := "silverside/silversidelaw04.BenchMore", spec := "benchMore", unfollowed := true, recurses := true, named := ["silverside/bench.none"], plainKeys := false, apart := false, laid := [("silverside/bench.none", laid_silverside_bench_none)] }
def BenchMoreSaid : Prop := benchMoreRow.holds Tryd.pinned (OpenSpec.ofChange benchMoreSpec)

/-- ITS FALSE NEIGHBOUR: 'it returns false'. Refute it at one input. -/
def benchMoreWrong : ChangeSpec := { name := "benchMore", fn := fun _ => fun
  | [d1, d2, d3] => { results := [.lit (.bool false)], args := [d1, d2, d3] }
  | _ => none }
def BenchMoreWrongFalsely : Prop := benchMoreRow.holds Tryd.pinned (OpenSpec.ofChange benchMoreWrong)

/-- 'silversidelaw04.BenchTimes': WHATEVER THE INPUT: true; the input reads as it did. -/
def benchTimesSpec : ChangeSpec := { name := "benchTimes", fn := fun _ => fun
  | [d1, d2, d3] => { results := [.lit (.bool true)], args := [d1, d2, d3] }
  | _ => none }
def benchTimesRow : OpenClaim := { program := "ytmnhcbaocoofoaadoor", sum := "920f5c000d1e77f15dfa4922a0a2d24594c12e5575fe710cd1a63cfacfbbc229", func := "silverside/silversidelaw04.BenchTimes", spec := "benchTimes", unfollowed := true, recurses := true, named := ["silverside/bench.none"], plainKeys := false, apart := false, laid := [("silverside/bench.none", laid_silverside_bench_none)] }
def BenchTimesSaid : Prop := benchTimesRow.holds Tryd.pinned (OpenSpec.ofChange benchTimesSpec)

/-- ITS FALSE NEIGHBOUR: 'it returns false'. Refute it at one input. -/
def benchTimesWrong : ChangeSpec := { name := "benchTimes", fn := fun _ => fun
  | [d1, d2, d3] => { results := [.lit (.bool false)], args := [d1, d2, d3] }
  | _ => none }
def BenchTimesWrongFalsely : Prop := benchTimesRow.holds Tryd.pinned (OpenSpec.ofChange benchTimesWrong)

/-- 'silversidelaw04.BenchEnough': WHATEVER THE INPUT: true; the input reads as it did. -/
def benchEnoughSpec : ChangeSpec := { name := "benchEnough", fn := fun _ => fun
  | [d] => { results := [.lit (.bool true)], args := [d] }
  | _ => none }
def benchEnoughRow : OpenClaim := { program := "ytmnhcbaocoofoaadoor", sum := "920f5c000d1e77f15dfa4922a0a2d24594c12e5575fe710cd1a63cfacfbbc229", func := "silverside/silversidelaw04.BenchEnough", spec := "benchEnough", unfollowed := true, recurses := true, named := ["silverside/bench.none"], plainKeys := false, apart := false, laid := [("silverside/bench.none", laid_silverside_bench_none)] }
def BenchEnoughSaid : Prop := benchEnoughRow.holds Tryd.pinned (OpenSpec.ofChange benchEnoughSpec)

/-- ITS FALSE NEIGHBOUR: 'it returns false'. Refute it at one input. -/
def benchEnoughWrong : ChangeSpec := { name := "benchEnough", fn := fun _ => fun
  | [d] => { results := [.lit (.bool false)], args := [d] }
  | _ => none }
def BenchEnoughWrongFalsely : Prop := benchEnoughRow.holds Tryd.pinned (OpenSpec.ofChange benchEnoughWrong)

/-- 'silversidelaw04.BenchOwn': WHATEVER THE INPUT: true; the input reads as it did. -/
def benchOwnSpec : ChangeSpec := { name := "benchOwn", fn := fun _ => fun
  | [d1, d2] => { results := [.lit (.bool true)], args := [d1, d2] }
  | _ => none }
def benchOwnRow : OpenClaim := { program := "ytmnhcbaocoofoaadoor", sum := "920f5c000d1e77f15dfa4922a0a2d24594c12e5575fe710cd1a63cfacfbbc229", func := "silverside/silversidelaw04.BenchOwn", spec := "benchOwn", unfollowed := true, recurses := true, named := ["silverside/bench.none"], plainKeys := false, apart := false, laid := [("silverside/bench.none", laid_silverside_bench_none)] }
def BenchOwnSaid : Prop := benchOwnRow.holds Tryd.pinned (OpenSpec.ofChange benchOwnSpec)

/-- ITS FALSE NEIGHBOUR: 'it returns false'. Refute it at one input. -/
def benchOwnWrong : ChangeSpec := { name := "benchOwn", fn := fun _ => fun
  | [d1, d2] => { results := [.lit (.bool false)], args := [d1, d2] }
  | _ => none }
def BenchOwnWrongFalsely : Prop := benchOwnRow.holds Tryd.pinned (OpenSpec.ofChange benchOwnWrong)

/-- 'silversidelaw04.BenchPlans': WHATEVER THE INPUT: true; the input reads as it did. -/
def benchPlansSpec : ChangeSpec := { name := "benchPlans", fn := fun _ => fun
  | [d1, d2] => { results := [.lit (.bool true)], args := [d1, d2] }
  | _ => none }
def benchPlansRow : OpenClaim := { program := "ytmnhcbaocoofoaadoor", sum := "920f5c000d1e77f15dfa4922a0a2d24594c12e5575fe710cd1a63cfacfbbc229", func := "silverside/silversidelaw04.BenchPlans", spec := "benchPlans", unfollowed := true, recurses := true, named := ["silverside/bench.none"], plainKeys := false, apart := false, laid := [("silverside/bench.none", laid_silverside_bench_none)] }
def BenchPlansSaid : Prop := benchPlansRow.holds Tryd.pinned (OpenSpec.ofChange benchPlansSpec)

/-- ITS FALSE NEIGHBOUR: 'it returns false'. Refute it at one input. -/
def benchPlansWrong : ChangeSpec := { name := "benchPlans", fn := fun _ => fun
  | [d1, d2] => { results := [.lit (.bool false)], args := [d1, d2] }
  | _ => none }
def BenchPlansWrongFalsely : Prop := benchPlansRow.holds Tryd.pinned (OpenSpec.ofChange benchPlansWrong)

/-- 'silversidelaw04.BenchChecks': WHATEVER THE INPUT: true; the input reads as it did. -/
def benchChecksSpec : ChangeSpec := { name := "benchChecks", fn := fun _ => fun
  | [d1, d2, d3] => { results := [.lit (.bool true)], args := [d1, d2, d3] }
  | _ => none }
def benchChecksRow : OpenClaim := { program := "ytmnhcbaocoofoaadoor", sum := "920f5c000d1e77f15dfa4922a0a2d24594c12e5575fe710cd1a63cfacfbbc229", func := "silverside/silversidelaw04.BenchChecks", spec := "benchChecks", unfollowed := true, recurses := true, named := ["silverside/bench.none"], plainKeys := false, apart := false, laid := [("silverside/bench.none", laid_silverside_bench_none)] }
def BenchChecksSaid : Prop := benchChecksRow.holds Tryd.pinned (OpenSpec.ofChange benchChecksSpec)

/-- ITS FALSE NEIGHBOUR: 'it returns false'. Refute it at one input. -/
def benchChecksWrong : ChangeSpec := { name := "benchChecks", fn := fun _ => fun
  | [d1, d2, d3] => { results := [.lit (.bool false)], args := [d1, d2, d3] }
  | _ => none }
def BenchChecksWrongFalsely : Prop := benchChecksRow.holds Tryd.pinned (OpenSpec.ofChange benchChecksWrong)

/-- 'silversidelaw04.BenchOnce': WHATEVER THE INPUT: true; the input reads as it did. -/
def benchOnceSpec : ChangeSpec := { name := "benchOnce", fn := fun _ => fun
  | [d1, d2, d3] => { results := [.lit (.bool true)], args := [d1, d2, d3] }
  | _ => none }
def benchOnceRow : OpenClaim := { program := "ytmnhcbaocoofoaadoor", sum := "920f5c000d1e77f15dfa4922a0a2d24594c12e5575fe710cd1a63cfacfbbc229", func := "silverside/silversidelaw04.BenchOnce", spec := "benchOnce", unfollowed := true, recurses := true, named := ["silverside/bench.none"], plainKeys := false, apart := false, laid := [("silverside/bench.none", laid_silverside_bench_none)] }
def BenchOnceSaid : Prop := benchOnceRow.holds Tryd.pinned (OpenSpec.ofChange benchOnceSpec)

/-- ITS FALSE NEIGHBOUR: 'it returns false'. Refute it at one input. -/
def benchOnceWrong : ChangeSpec := { name := "benchOnce", fn := fun _ => fun
  | [d1, d2, d3] => { results := [.lit (.bool false)], args := [d1, d2, d3] }
  | _ => none }
def BenchOnceWrongFalsely : Prop := benchOnceRow.holds Tryd.pinned (OpenSpec.ofChange benchOnceWrong)

/-- 'silversidelaw04.BenchTurns': WHATEVER THE INPUT: true; the input reads as it did. -/
def benchTurnsSpec : ChangeSpec := { name := "benchTurns", fn := fun _ => fun
  | [d1, d2] => { results := [.lit (.bool true)], args := [d1, d2] }
  | _ => none }
def benchTurnsRow : OpenClaim := { program := "ytmnhcbaocoofoaadoor", sum := "920f5c000d1e77f15dfa4922a0a2d24594c12e5575fe710cd1a63cfacfbbc229", func := "silverside/silversidelaw04.BenchTurns", spec := "benchTurns", unfollowed := true, recurses := true, named := ["silverside/bench.none"], plainKeys := false, apart := false, laid := [("silverside/bench.none", laid_silverside_bench_none)] }
def BenchTurnsSaid : Prop := benchTurnsRow.holds Tryd.pinned (OpenSpec.ofChange benchTurnsSpec)

/-- ITS FALSE NEIGHBOUR: 'it returns false'. Refute it at one input. -/
def benchTurnsWrong : ChangeSpec := { name := "benchTurns", fn := fun _ => fun
  | [d1, d2] => { results := [.lit (.bool false)], args := [d1, d2] }
  | _ => none }
def BenchTurnsWrongFalsely : Prop := benchTurnsRow.holds Tryd.pinned (OpenSpec.ofChange benchTurnsWrong)

/- THE SECOND FORM. 'bulk': how many values and letters a reading holds, each counted each time it is reached (what is shared counts as often as it is met; a slice's spare places count too). A statement '..UptoSaid' is the law's where the arguments, and the package variables that the reading takes, are together of bulk at most 1048576: NARROWER than '..Said'. Prove '..Said' where nothing that the law and all that it calls make is longer than what came in: it says more and counts as full. Else prove '..UptoSaid'. A law counts once. -/
mutual
def uptoBulk {H : Type} : DataW H → Nat
  | .lit (.string bytes) => bytes.length + 1
  | .lit _ => 1
  | .nil => 1
  | .ptr d => uptoBulk d + 1
  | .slice elems spare => uptoBulkAll elems + uptoBulkAll spare + 1
  | .agg parts => uptoBulkAll parts + 1
  | .iface _ d => uptoBulk d + 1
  | .map entries => uptoBulkEntries entries + 1
  | .held _ => 1
def uptoBulkAll {H : Type} : List (DataW H) → Nat
  | [] => 0
  | d :: r => uptoBulk d + uptoBulkAll r
def uptoBulkEntries {H : Type} : List (Lit × DataW H) → Nat
  | [] => 0
  | x :: r => uptoBulkEntry x + uptoBulkEntries r
def uptoBulkEntry {H : Type} : Lit × DataW H → Nat
  | (.string bytes, d) => bytes.length + uptoBulk d + 1
  | (_, d) => uptoBulk d + 1
 end
def uptoSmall : (H : Type) → List (DataW H) → Bool := fun _ ds => decide (uptoBulkAll ds ≤ 1048576)
def OpenSpec.upto (s : _root_.Go.ChangeSpec) : _root_.Go.OpenSpec := { _root_.Go.OpenSpec.ofChange s with cond := some uptoSmall }

/-- 'silversidelaw04.BenchFewest', WHERE WHAT IT READS IS OF BULK AT MOST 1048576: true; the input reads as it did. -/
def benchFewestUptoRow : OpenClaim := { program := "ytmnhcbaocoofoaadoor", sum := "920f5c000d1e77f15dfa4922a0a2d24594c12e5575fe710cd1a63cfacfbbc229", func := "silverside/silversidelaw04.BenchFewest", spec := "benchFewest", unfollowed := true, recurses := true, named := ["silverside/bench.none"], plainKeys := false, apart := false, laid := [("silverside/bench.none", laid_silverside_bench_none)], narrowed := true }
def BenchFewestUptoSaid : Prop := benchFewestUptoRow.holds Tryd.pinned (OpenSpec.upto benchFewestSpec)

/-- 'silversidelaw04.BenchLatest', WHERE WHAT IT READS IS OF BULK AT MOST 1048576: true; the input reads as it did. -/
def benchLatestUptoRow : OpenClaim := { program := "ytmnhcbaocoofoaadoor", sum := "920f5c000d1e77f15dfa4922a0a2d24594c12e5575fe710cd1a63cfacfbbc229", func := "silverside/silversidelaw04.BenchLatest", spec := "benchLatest", unfollowed := true, recurses := true, named := ["silverside/bench.none"], plainKeys := false, apart := false, laid := [("silverside/bench.none", laid_silverside_bench_none)], narrowed := true }
def BenchLatestUptoSaid : Prop := benchLatestUptoRow.holds Tryd.pinned (OpenSpec.upto benchLatestSpec)

/-- 'silversidelaw04.BenchMore', WHERE WHAT IT READS IS OF BULK AT MOST 1048576: true; the input reads as it did. -/
def benchMoreUptoRow : OpenClaim := { program := "ytmnhcbaocoofoaadoor", sum := "920f5c000d1e77f15dfa4922a0a2d24594c12e5575fe710cd1a63cfacfbbc229", func := "silverside/silversidelaw04.BenchMore", spec := "benchMore", unfollowed := true, recurses := true, named := ["silverside/bench.none"], plainKeys := false, apart := false, laid := [("silverside/bench.none", laid_silverside_bench_none)], narrowed := true }
def BenchMoreUptoSaid : Prop := benchMoreUptoRow.holds Tryd.pinned (OpenSpec.upto benchMoreSpec)

/-- 'silversidelaw04.BenchTimes', WHERE WHAT IT READS IS OF BULK AT MOST 1048576: true; the input reads as it did. -/
def benchTimesUptoRow : OpenClaim := { program := "ytmnhcbaocoofoaadoor", sum := "920f5c000d1e77f15dfa4922a0a2d24594c12e5575fe710cd1a63cfacfbbc229", func := "silverside/silversidelaw04.BenchTimes", spec := "benchTimes", unfollowed := true, recurses := true, named := ["silverside/bench.none"], plainKeys := false, apart := false, laid := [("silverside/bench.none", laid_silverside_bench_none)], narrowed := true }
def BenchTimesUptoSaid : Prop := benchTimesUptoRow.holds Tryd.pinned (OpenSpec.upto benchTimesSpec)

/-- 'silversidelaw04.BenchEnough', WHERE WHAT IT READS IS OF BULK AT MOST 1048576: true; the input reads as it did. -/
def benchEnoughUptoRow : OpenClaim := { program := "ytmnhcbaocoofoaadoor", sum := "920f5c000d1e77f15dfa4922a0a2d24594c12e5575fe710cd1a63cfacfbbc229", func := "silverside/silversidelaw04.BenchEnough", spec := "benchEnough", unfollowed := true, recurses := true, named := ["silverside/bench.none"], plainKeys := false, apart := false, laid := [("silverside/bench.none", laid_silverside_bench_none)], narrowed := true }
def BenchEnoughUptoSaid : Prop := benchEnoughUptoRow.holds Tryd.pinned (OpenSpec.upto benchEnoughSpec)

/-- 'silversidelaw04.BenchOwn', WHERE WHAT IT READS IS OF BULK AT MOST 1048576: true; the input reads as it did. -/
def benchOwnUptoRow : OpenClaim := { program := "ytmnhcbaocoofoaadoor", sum := "920f5c000d1e77f15dfa4922a0a2d24594c12e5575fe710cd1a63cfacfbbc229", func := "silverside/silversidelaw04.BenchOwn", spec := "benchOwn", unfollowed := true, recurses := true, named := ["silverside/bench.none"], plainKeys := false, apart := false, laid := [("silverside/bench.none", laid_silverside_bench_none)], narrowed := true }
def BenchOwnUptoSaid : Prop := benchOwnUptoRow.holds Tryd.pinned (OpenSpec.upto benchOwnSpec)

/-- 'silversidelaw04.BenchPlans', WHERE WHAT IT READS IS OF BULK AT MOST 1048576: true; the input reads as it did. -/
def benchPlansUptoRow : OpenClaim := { program := "ytmnhcbaocoofoaadoor", sum := "920f5c000d1e77f15dfa4922a0a2d24594c12e5575fe710cd1a63cfacfbbc229", func := "silverside/silversidelaw04.BenchPlans", spec := "benchPlans", unfollowed := true, recurses := true, named := ["silverside/bench.none"], plainKeys := false, apart := false, laid := [("silverside/bench.none", laid_silverside_bench_none)], narrowed := true }
def BenchPlansUptoSaid : Prop := benchPlansUptoRow.holds Tryd.pinned (OpenSpec.upto benchPlansSpec)

/-- 'silversidelaw04.BenchChecks', WHERE WHAT IT READS IS OF BULK AT MOST 1048576: true; the input reads as it did. -/
def benchChecksUptoRow : OpenClaim := { program := "ytmnhcbaocoofoaadoor", sum := "920f5c000d1e77f15dfa4922a0a2d24594c12e5575fe710cd1a63cfacfbbc229", func := "silverside/silversidelaw04.BenchChecks", spec := "benchChecks", unfollowed := true, recurses := true, named := ["silverside/bench.none"], plainKeys := false, apart := false, laid := [("silverside/bench.none", laid_silverside_bench_none)], narrowed := true }
def BenchChecksUptoSaid : Prop := benchChecksUptoRow.holds Tryd.pinned (OpenSpec.upto benchChecksSpec)

/-- 'silversidelaw04.BenchOnce', WHERE WHAT IT READS IS OF BULK AT MOST 1048576: true; the input reads as it did. -/
def benchOnceUptoRow : OpenClaim := { program := "ytmnhcbaocoofoaadoor", sum := "920f5c000d1e77f15dfa4922a0a2d24594c12e5575fe710cd1a63cfacfbbc229", func := "silverside/silversidelaw04.BenchOnce", spec := "benchOnce", unfollowed := true, recurses := true, named := ["silverside/bench.none"], plainKeys := false, apart := false, laid := [("silverside/bench.none", laid_silverside_bench_none)], narrowed := true }
def BenchOnceUptoSaid : Prop := benchOnceUptoRow.holds Tryd.pinned (OpenSpec.upto benchOnceSpec)

/-- 'silversidelaw04.BenchTurns', WHERE WHAT IT READS IS OF BULK AT MOST 1048576: true; the input reads as it did. -/
def benchTurnsUptoRow : OpenClaim := { program := "ytmnhcbaocoofoaadoor", sum := "920f5c000d1e77f15dfa4922a0a2d24594c12e5575fe710cd1a63cfacfbbc229", func := "silverside/silversidelaw04.BenchTurns", spec := "benchTurns", unfollowed := true, recurses := true, named := ["silverside/bench.none"], plainKeys := false, apart := false, laid := [("silverside/bench.none", laid_silverside_bench_none)], narrowed := true }
def BenchTurnsUptoSaid : Prop := benchTurnsUptoRow.holds Tryd.pinned (OpenSpec.upto benchTurnsSpec)

end Rows
end Go.Proofs.YtmnhcbaocoofoaaDoor
