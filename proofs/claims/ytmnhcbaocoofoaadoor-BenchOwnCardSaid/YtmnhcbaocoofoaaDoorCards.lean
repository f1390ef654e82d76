/-
  DERIVED. GIVEN WITH THE SEED: THE CARDS: each row of YtmnhcbaocoofoaaDoorRows.lean that lists a variable, with what it lists TIED to the program's text (the seventh form; the later family's looks); each row that meets fmt, with fmt's text TOLD by the authors' own Lean function (tested against real Go, not proved from fmt's source: count such statements apart). THE CARD IS WHAT COUNTS. Prove the row's statement (the work); the ties are given (YtmnhcbaocoofoaaDoorTie.lean); close each card by the builder's one call (the guide's Derived/Test/ToyasCard.lean, 'card_holds'). Laid BY PROGRAM, IN A SANDBOX (cutbox-door.mjs). By AI agents, Wed Nov 11 2026. No macro, syntax, notation, axiom, sorry.
-/
import Derived.Test.YtmnhcbaocoofoaaDoorRows
import GoSem.ClaimSeven
namespace Go.Proofs.YtmnhcbaocoofoaaDoor
namespace Rows

/-- THE TIED CARD OF 'silversidelaw04.BenchFewest'. -/
def benchFewestCard : Claim7 := { stood := { row := benchFewestRow, standIns := [], harness := (true, "4efbe64ce4bbdfceb425931beb343a5a82de5ce7e6d6afa96d84e3d3e6d59a99"), looks := false }, kinds := [], alts := [], laidByText := true, laidKinds := [.data], laidTests := true, laidLooks := .later }
def BenchFewestCardSaid : Prop := Claim7.holds Tryd.pinned (.plain (OpenSpec.ofChange benchFewestSpec)) benchFewestCard

/-- THE TIED CARD OF 'silversidelaw04.BenchLatest'. -/
def benchLatestCard : Claim7 := { stood := { row := benchLatestRow, standIns := [], harness := (true, "4efbe64ce4bbdfceb425931beb343a5a82de5ce7e6d6afa96d84e3d3e6d59a99"), looks := false }, kinds := [], alts := [], laidByText := true, laidKinds := [.data], laidTests := true, laidLooks := .later }
def BenchLatestCardSaid : Prop := Claim7.holds Tryd.pinned (.plain (OpenSpec.ofChange benchLatestSpec)) benchLatestCard

/-- THE TIED CARD OF 'silversidelaw04.BenchMore'. -/
def benchMoreCard : Claim7 := { stood := { row := benchMoreRow, standIns := [], harness := (true, "4efbe64ce4bbdfceb425931beb343a5a82de5ce7e6d6afa96d84e3d3e6d59a99"), looks := false }, kinds := [], alts := [], laidByText := true, laidKinds := [.data], laidTests := true, laidLooks := .later }
def BenchMoreCardSaid : Prop := Claim7.holds Tryd.pinned (.plain (OpenSpec.ofChange benchMoreSpec)) benchMoreCard

/-- THE TIED CARD OF 'silversidelaw04.BenchTimes'. -/
def benchTimesCard : Claim7 := { stood := { row := benchTimesRow, standIns := [], harness := (true, "4efbe64ce4bbdfceb425931beb343a5a82de5ce7e6d6afa96d84e3d3e6d59a99"), looks := false }, kinds := [], alts := [], laidByText := true, laidKinds := [.data], laidTests := true, laidLooks := .later }
def BenchTimesCardSaid : Prop := Claim7.holds Tryd.pinned (.plain (OpenSpec.ofChange benchTimesSpec)) benchTimesCard

/-- THE TIED CARD OF 'silversidelaw04.BenchEnough'. -/
def benchEnoughCard : Claim7 := { stood := { row := benchEnoughRow, standIns := [], harness := (true, "4efbe64ce4bbdfceb425931beb343a5a82de5ce7e6d6afa96d84e3d3e6d59a99"), looks := false }, kinds := [], alts := [], laidByText := true, laidKinds := [.data], laidTests := true, laidLooks := .later }
def BenchEnoughCardSaid : Prop := Claim7.holds Tryd.pinned (.plain (OpenSpec.ofChange benchEnoughSpec)) benchEnoughCard

/-- THE TIED CARD OF 'silversidelaw04.BenchOwn'. -/
def benchOwnCard : Claim7 := { stood := { row := benchOwnRow, standIns := [], harness := (true, "4efbe64ce4bbdfceb425931beb343a5a82de5ce7e6d6afa96d84e3d3e6d59a99"), looks := false }, kinds := [], alts := [], laidByText := true, laidKinds := [.data], laidTests := true, laidLooks := .later }
def BenchOwnCardSaid : Prop := Claim7.holds Tryd.pinned (.plain (OpenSpec.ofChange benchOwnSpec)) benchOwnCard

/-- THE TIED CARD OF 'silversidelaw04.BenchPlans'. -/
def benchPlansCard : Claim7 := { stood := { row := benchPlansRow, standIns := [], harness := (true, "4efbe64ce4bbdfceb425931beb343a5a82de5ce7e6d6afa96d84e3d3e6d59a99"), looks := false }, kinds := [], alts := [], laidByText := true, laidKinds := [.data], laidTests := true, laidLooks := .later }
def BenchPlansCardSaid : Prop := Claim7.holds Tryd.pinned (.plain (OpenSpec.ofChange benchPlansSpec)) benchPlansCard

/-- THE TIED CARD OF 'silversidelaw04.BenchChecks'. -/
def benchChecksCard : Claim7 := { stood := { row := benchChecksRow, standIns := [], harness := (true, "4efbe64ce4bbdfceb425931beb343a5a82de5ce7e6d6afa96d84e3d3e6d59a99"), looks := false }, kinds := [], alts := [], laidByText := true, laidKinds := [.data], laidTests := true, laidLooks := .later }
def BenchChecksCardSaid : Prop := Claim7.holds Tryd.pinned (.plain (OpenSpec.ofChange benchChecksSpec)) benchChecksCard

/-- THE TIED CARD OF 'silversidelaw04.BenchOnce'. -/
def benchOnceCard : Claim7 := { stood := { row := benchOnceRow, standIns := [], harness := (true, "4efbe64ce4bbdfceb425931beb343a5a82de5ce7e6d6afa96d84e3d3e6d59a99"), looks := false }, kinds := [], alts := [], laidByText := true, laidKinds := [.data], laidTests := true, laidLooks := .later }
def BenchOnceCardSaid : Prop := Claim7.holds Tryd.pinned (.plain (OpenSpec.ofChange benchOnceSpec)) benchOnceCard

/-- THE TIED CARD OF 'silversidelaw04.BenchTurns'. -/
def benchTurnsCard : Claim7 := { stood := { row := benchTurnsRow, standIns := [], harness := (true, "4efbe64ce4bbdfceb425931beb343a5a82de5ce7e6d6afa96d84e3d3e6d59a99"), looks := false }, kinds := [], alts := [], laidByText := true, laidKinds := [.data], laidTests := true, laidLooks := .later }
def BenchTurnsCardSaid : Prop := Claim7.holds Tryd.pinned (.plain (OpenSpec.ofChange benchTurnsSpec)) benchTurnsCard

/-- THE SECOND FORM's CARD OF 'silversidelaw04.BenchFewest'. -/
def benchFewestUptoCard : Claim7 := { stood := { row := benchFewestUptoRow, standIns := [], harness := (true, "4efbe64ce4bbdfceb425931beb343a5a82de5ce7e6d6afa96d84e3d3e6d59a99"), looks := false }, kinds := [], alts := [], laidByText := true, laidKinds := [.data], laidTests := true, laidLooks := .later }
def BenchFewestUptoCardSaid : Prop := Claim7.holds Tryd.pinned (.plain (OpenSpec.upto benchFewestSpec)) benchFewestUptoCard

/-- THE SECOND FORM's CARD OF 'silversidelaw04.BenchLatest'. -/
def benchLatestUptoCard : Claim7 := { stood := { row := benchLatestUptoRow, standIns := [], harness := (true, "4efbe64ce4bbdfceb425931beb343a5a82de5ce7e6d6afa96d84e3d3e6d59a99"), looks := false }, kinds := [], alts := [], laidByText := true, laidKinds := [.data], laidTests := true, laidLooks := .later }
def BenchLatestUptoCardSaid : Prop := Claim7.holds Tryd.pinned (.plain (OpenSpec.upto benchLatestSpec)) benchLatestUptoCard

/-- THE SECOND FORM's CARD OF 'silversidelaw04.BenchMore'. -/
def benchMoreUptoCard : Claim7 := { stood := { row := benchMoreUptoRow, standIns := [], harness := (true, "4efbe64ce4bbdfceb425931beb343a5a82de5ce7e6d6afa96d84e3d3e6d59a99"), looks := false }, kinds := [], alts := [], laidByText := true, laidKinds := [.data], laidTests := true, laidLooks := .later }
def BenchMoreUptoCardSaid : Prop := Claim7.holds Tryd.pinned (.plain (OpenSpec.upto benchMoreSpec)) benchMoreUptoCard

/-- THE SECOND FORM's CARD OF 'silversidelaw04.BenchTimes'. -/
def benchTimesUptoCard : Claim7 := { stood := { row := benchTimesUptoRow, standIns := [], harness := (true, "4efbe64ce4bbdfceb425931beb343a5a82de5ce7e6d6afa96d84e3d3e6d59a99"), looks := false }, kinds := [], alts := [], laidByText := true, laidKinds := [.data], laidTests := true, laidLooks := .later }
def BenchTimesUptoCardSaid : Prop := Claim7.holds Tryd.pinned (.plain (OpenSpec.upto benchTimesSpec)) benchTimesUptoCard

/-- THE SECOND FORM's CARD OF 'silversidelaw04.BenchEnough'. -/
def benchEnoughUptoCard : Claim7 := { stood := { row := benchEnoughUptoRow, standIns := [], harness := (true, "4efbe64ce4bbdfceb425931beb343a5a82de5ce7e6d6afa96d84e3d3e6d59a99"), looks := false }, kinds := [], alts := [], laidByText := true, laidKinds := [.data], laidTests := true, laidLooks := .later }
def BenchEnoughUptoCardSaid : Prop := Claim7.holds Tryd.pinned (.plain (OpenSpec.upto benchEnoughSpec)) benchEnoughUptoCard

/-- THE SECOND FORM's CARD OF 'silversidelaw04.BenchOwn'. -/
def benchOwnUptoCard : Claim7 := { stood := { row := benchOwnUptoRow, standIns := [], harness := (true, "4efbe64ce4bbdfceb425931beb343a5a82de5ce7e6d6afa96d84e3d3e6d59a99"), looks := false }, kinds := [], alts := [], laidByText := true, laidKinds := [.data], laidTests := true, laidLooks := .later }
def BenchOwnUptoCardSaid : Prop := Claim7.holds Tryd.pinned (.plain (OpenSpec.upto benchOwnSpec)) benchOwnUptoCard

/-- THE SECOND FORM's CARD OF 'silversidelaw04.BenchPlans'. -/
def benchPlansUptoCard : Claim7 := { stood := { row := benchPlansUptoRow, standIns := [], harness := (true, "4efbe64ce4bbdfceb425931beb343a5a82de5ce7e6d6afa96d84e3d3e6d59a99"), looks := false }, kinds := [], alts := [], laidByText := true, laidKinds := [.data], laidTests := true, laidLooks := .later }
def BenchPlansUptoCardSaid : Prop := Claim7.holds Tryd.pinned (.plain (OpenSpec.upto benchPlansSpec)) benchPlansUptoCard

/-- THE SECOND FORM's CARD OF 'silversidelaw04.BenchChecks'. -/
def benchChecksUptoCard : Claim7 := { stood := { row := benchChecksUptoRow, standIns := [], harness := (true, "4efbe64ce4bbdfceb425931beb343a5a82de5ce7e6d6afa96d84e3d3e6d59a99"), looks := false }, kinds := [], alts := [], laidByText := true, laidKinds := [.data], laidTests := true, laidLooks := .later }
def BenchChecksUptoCardSaid : Prop := Claim7.holds Tryd.pinned (.plain (OpenSpec.upto benchChecksSpec)) benchChecksUptoCard

/-- THE SECOND FORM's CARD OF 'silversidelaw04.BenchOnce'. -/
def benchOnceUptoCard : Claim7 := { stood := { row := benchOnceUptoRow, standIns := [], harness := (true, "4efbe64ce4bbdfceb425931beb343a5a82de5ce7e6d6afa96d84e3d3e6d59a99"), looks := false }, kinds := [], alts := [], laidByText := true, laidKinds := [.data], laidTests := true, laidLooks := .later }
def BenchOnceUptoCardSaid : Prop := Claim7.holds Tryd.pinned (.plain (OpenSpec.upto benchOnceSpec)) benchOnceUptoCard

/-- THE SECOND FORM's CARD OF 'silversidelaw04.BenchTurns'. -/
def benchTurnsUptoCard : Claim7 := { stood := { row := benchTurnsUptoRow, standIns := [], harness := (true, "4efbe64ce4bbdfceb425931beb343a5a82de5ce7e6d6afa96d84e3d3e6d59a99"), looks := false }, kinds := [], alts := [], laidByText := true, laidKinds := [.data], laidTests := true, laidLooks := .later }
def BenchTurnsUptoCardSaid : Prop := Claim7.holds Tryd.pinned (.plain (OpenSpec.upto benchTurnsSpec)) benchTurnsUptoCard
end Rows
end Go.Proofs.YtmnhcbaocoofoaaDoor
