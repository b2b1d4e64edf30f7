/-
  DERIVED. GIVEN WITH THE SEED: THE CARDS: each row of YtgkfbembnlgahaaGreatDoorRows.lean that lists a variable, with what it lists TIED to the program's text (the seventh form; the later family's looks); each row that meets fmt, with fmt's text TOLD by the authors' own Lean function (tested against real Go, not proved from fmt's source: count such statements apart). THE CARD IS WHAT COUNTS. Prove the row's statement (the work); the ties are given (YtgkfbembnlgahaaGreatDoorTie.lean); close each card by the builder's one call (the guide's Derived/Test/ToyasCard.lean, 'card_holds'). Laid BY PROGRAM, IN A SANDBOX (cutbox-door.mjs). By AI agents, Wed Nov 11 2026. No macro, syntax, notation, axiom, sorry.
-/
import Derived.Test.YtgkfbembnlgahaaGreatDoorRows
import GoSem.ClaimSeven
namespace Go.Proofs.YtgkfbembnlgahaaGreatDoor
namespace Rows

/-- THE TIED CARD OF 'sabretachelaw08.TablesFull'. -/
def tablesFullCard : Claim7 := { stood := { row := tablesFullRow, standIns := [], harness := (true, "b8cebc40c63b5fe798bf40e4c9e0b599aa93089535e704d581b0d8c3128bde50"), looks := true }, kinds := [], alts := [], laidByText := true, laidKinds := [.data, .data, .data, .data, .sentinel, .sentinel, .pinned], laidTests := true, laidLooks := .later }
def TablesFullCardSaid : Prop := Claim7.holds Tryz.pinned (.plain (OpenSpec.ofChange tablesFullSpec)) tablesFullCard

/-- THE TIED CARD OF 'sabretachelaw08.TablesPairs'. -/
def tablesPairsCard : Claim7 := { stood := { row := tablesPairsRow, standIns := [], harness := (true, "b8cebc40c63b5fe798bf40e4c9e0b599aa93089535e704d581b0d8c3128bde50"), looks := true }, kinds := [], alts := [], laidByText := true, laidKinds := [.data, .data, .data, .data, .sentinel, .sentinel, .pinned], laidTests := true, laidLooks := .later }
def TablesPairsCardSaid : Prop := Claim7.holds Tryz.pinned (.plain (OpenSpec.ofChange tablesPairsSpec)) tablesPairsCard

/-- THE TIED CARD OF 'sabretachelaw13.OrderTwice'. -/
def orderTwiceCard : Claim7 := { stood := { row := orderTwiceRow, standIns := [], harness := (true, "b8cebc40c63b5fe798bf40e4c9e0b599aa93089535e704d581b0d8c3128bde50"), looks := true }, kinds := [], alts := [], laidByText := true, laidKinds := [.data, .data, .data, .data, .sentinel, .sentinel, .pinned], laidTests := true, laidLooks := .later }
def OrderTwiceCardSaid : Prop := Claim7.holds Tryz.pinned (.plain (OpenSpec.ofChange orderTwiceSpec)) orderTwiceCard

/-- THE TIED CARD OF 'sabretachelaw12.ExpandGiven'. -/
def expandGivenCard : Claim7 := { stood := { row := expandGivenRow, standIns := [], harness := (true, "b8cebc40c63b5fe798bf40e4c9e0b599aa93089535e704d581b0d8c3128bde50"), looks := true }, kinds := [], alts := [], laidByText := true, laidKinds := [.data, .data, .data, .data, .sentinel, .sentinel, .pinned], laidTests := true, laidLooks := .later }
def ExpandGivenCardSaid : Prop := Claim7.holds Tryz.pinned (.plain (OpenSpec.ofChange expandGivenSpec)) expandGivenCard

/-- THE TIED CARD OF 'sabretachelaw14.ComposeBack'. -/
def composeBackCard : Claim7 := { stood := { row := composeBackRow, standIns := [], harness := (true, "b8cebc40c63b5fe798bf40e4c9e0b599aa93089535e704d581b0d8c3128bde50"), looks := true }, kinds := [], alts := [], laidByText := true, laidKinds := [.data, .data, .data, .data, .sentinel, .sentinel, .pinned], laidTests := true, laidLooks := .later }
def ComposeBackCardSaid : Prop := Claim7.holds Tryz.pinned (.plain (OpenSpec.ofChange composeBackSpec)) composeBackCard

/-- THE TIED CARD OF 'sabretachelaw07.ChartClasses'. -/
def chartClassesCard : Claim7 := { stood := { row := chartClassesRow, standIns := [], harness := (true, "b8cebc40c63b5fe798bf40e4c9e0b599aa93089535e704d581b0d8c3128bde50"), looks := true }, kinds := [], alts := [], laidByText := true, laidKinds := [.data, .data, .data, .data, .sentinel, .sentinel, .pinned, .pinned], laidTests := true, laidLooks := .later }
def ChartClassesCardSaid : Prop := Claim7.holds Tryz.pinned (.plain (OpenSpec.ofChange chartClassesSpec)) chartClassesCard

/-- THE TIED CARD OF 'sabretachelaw07.ChartRanges'. -/
def chartRangesCard : Claim7 := { stood := { row := chartRangesRow, standIns := [], harness := (true, "b8cebc40c63b5fe798bf40e4c9e0b599aa93089535e704d581b0d8c3128bde50"), looks := true }, kinds := [], alts := [], laidByText := true, laidKinds := [.data, .data, .data, .data, .sentinel, .sentinel, .pinned, .pinned], laidTests := true, laidLooks := .later }
def ChartRangesCardSaid : Prop := Claim7.holds Tryz.pinned (.plain (OpenSpec.ofChange chartRangesSpec)) chartRangesCard

/-- THE TIED CARD OF 'sabretachelaw07.ChartDecomps'. -/
def chartDecompsCard : Claim7 := { stood := { row := chartDecompsRow, standIns := [], harness := (true, "b8cebc40c63b5fe798bf40e4c9e0b599aa93089535e704d581b0d8c3128bde50"), looks := true }, kinds := [], alts := [], laidByText := true, laidKinds := [.data, .data, .data, .data, .sentinel, .sentinel, .pinned, .pinned], laidTests := true, laidLooks := .later }
def ChartDecompsCardSaid : Prop := Claim7.holds Tryz.pinned (.plain (OpenSpec.ofChange chartDecompsSpec)) chartDecompsCard

/-- THE TIED CARD OF 'sabretachelaw07.ChartGiven'. -/
def chartGivenCard : Claim7 := { stood := { row := chartGivenRow, standIns := [], harness := (true, "b8cebc40c63b5fe798bf40e4c9e0b599aa93089535e704d581b0d8c3128bde50"), looks := true }, kinds := [], alts := [], laidByText := true, laidKinds := [.data, .data, .data, .data, .sentinel, .sentinel, .pinned, .pinned], laidTests := true, laidLooks := .later }
def ChartGivenCardSaid : Prop := Claim7.holds Tryz.pinned (.plain (OpenSpec.ofChange chartGivenSpec)) chartGivenCard

/-- THE TIED CARD OF 'sabretachelaw08.TablesMerges'. -/
def tablesMergesCard : Claim7 := { stood := { row := tablesMergesRow, standIns := [], harness := (true, "b8cebc40c63b5fe798bf40e4c9e0b599aa93089535e704d581b0d8c3128bde50"), looks := true }, kinds := [], alts := [], laidByText := true, laidKinds := [.data, .data, .data, .data, .sentinel, .sentinel, .pinned], laidTests := true, laidLooks := .later }
def TablesMergesCardSaid : Prop := Claim7.holds Tryz.pinned (.plain (OpenSpec.ofChange tablesMergesSpec)) tablesMergesCard

/-- THE TIED CARD OF 'sabretachelaw08.TablesSpans'. -/
def tablesSpansCard : Claim7 := { stood := { row := tablesSpansRow, standIns := [], harness := (true, "b8cebc40c63b5fe798bf40e4c9e0b599aa93089535e704d581b0d8c3128bde50"), looks := true }, kinds := [], alts := [], laidByText := true, laidKinds := [.data, .data, .data, .data, .sentinel, .sentinel, .pinned], laidTests := true, laidLooks := .later }
def TablesSpansCardSaid : Prop := Claim7.holds Tryz.pinned (.plain (OpenSpec.ofChange tablesSpansSpec)) tablesSpansCard

/-- THE SECOND FORM's CARD OF 'sabretachelaw08.TablesFull'. -/
def tablesFullUptoCard : Claim7 := { stood := { row := tablesFullUptoRow, standIns := [], harness := (true, "b8cebc40c63b5fe798bf40e4c9e0b599aa93089535e704d581b0d8c3128bde50"), looks := true }, kinds := [], alts := [], laidByText := true, laidKinds := [.data, .data, .data, .data, .sentinel, .sentinel, .pinned], laidTests := true, laidLooks := .later }
def TablesFullUptoCardSaid : Prop := Claim7.holds Tryz.pinned (.plain (OpenSpec.upto tablesFullSpec)) tablesFullUptoCard

/-- THE SECOND FORM's CARD OF 'sabretachelaw08.TablesPairs'. -/
def tablesPairsUptoCard : Claim7 := { stood := { row := tablesPairsUptoRow, standIns := [], harness := (true, "b8cebc40c63b5fe798bf40e4c9e0b599aa93089535e704d581b0d8c3128bde50"), looks := true }, kinds := [], alts := [], laidByText := true, laidKinds := [.data, .data, .data, .data, .sentinel, .sentinel, .pinned], laidTests := true, laidLooks := .later }
def TablesPairsUptoCardSaid : Prop := Claim7.holds Tryz.pinned (.plain (OpenSpec.upto tablesPairsSpec)) tablesPairsUptoCard

/-- THE SECOND FORM's CARD OF 'sabretachelaw13.OrderTwice'. -/
def orderTwiceUptoCard : Claim7 := { stood := { row := orderTwiceUptoRow, standIns := [], harness := (true, "b8cebc40c63b5fe798bf40e4c9e0b599aa93089535e704d581b0d8c3128bde50"), looks := true }, kinds := [], alts := [], laidByText := true, laidKinds := [.data, .data, .data, .data, .sentinel, .sentinel, .pinned], laidTests := true, laidLooks := .later }
def OrderTwiceUptoCardSaid : Prop := Claim7.holds Tryz.pinned (.plain (OpenSpec.upto orderTwiceSpec)) orderTwiceUptoCard

/-- THE SECOND FORM's CARD OF 'sabretachelaw12.ExpandGiven'. -/
def expandGivenUptoCard : Claim7 := { stood := { row := expandGivenUptoRow, standIns := [], harness := (true, "b8cebc40c63b5fe798bf40e4c9e0b599aa93089535e704d581b0d8c3128bde50"), looks := true }, kinds := [], alts := [], laidByText := true, laidKinds := [.data, .data, .data, .data, .sentinel, .sentinel, .pinned], laidTests := true, laidLooks := .later }
def ExpandGivenUptoCardSaid : Prop := Claim7.holds Tryz.pinned (.plain (OpenSpec.upto expandGivenSpec)) expandGivenUptoCard

/-- THE SECOND FORM's CARD OF 'sabretachelaw14.ComposeBack'. -/
def composeBackUptoCard : Claim7 := { stood := { row := composeBackUptoRow, standIns := [], harness := (true, "b8cebc40c63b5fe798bf40e4c9e0b599aa93089535e704d581b0d8c3128bde50"), looks := true }, kinds := [], alts := [], laidByText := true, laidKinds := [.data, .data, .data, .data, .sentinel, .sentinel, .pinned], laidTests := true, laidLooks := .later }
def ComposeBackUptoCardSaid : Prop := Claim7.holds Tryz.pinned (.plain (OpenSpec.upto composeBackSpec)) composeBackUptoCard

/-- THE SECOND FORM's CARD OF 'sabretachelaw07.ChartClasses'. -/
def chartClassesUptoCard : Claim7 := { stood := { row := chartClassesUptoRow, standIns := [], harness := (true, "b8cebc40c63b5fe798bf40e4c9e0b599aa93089535e704d581b0d8c3128bde50"), looks := true }, kinds := [], alts := [], laidByText := true, laidKinds := [.data, .data, .data, .data, .sentinel, .sentinel, .pinned, .pinned], laidTests := true, laidLooks := .later }
def ChartClassesUptoCardSaid : Prop := Claim7.holds Tryz.pinned (.plain (OpenSpec.upto chartClassesSpec)) chartClassesUptoCard

/-- THE SECOND FORM's CARD OF 'sabretachelaw07.ChartRanges'. -/
def chartRangesUptoCard : Claim7 := { stood := { row := chartRangesUptoRow, standIns := [], harness := (true, "b8cebc40c63b5fe798bf40e4c9e0b599aa93089535e704d581b0d8c3128bde50"), looks := true }, kinds := [], alts := [], laidByText := true, laidKinds := [.data, .data, .data, .data, .sentinel, .sentinel, .pinned, .pinned], laidTests := true, laidLooks := .later }
def ChartRangesUptoCardSaid : Prop := Claim7.holds Tryz.pinned (.plain (OpenSpec.upto chartRangesSpec)) chartRangesUptoCard

/-- THE SECOND FORM's CARD OF 'sabretachelaw07.ChartDecomps'. -/
def chartDecompsUptoCard : Claim7 := { stood := { row := chartDecompsUptoRow, standIns := [], harness := (true, "b8cebc40c63b5fe798bf40e4c9e0b599aa93089535e704d581b0d8c3128bde50"), looks := true }, kinds := [], alts := [], laidByText := true, laidKinds := [.data, .data, .data, .data, .sentinel, .sentinel, .pinned, .pinned], laidTests := true, laidLooks := .later }
def ChartDecompsUptoCardSaid : Prop := Claim7.holds Tryz.pinned (.plain (OpenSpec.upto chartDecompsSpec)) chartDecompsUptoCard

/-- THE SECOND FORM's CARD OF 'sabretachelaw07.ChartGiven'. -/
def chartGivenUptoCard : Claim7 := { stood := { row := chartGivenUptoRow, standIns := [], harness := (true, "b8cebc40c63b5fe798bf40e4c9e0b599aa93089535e704d581b0d8c3128bde50"), looks := true }, kinds := [], alts := [], laidByText := true, laidKinds := [.data, .data, .data, .data, .sentinel, .sentinel, .pinned, .pinned], laidTests := true, laidLooks := .later }
def ChartGivenUptoCardSaid : Prop := Claim7.holds Tryz.pinned (.plain (OpenSpec.upto chartGivenSpec)) chartGivenUptoCard

/-- THE SECOND FORM's CARD OF 'sabretachelaw08.TablesMerges'. -/
def tablesMergesUptoCard : Claim7 := { stood := { row := tablesMergesUptoRow, standIns := [], harness := (true, "b8cebc40c63b5fe798bf40e4c9e0b599aa93089535e704d581b0d8c3128bde50"), looks := true }, kinds := [], alts := [], laidByText := true, laidKinds := [.data, .data, .data, .data, .sentinel, .sentinel, .pinned], laidTests := true, laidLooks := .later }
def TablesMergesUptoCardSaid : Prop := Claim7.holds Tryz.pinned (.plain (OpenSpec.upto tablesMergesSpec)) tablesMergesUptoCard

/-- THE SECOND FORM's CARD OF 'sabretachelaw08.TablesSpans'. -/
def tablesSpansUptoCard : Claim7 := { stood := { row := tablesSpansUptoRow, standIns := [], harness := (true, "b8cebc40c63b5fe798bf40e4c9e0b599aa93089535e704d581b0d8c3128bde50"), looks := true }, kinds := [], alts := [], laidByText := true, laidKinds := [.data, .data, .data, .data, .sentinel, .sentinel, .pinned], laidTests := true, laidLooks := .later }
def TablesSpansUptoCardSaid : Prop := Claim7.holds Tryz.pinned (.plain (OpenSpec.upto tablesSpansSpec)) tablesSpansUptoCard
end Rows
end Go.Proofs.YtgkfbembnlgahaaGreatDoor
