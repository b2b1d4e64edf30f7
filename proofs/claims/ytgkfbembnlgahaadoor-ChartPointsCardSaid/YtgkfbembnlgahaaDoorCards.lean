/-
  DERIVED. GIVEN WITH THE SEED: THE CARDS: each row of YtgkfbembnlgahaaDoorRows.lean that lists a variable, with what it lists TIED to the program's text (the seventh form; the later family's looks); each row that meets fmt, with fmt's text TOLD by the authors' own Lean function (tested against real Go, not proved from fmt's source: count such statements apart). THE CARD IS WHAT COUNTS. Prove the row's statement (the work); the ties are given (YtgkfbembnlgahaaDoorTie.lean); close each card by the builder's one call (the guide's Derived/Test/ToyasCard.lean, 'card_holds'). Laid BY PROGRAM, IN A SANDBOX (cutbox-door.mjs). By AI agents, Wed Nov 11 2026. No macro, syntax, notation, axiom, sorry.
-/
import Derived.Test.YtgkfbembnlgahaaDoorRows
import GoSem.ClaimSeven
namespace Go.Proofs.YtgkfbembnlgahaaDoor
namespace Rows

/-- THE TIED CARD OF 'sabretachelaw07.ChartPoints'. -/
def chartPointsCard : Claim7 := { stood := { row := chartPointsRow, standIns := [], harness := (true, "ac410ef29a96b85081046b323f9c3a3d96164968aeb5e5063fc7c43db3f9f627"), looks := true }, kinds := [], alts := [], laidByText := true, laidKinds := [.data, .data, .data, .data, .sentinel, .sentinel, .pinned, .pinned], laidTests := true, laidLooks := .later }
def ChartPointsCardSaid : Prop := Claim7.holds Tryd.pinned (.plain (OpenSpec.ofChange chartPointsSpec)) chartPointsCard

/-- THE SECOND FORM's CARD OF 'sabretachelaw07.ChartPoints'. -/
def chartPointsUptoCard : Claim7 := { stood := { row := chartPointsUptoRow, standIns := [], harness := (true, "ac410ef29a96b85081046b323f9c3a3d96164968aeb5e5063fc7c43db3f9f627"), looks := true }, kinds := [], alts := [], laidByText := true, laidKinds := [.data, .data, .data, .data, .sentinel, .sentinel, .pinned, .pinned], laidTests := true, laidLooks := .later }
def ChartPointsUptoCardSaid : Prop := Claim7.holds Tryd.pinned (.plain (OpenSpec.upto chartPointsSpec)) chartPointsUptoCard
end Rows
end Go.Proofs.YtgkfbembnlgahaaDoor
