/- Part 43 of the proof of the statement that the last part names; it asks for no condition of its own. Here: RowS8. -/
import Derived.Test.YtgkfbembnlgahaaGreatDoorQbp
import Derived.Lib.LaidCaseMet
set_option linter.unusedVariables false
set_option maxRecDepth 100000
namespace Go.Proofs.YtgkfbembnlgahaaGreatDoor
open Go Go.Sx Go.Tx Go.ChangeShapes Go.WideShapes Go.ChangeAt Go.WideElems Go.RowKit
end Go.Proofs.YtgkfbembnlgahaaGreatDoor
