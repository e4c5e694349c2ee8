/-
  A closed fact that the card of the law leans on: how its row goes by the program.
-/
import Derived.Test.YtnobdioccfeokaaGreatDoorZE16
namespace Go.Proofs.YtnobdioccfeokaaGreatDoor.fnExactEnabledOf
open Go.ChangeShapes Go.WideShapes Go.ChangeAt Go.RowKit Go.Joins
open Go.ChangeMaps (open_string shut_string)
set_option linter.unusedVariables false
set_option linter.unusedSimpArgs false
set_option maxRecDepth 100000
theorem goes:false = Rows.fnExactEnabledOfRow.goesBy Tryz.pinned.checked.prog:=by kernel_rfl
end Go.Proofs.YtnobdioccfeokaaGreatDoor.fnExactEnabledOf
