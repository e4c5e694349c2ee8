/-
  The law FnExactEnabledOf returns true for every input that can be read, and the input reads afterwards as before; the listed variables are tied to the program's text by the given card. No further condition.
-/
import Derived.Test.YtnobdioccfeokaaGreatDoorZE17
namespace Go.Proofs.YtnobdioccfeokaaGreatDoor.fnExactEnabledOf
open Go.ChangeShapes Go.WideShapes Go.ChangeAt Go.RowKit Go.Joins
open Go.ChangeMaps (open_string shut_string)
set_option linter.unusedVariables false
set_option linter.unusedSimpArgs false
set_option maxRecDepth 100000
theorem card:Rows.FnExactEnabledOfCardSaid:=
 Claim7.holds_tied_plain_at .later [] _ _ _ _ said (fun _ h=>by cases h) (by kernel_rfl) (fun _ h=>by cases h) fnExactEnabledOf_row_tie rfl ⟨rfl,rfl⟩ (by kernel_rfl) rfl plain goes
#print axioms card
end Go.Proofs.YtnobdioccfeokaaGreatDoor.fnExactEnabledOf
