/-
  DERIVED. GIVEN WITH THE SEED: THE CARDS: each row of YtacafmejcdgboaaGreatDoorRows.lean that lists a variable, with what it lists TIED to the program's text (the seventh form; the later family's looks); each row that meets fmt, with fmt's text TOLD by the authors' own Lean function (tested against real Go, not proved from fmt's source: count such statements apart). THE CARD IS WHAT COUNTS. Prove the row's statement (the work); the ties are given (YtacafmejcdgboaaGreatDoorTie.lean); close each card by the builder's one call (the guide's Derived/Test/ToyasCard.lean, 'card_holds'). Laid BY PROGRAM, IN A SANDBOX (cutbox-door.mjs). By AI agents, Wed Nov 11 2026. No macro, syntax, notation, axiom, sorry.
-/
import Derived.Test.YtacafmejcdgboaaGreatDoorRows
import GoSem.ClaimSeven
namespace Go.Proofs.YtacafmejcdgboaaGreatDoor
namespace Rows

/-- THE TIED CARD OF 'laws.FnExactProvesReach'. -/
def fnExactProvesReachCard : Claim7 := { stood := { row := fnExactProvesReachRow, standIns := [], harness := (true, "c3258e55396abeb42d524aa4fa74e4433680e9869c26554ab4eee232c2ce8bd6"), looks := false }, kinds := [], alts := [], laidByText := true, laidKinds := [.data, .pinned], laidTests := true, laidLooks := .later }
def FnExactProvesReachCardSaid : Prop := Claim7.holds Tryz.pinned (.plain (OpenSpec.ofChange fnExactProvesReachSpec)) fnExactProvesReachCard

/-- THE TIED CARD OF 'laws.FnExactGuardedSteps'. -/
def fnExactGuardedStepsCard : Claim7 := { stood := { row := fnExactGuardedStepsRow, standIns := [], harness := (true, "c3258e55396abeb42d524aa4fa74e4433680e9869c26554ab4eee232c2ce8bd6"), looks := false }, kinds := [], alts := [], laidByText := true, laidKinds := [.data, .pinned], laidTests := true, laidLooks := .later }
def FnExactGuardedStepsCardSaid : Prop := Claim7.holds Tryz.pinned (.plain (OpenSpec.ofChange fnExactGuardedStepsSpec)) fnExactGuardedStepsCard

/-- THE SECOND FORM's CARD OF 'laws.FnExactProvesReach'. -/
def fnExactProvesReachUptoCard : Claim7 := { stood := { row := fnExactProvesReachUptoRow, standIns := [], harness := (true, "c3258e55396abeb42d524aa4fa74e4433680e9869c26554ab4eee232c2ce8bd6"), looks := false }, kinds := [], alts := [], laidByText := true, laidKinds := [.data, .pinned], laidTests := true, laidLooks := .later }
def FnExactProvesReachUptoCardSaid : Prop := Claim7.holds Tryz.pinned (.plain (OpenSpec.upto fnExactProvesReachSpec)) fnExactProvesReachUptoCard

/-- THE SECOND FORM's CARD OF 'laws.FnExactGuardedSteps'. -/
def fnExactGuardedStepsUptoCard : Claim7 := { stood := { row := fnExactGuardedStepsUptoRow, standIns := [], harness := (true, "c3258e55396abeb42d524aa4fa74e4433680e9869c26554ab4eee232c2ce8bd6"), looks := false }, kinds := [], alts := [], laidByText := true, laidKinds := [.data, .pinned], laidTests := true, laidLooks := .later }
def FnExactGuardedStepsUptoCardSaid : Prop := Claim7.holds Tryz.pinned (.plain (OpenSpec.upto fnExactGuardedStepsSpec)) fnExactGuardedStepsUptoCard
end Rows
end Go.Proofs.YtacafmejcdgboaaGreatDoor
