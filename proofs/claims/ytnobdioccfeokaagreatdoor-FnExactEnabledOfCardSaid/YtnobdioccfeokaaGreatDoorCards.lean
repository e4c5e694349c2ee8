/-
  DERIVED. GIVEN WITH THE SEED: THE CARDS: each row of YtnobdioccfeokaaGreatDoorRows.lean that lists a variable, with what it lists TIED to the program's text (the seventh form; the later family's looks); each row that meets fmt, with fmt's text TOLD by the authors' own Lean function (tested against real Go, not proved from fmt's source: count such statements apart). THE CARD IS WHAT COUNTS. Prove the row's statement (the work); the ties are given (YtnobdioccfeokaaGreatDoorTie.lean); close each card by the builder's one call (the guide's Derived/Test/ToyasCard.lean, 'card_holds'). Laid BY PROGRAM, IN A SANDBOX (cutbox-door.mjs). By AI agents, Wed Nov 11 2026. No macro, syntax, notation, axiom, sorry.
-/
import Derived.Test.YtnobdioccfeokaaGreatDoorRows
import GoSem.ClaimSeven
namespace Go.Proofs.YtnobdioccfeokaaGreatDoor
namespace Rows

/-- THE TIED CARD OF 'laws.FnExactEnabledOf'. -/
def fnExactEnabledOfCard : Claim7 := { stood := { row := fnExactEnabledOfRow, standIns := [], harness := (true, "fd5ba6de38d044498b681bb7d8e8b372d4c1a5cb26ff9f67c69db36841287f83"), looks := false }, kinds := [], alts := [], laidByText := true, laidKinds := [.data, .pinned], laidTests := true, laidLooks := .later }
def FnExactEnabledOfCardSaid : Prop := Claim7.holds Tryz.pinned (.plain (OpenSpec.ofChange fnExactEnabledOfSpec)) fnExactEnabledOfCard

/-- THE SECOND FORM's CARD OF 'laws.FnExactEnabledOf'. -/
def fnExactEnabledOfUptoCard : Claim7 := { stood := { row := fnExactEnabledOfUptoRow, standIns := [], harness := (true, "fd5ba6de38d044498b681bb7d8e8b372d4c1a5cb26ff9f67c69db36841287f83"), looks := false }, kinds := [], alts := [], laidByText := true, laidKinds := [.data, .pinned], laidTests := true, laidLooks := .later }
def FnExactEnabledOfUptoCardSaid : Prop := Claim7.holds Tryz.pinned (.plain (OpenSpec.upto fnExactEnabledOfSpec)) fnExactEnabledOfUptoCard
end Rows
end Go.Proofs.YtnobdioccfeokaaGreatDoor
