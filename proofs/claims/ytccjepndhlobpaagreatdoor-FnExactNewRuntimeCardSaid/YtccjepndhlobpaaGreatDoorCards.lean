/-
  DERIVED. GIVEN WITH THE SEED: THE CARDS: each row of YtccjepndhlobpaaGreatDoorRows.lean that lists a variable, with what it lists TIED to the program's text (the seventh form; the later family's looks); each row that meets fmt, with fmt's text TOLD by the authors' own Lean function (tested against real Go, not proved from fmt's source: count such statements apart). THE CARD IS WHAT COUNTS. Prove the row's statement (the work); the ties are given (YtccjepndhlobpaaGreatDoorTie.lean); close each card by the builder's one call (the guide's Derived/Test/ToyasCard.lean, 'card_holds'). Laid BY PROGRAM, IN A SANDBOX (cutbox-door.mjs). By AI agents, Wed Nov 11 2026. No macro, syntax, notation, axiom, sorry.
-/
import Derived.Test.YtccjepndhlobpaaGreatDoorRows
import GoSem.ClaimSeven
namespace Go.Proofs.YtccjepndhlobpaaGreatDoor
namespace Rows

/-- THE TIED CARD OF 'laws.FnExactIsRuntime'. -/
def fnExactIsRuntimeCard : Claim7 := { stood := { row := fnExactIsRuntimeRow, standIns := [], harness := (true, "681564473bb37a426948f118d5a71a21be2c2b96602da78bafb60def30f55d8a"), looks := false }, kinds := [], alts := [], laidByText := true, laidKinds := [.data, .pinned], laidTests := true, laidLooks := .later }
def FnExactIsRuntimeCardSaid : Prop := Claim7.holds Tryz.pinned (.plain (OpenSpec.ofChange fnExactIsRuntimeSpec)) fnExactIsRuntimeCard

/-- THE TIED CARD OF 'laws.FnExactHostOf'. -/
def fnExactHostOfCard : Claim7 := { stood := { row := fnExactHostOfRow, standIns := [], harness := (true, "681564473bb37a426948f118d5a71a21be2c2b96602da78bafb60def30f55d8a"), looks := false }, kinds := [], alts := [], laidByText := true, laidKinds := [.data, .pinned], laidTests := true, laidLooks := .later }
def FnExactHostOfCardSaid : Prop := Claim7.holds Tryz.pinned (.plain (OpenSpec.ofChange fnExactHostOfSpec)) fnExactHostOfCard

/-- THE TIED CARD OF 'laws.FnExactLoadOf'. -/
def fnExactLoadOfCard : Claim7 := { stood := { row := fnExactLoadOfRow, standIns := [], harness := (true, "681564473bb37a426948f118d5a71a21be2c2b96602da78bafb60def30f55d8a"), looks := false }, kinds := [], alts := [], laidByText := true, laidKinds := [.data, .pinned], laidTests := true, laidLooks := .later }
def FnExactLoadOfCardSaid : Prop := Claim7.holds Tryz.pinned (.plain (OpenSpec.ofChange fnExactLoadOfSpec)) fnExactLoadOfCard

/-- THE TIED CARD OF 'laws.FnExactNewRuntime'. -/
def fnExactNewRuntimeCard : Claim7 := { stood := { row := fnExactNewRuntimeRow, standIns := [], harness := (true, "681564473bb37a426948f118d5a71a21be2c2b96602da78bafb60def30f55d8a"), looks := false }, kinds := [], alts := [], laidByText := true, laidKinds := [.data, .pinned], laidTests := true, laidLooks := .later }
def FnExactNewRuntimeCardSaid : Prop := Claim7.holds Tryz.pinned (.plain (OpenSpec.ofChange fnExactNewRuntimeSpec)) fnExactNewRuntimeCard

/-- THE TIED CARD OF 'laws.FnExactNewConsole'. -/
def fnExactNewConsoleCard : Claim7 := { stood := { row := fnExactNewConsoleRow, standIns := [], harness := (true, "681564473bb37a426948f118d5a71a21be2c2b96602da78bafb60def30f55d8a"), looks := false }, kinds := [], alts := [], laidByText := true, laidKinds := [.data, .pinned], laidTests := true, laidLooks := .later }
def FnExactNewConsoleCardSaid : Prop := Claim7.holds Tryz.pinned (.plain (OpenSpec.ofChange fnExactNewConsoleSpec)) fnExactNewConsoleCard

/-- THE TIED CARD OF 'laws.FnExactIsValidConsole'. -/
def fnExactIsValidConsoleCard : Claim7 := { stood := { row := fnExactIsValidConsoleRow, standIns := [], harness := (true, "681564473bb37a426948f118d5a71a21be2c2b96602da78bafb60def30f55d8a"), looks := false }, kinds := [], alts := [], laidByText := true, laidKinds := [.data, .data, .data, .data, .pinned], laidTests := true, laidLooks := .later }
def FnExactIsValidConsoleCardSaid : Prop := Claim7.holds Tryz.pinned (.plain (OpenSpec.ofChange fnExactIsValidConsoleSpec)) fnExactIsValidConsoleCard

/-- THE SECOND FORM's CARD OF 'laws.FnExactIsRuntime'. -/
def fnExactIsRuntimeUptoCard : Claim7 := { stood := { row := fnExactIsRuntimeUptoRow, standIns := [], harness := (true, "681564473bb37a426948f118d5a71a21be2c2b96602da78bafb60def30f55d8a"), looks := false }, kinds := [], alts := [], laidByText := true, laidKinds := [.data, .pinned], laidTests := true, laidLooks := .later }
def FnExactIsRuntimeUptoCardSaid : Prop := Claim7.holds Tryz.pinned (.plain (OpenSpec.upto fnExactIsRuntimeSpec)) fnExactIsRuntimeUptoCard

/-- THE SECOND FORM's CARD OF 'laws.FnExactHostOf'. -/
def fnExactHostOfUptoCard : Claim7 := { stood := { row := fnExactHostOfUptoRow, standIns := [], harness := (true, "681564473bb37a426948f118d5a71a21be2c2b96602da78bafb60def30f55d8a"), looks := false }, kinds := [], alts := [], laidByText := true, laidKinds := [.data, .pinned], laidTests := true, laidLooks := .later }
def FnExactHostOfUptoCardSaid : Prop := Claim7.holds Tryz.pinned (.plain (OpenSpec.upto fnExactHostOfSpec)) fnExactHostOfUptoCard

/-- THE SECOND FORM's CARD OF 'laws.FnExactLoadOf'. -/
def fnExactLoadOfUptoCard : Claim7 := { stood := { row := fnExactLoadOfUptoRow, standIns := [], harness := (true, "681564473bb37a426948f118d5a71a21be2c2b96602da78bafb60def30f55d8a"), looks := false }, kinds := [], alts := [], laidByText := true, laidKinds := [.data, .pinned], laidTests := true, laidLooks := .later }
def FnExactLoadOfUptoCardSaid : Prop := Claim7.holds Tryz.pinned (.plain (OpenSpec.upto fnExactLoadOfSpec)) fnExactLoadOfUptoCard

/-- THE SECOND FORM's CARD OF 'laws.FnExactNewRuntime'. -/
def fnExactNewRuntimeUptoCard : Claim7 := { stood := { row := fnExactNewRuntimeUptoRow, standIns := [], harness := (true, "681564473bb37a426948f118d5a71a21be2c2b96602da78bafb60def30f55d8a"), looks := false }, kinds := [], alts := [], laidByText := true, laidKinds := [.data, .pinned], laidTests := true, laidLooks := .later }
def FnExactNewRuntimeUptoCardSaid : Prop := Claim7.holds Tryz.pinned (.plain (OpenSpec.upto fnExactNewRuntimeSpec)) fnExactNewRuntimeUptoCard

/-- THE SECOND FORM's CARD OF 'laws.FnExactNewConsole'. -/
def fnExactNewConsoleUptoCard : Claim7 := { stood := { row := fnExactNewConsoleUptoRow, standIns := [], harness := (true, "681564473bb37a426948f118d5a71a21be2c2b96602da78bafb60def30f55d8a"), looks := false }, kinds := [], alts := [], laidByText := true, laidKinds := [.data, .pinned], laidTests := true, laidLooks := .later }
def FnExactNewConsoleUptoCardSaid : Prop := Claim7.holds Tryz.pinned (.plain (OpenSpec.upto fnExactNewConsoleSpec)) fnExactNewConsoleUptoCard

/-- THE SECOND FORM's CARD OF 'laws.FnExactIsValidConsole'. -/
def fnExactIsValidConsoleUptoCard : Claim7 := { stood := { row := fnExactIsValidConsoleUptoRow, standIns := [], harness := (true, "681564473bb37a426948f118d5a71a21be2c2b96602da78bafb60def30f55d8a"), looks := false }, kinds := [], alts := [], laidByText := true, laidKinds := [.data, .data, .data, .data, .pinned], laidTests := true, laidLooks := .later }
def FnExactIsValidConsoleUptoCardSaid : Prop := Claim7.holds Tryz.pinned (.plain (OpenSpec.upto fnExactIsValidConsoleSpec)) fnExactIsValidConsoleUptoCard
end Rows
end Go.Proofs.YtccjepndhlobpaaGreatDoor
