/-
  DERIVED. GIVEN WITH THE SEED: THE CARDS: each row of YtclpbhoekmecjaaGreatDoorRows.lean that lists a variable, with what it lists TIED to the program's text (the seventh form; the later family's looks); each row that meets fmt, with fmt's text TOLD by the authors' own Lean function (tested against real Go, not proved from fmt's source: count such statements apart). THE CARD IS WHAT COUNTS. Prove the row's statement (the work); the ties are given (YtclpbhoekmecjaaGreatDoorTie.lean); close each card by the builder's one call (the guide's Derived/Test/ToyasCard.lean, 'card_holds'). Laid BY PROGRAM, IN A SANDBOX (cutbox-door.mjs). By AI agents, Wed Nov 11 2026. No macro, syntax, notation, axiom, sorry.
-/
import Derived.Test.YtclpbhoekmecjaaGreatDoorRows
import GoSem.ClaimSeven
namespace Go.Proofs.YtclpbhoekmecjaaGreatDoor
namespace Rows

/-- THE TIED CARD OF 'laws.FnExactPlayTrace'. -/
def fnExactPlayTraceCard : Claim7 := { stood := { row := fnExactPlayTraceRow, standIns := [], harness := (true, "934553a9006daef1b3e64e25b7fd2290a57032fdfb32fcf04c99951214f3b84e"), looks := false }, kinds := [], alts := [], laidByText := true, laidKinds := [.data, .pinned], laidTests := true, laidLooks := .later }
def FnExactPlayTraceCardSaid : Prop := Claim7.holds Tryz.pinned (.plain (OpenSpec.ofChange fnExactPlayTraceSpec)) fnExactPlayTraceCard

/-- THE TIED CARD OF 'laws.FnExactFirstStep'. -/
def fnExactFirstStepCard : Claim7 := { stood := { row := fnExactFirstStepRow, standIns := [], harness := (true, "934553a9006daef1b3e64e25b7fd2290a57032fdfb32fcf04c99951214f3b84e"), looks := false }, kinds := [], alts := [], laidByText := true, laidKinds := [.data, .pinned], laidTests := true, laidLooks := .later }
def FnExactFirstStepCardSaid : Prop := Claim7.holds Tryz.pinned (.plain (OpenSpec.ofChange fnExactFirstStepSpec)) fnExactFirstStepCard

/-- THE TIED CARD OF 'laws.FnExactStepsOf'. -/
def fnExactStepsOfCard : Claim7 := { stood := { row := fnExactStepsOfRow, standIns := [], harness := (true, "934553a9006daef1b3e64e25b7fd2290a57032fdfb32fcf04c99951214f3b84e"), looks := false }, kinds := [], alts := [], laidByText := true, laidKinds := [.data, .pinned], laidTests := true, laidLooks := .later }
def FnExactStepsOfCardSaid : Prop := Claim7.holds Tryz.pinned (.plain (OpenSpec.ofChange fnExactStepsOfSpec)) fnExactStepsOfCard

/-- THE TIED CARD OF 'laws.FnExactRunFirst'. -/
def fnExactRunFirstCard : Claim7 := { stood := { row := fnExactRunFirstRow, standIns := [], harness := (true, "934553a9006daef1b3e64e25b7fd2290a57032fdfb32fcf04c99951214f3b84e"), looks := false }, kinds := [], alts := [], laidByText := true, laidKinds := [.data, .pinned], laidTests := true, laidLooks := .later }
def FnExactRunFirstCardSaid : Prop := Claim7.holds Tryz.pinned (.plain (OpenSpec.ofChange fnExactRunFirstSpec)) fnExactRunFirstCard

/-- THE SECOND FORM's CARD OF 'laws.FnExactPlayTrace'. -/
def fnExactPlayTraceUptoCard : Claim7 := { stood := { row := fnExactPlayTraceUptoRow, standIns := [], harness := (true, "934553a9006daef1b3e64e25b7fd2290a57032fdfb32fcf04c99951214f3b84e"), looks := false }, kinds := [], alts := [], laidByText := true, laidKinds := [.data, .pinned], laidTests := true, laidLooks := .later }
def FnExactPlayTraceUptoCardSaid : Prop := Claim7.holds Tryz.pinned (.plain (OpenSpec.upto fnExactPlayTraceSpec)) fnExactPlayTraceUptoCard

/-- THE SECOND FORM's CARD OF 'laws.FnExactFirstStep'. -/
def fnExactFirstStepUptoCard : Claim7 := { stood := { row := fnExactFirstStepUptoRow, standIns := [], harness := (true, "934553a9006daef1b3e64e25b7fd2290a57032fdfb32fcf04c99951214f3b84e"), looks := false }, kinds := [], alts := [], laidByText := true, laidKinds := [.data, .pinned], laidTests := true, laidLooks := .later }
def FnExactFirstStepUptoCardSaid : Prop := Claim7.holds Tryz.pinned (.plain (OpenSpec.upto fnExactFirstStepSpec)) fnExactFirstStepUptoCard

/-- THE SECOND FORM's CARD OF 'laws.FnExactStepsOf'. -/
def fnExactStepsOfUptoCard : Claim7 := { stood := { row := fnExactStepsOfUptoRow, standIns := [], harness := (true, "934553a9006daef1b3e64e25b7fd2290a57032fdfb32fcf04c99951214f3b84e"), looks := false }, kinds := [], alts := [], laidByText := true, laidKinds := [.data, .pinned], laidTests := true, laidLooks := .later }
def FnExactStepsOfUptoCardSaid : Prop := Claim7.holds Tryz.pinned (.plain (OpenSpec.upto fnExactStepsOfSpec)) fnExactStepsOfUptoCard

/-- THE SECOND FORM's CARD OF 'laws.FnExactRunFirst'. -/
def fnExactRunFirstUptoCard : Claim7 := { stood := { row := fnExactRunFirstUptoRow, standIns := [], harness := (true, "934553a9006daef1b3e64e25b7fd2290a57032fdfb32fcf04c99951214f3b84e"), looks := false }, kinds := [], alts := [], laidByText := true, laidKinds := [.data, .pinned], laidTests := true, laidLooks := .later }
def FnExactRunFirstUptoCardSaid : Prop := Claim7.holds Tryz.pinned (.plain (OpenSpec.upto fnExactRunFirstSpec)) fnExactRunFirstUptoCard
end Rows
end Go.Proofs.YtclpbhoekmecjaaGreatDoor
