/-
  DERIVED. GIVEN WITH THE SEED: THE CARDS: each row of YtalgjggmhhdkkaaDoorRows.lean that lists a variable, with what it lists TIED to the program's text (the seventh form; the later family's looks); each row that meets fmt, with fmt's text TOLD by the authors' own Lean function (tested against real Go, not proved from fmt's source: count such statements apart). THE CARD IS WHAT COUNTS. Prove the row's statement (the work); the ties are given (YtalgjggmhhdkkaaDoorTie.lean); close each card by the builder's one call (the guide's Derived/Test/ToyasCard.lean, 'card_holds'). Laid BY PROGRAM, IN A SANDBOX (cutbox-door.mjs). By AI agents, Wed Nov 11 2026. No macro, syntax, notation, axiom, sorry.
-/
import Derived.Test.YtalgjggmhhdkkaaDoorRows
import GoSem.ClaimSeven
namespace Go.Proofs.YtalgjggmhhdkkaaDoor
namespace Rows

/-- THE TIED CARD OF 'breakwaterlaw29.ValidChecks'. -/
def validChecksCard : Claim7 := { stood := { row := validChecksRow, standIns := [], harness := (true, "9c8a8755cba9c59496751d8f0dd72f46274bbdd2564677a11ee6cdbdc4e38722"), looks := true }, kinds := [], alts := [], laidByText := true, laidKinds := [.handle], laidTests := true, laidLooks := .later }
def ValidChecksCardSaid : Prop := Claim7.holds Tryd.pinned (.plain (OpenSpec.ofChange validChecksSpec)) validChecksCard

/-- THE TIED CARD OF 'breakwaterlaw29.ValidLoads'. -/
def validLoadsCard : Claim7 := { stood := { row := validLoadsRow, standIns := [], harness := (true, "9c8a8755cba9c59496751d8f0dd72f46274bbdd2564677a11ee6cdbdc4e38722"), looks := true }, kinds := [], alts := [], laidByText := true, laidKinds := [.handle], laidTests := true, laidLooks := .later }
def ValidLoadsCardSaid : Prop := Claim7.holds Tryd.pinned (.plain (OpenSpec.ofChange validLoadsSpec)) validLoadsCard

/-- THE SECOND FORM's CARD OF 'breakwaterlaw29.ValidChecks'. -/
def validChecksUptoCard : Claim7 := { stood := { row := validChecksUptoRow, standIns := [], harness := (true, "9c8a8755cba9c59496751d8f0dd72f46274bbdd2564677a11ee6cdbdc4e38722"), looks := true }, kinds := [], alts := [], laidByText := true, laidKinds := [.handle], laidTests := true, laidLooks := .later }
def ValidChecksUptoCardSaid : Prop := Claim7.holds Tryd.pinned (.plain (OpenSpec.upto validChecksSpec)) validChecksUptoCard

/-- THE SECOND FORM's CARD OF 'breakwaterlaw29.ValidLoads'. -/
def validLoadsUptoCard : Claim7 := { stood := { row := validLoadsUptoRow, standIns := [], harness := (true, "9c8a8755cba9c59496751d8f0dd72f46274bbdd2564677a11ee6cdbdc4e38722"), looks := true }, kinds := [], alts := [], laidByText := true, laidKinds := [.handle], laidTests := true, laidLooks := .later }
def ValidLoadsUptoCardSaid : Prop := Claim7.holds Tryd.pinned (.plain (OpenSpec.upto validLoadsSpec)) validLoadsUptoCard
end Rows
end Go.Proofs.YtalgjggmhhdkkaaDoor
