/-
  DERIVED. GIVEN WITH THE SEED: THE CARDS: each row of YtgcefakbbmgbbaaDoorRows.lean that lists a variable, with what it lists TIED to the program's text (the seventh form; the later family's looks); each row that meets fmt, with fmt's text TOLD by the authors' own Lean function (tested against real Go, not proved from fmt's source: count such statements apart). THE CARD IS WHAT COUNTS. Prove the row's statement (the work); the ties are given (YtgcefakbbmgbbaaDoorTie.lean); close each card by the builder's one call (the guide's Derived/Test/ToyasCard.lean, 'card_holds'). Laid BY PROGRAM, IN A SANDBOX (cutbox-door.mjs). By AI agents, Wed Nov 11 2026. No macro, syntax, notation, axiom, sorry.
-/
import Derived.Test.YtgcefakbbmgbbaaDoorRows
import GoSem.ClaimSeven
namespace Go.Proofs.YtgcefakbbmgbbaaDoor
namespace Rows

/-- THE TIED CARD OF 'contangolaw06.WorkdayTells'. -/
def workdayTellsCard : Claim7 := { stood := { row := workdayTellsRow, standIns := [], harness := (true, "6ffebd566e6fd7d1519d32b661fd19c623668c4a908a8723af1af77733c186da"), looks := false }, kinds := [], alts := [], laidByText := true, laidKinds := [.data], laidTests := true, laidLooks := .later }
def WorkdayTellsCardSaid : Prop := Claim7.holds Tryd.pinned (.plain (OpenSpec.ofChange workdayTellsSpec)) workdayTellsCard

/-- THE TIED CARD OF 'contangolaw06.WorkdayAdds'. -/
def workdayAddsCard : Claim7 := { stood := { row := workdayAddsRow, standIns := [], harness := (true, "6ffebd566e6fd7d1519d32b661fd19c623668c4a908a8723af1af77733c186da"), looks := false }, kinds := [], alts := [], laidByText := true, laidKinds := [.data], laidTests := true, laidLooks := .later }
def WorkdayAddsCardSaid : Prop := Claim7.holds Tryd.pinned (.plain (OpenSpec.ofChange workdayAddsSpec)) workdayAddsCard

/-- THE TIED CARD OF 'contangolaw06.WorkdayExpires'. -/
def workdayExpiresCard : Claim7 := { stood := { row := workdayExpiresRow, standIns := [], harness := (true, "6ffebd566e6fd7d1519d32b661fd19c623668c4a908a8723af1af77733c186da"), looks := false }, kinds := [], alts := [], laidByText := true, laidKinds := [.data], laidTests := true, laidLooks := .later }
def WorkdayExpiresCardSaid : Prop := Claim7.holds Tryd.pinned (.plain (OpenSpec.ofChange workdayExpiresSpec)) workdayExpiresCard

/-- THE TIED CARD OF 'contangolaw06.WorkdayBack'. -/
def workdayBackCard : Claim7 := { stood := { row := workdayBackRow, standIns := [], harness := (true, "6ffebd566e6fd7d1519d32b661fd19c623668c4a908a8723af1af77733c186da"), looks := false }, kinds := [], alts := [], laidByText := true, laidKinds := [.data], laidTests := true, laidLooks := .later }
def WorkdayBackCardSaid : Prop := Claim7.holds Tryd.pinned (.plain (OpenSpec.ofChange workdayBackSpec)) workdayBackCard

/-- THE TIED CARD OF 'contangolaw06.WorkdayCounts'. -/
def workdayCountsCard : Claim7 := { stood := { row := workdayCountsRow, standIns := [], harness := (true, "6ffebd566e6fd7d1519d32b661fd19c623668c4a908a8723af1af77733c186da"), looks := false }, kinds := [], alts := [], laidByText := true, laidKinds := [.data], laidTests := true, laidLooks := .later }
def WorkdayCountsCardSaid : Prop := Claim7.holds Tryd.pinned (.plain (OpenSpec.ofChange workdayCountsSpec)) workdayCountsCard

/-- THE TIED CARD OF 'contangotop.TopExpiry'. -/
def topExpiryCard : Claim7 := { stood := { row := topExpiryRow, standIns := [], harness := (true, "6ffebd566e6fd7d1519d32b661fd19c623668c4a908a8723af1af77733c186da"), looks := false }, kinds := [], alts := [], laidByText := true, laidKinds := [.data], laidTests := true, laidLooks := .later }
def TopExpiryCardSaid : Prop := Claim7.holds Tryd.pinned (.plain (OpenSpec.ofChange topExpirySpec)) topExpiryCard

/-- THE SECOND FORM's CARD OF 'contangolaw06.WorkdayTells'. -/
def workdayTellsUptoCard : Claim7 := { stood := { row := workdayTellsUptoRow, standIns := [], harness := (true, "6ffebd566e6fd7d1519d32b661fd19c623668c4a908a8723af1af77733c186da"), looks := false }, kinds := [], alts := [], laidByText := true, laidKinds := [.data], laidTests := true, laidLooks := .later }
def WorkdayTellsUptoCardSaid : Prop := Claim7.holds Tryd.pinned (.plain (OpenSpec.upto workdayTellsSpec)) workdayTellsUptoCard

/-- THE SECOND FORM's CARD OF 'contangolaw06.WorkdayAdds'. -/
def workdayAddsUptoCard : Claim7 := { stood := { row := workdayAddsUptoRow, standIns := [], harness := (true, "6ffebd566e6fd7d1519d32b661fd19c623668c4a908a8723af1af77733c186da"), looks := false }, kinds := [], alts := [], laidByText := true, laidKinds := [.data], laidTests := true, laidLooks := .later }
def WorkdayAddsUptoCardSaid : Prop := Claim7.holds Tryd.pinned (.plain (OpenSpec.upto workdayAddsSpec)) workdayAddsUptoCard

/-- THE SECOND FORM's CARD OF 'contangolaw06.WorkdayExpires'. -/
def workdayExpiresUptoCard : Claim7 := { stood := { row := workdayExpiresUptoRow, standIns := [], harness := (true, "6ffebd566e6fd7d1519d32b661fd19c623668c4a908a8723af1af77733c186da"), looks := false }, kinds := [], alts := [], laidByText := true, laidKinds := [.data], laidTests := true, laidLooks := .later }
def WorkdayExpiresUptoCardSaid : Prop := Claim7.holds Tryd.pinned (.plain (OpenSpec.upto workdayExpiresSpec)) workdayExpiresUptoCard

/-- THE SECOND FORM's CARD OF 'contangolaw06.WorkdayBack'. -/
def workdayBackUptoCard : Claim7 := { stood := { row := workdayBackUptoRow, standIns := [], harness := (true, "6ffebd566e6fd7d1519d32b661fd19c623668c4a908a8723af1af77733c186da"), looks := false }, kinds := [], alts := [], laidByText := true, laidKinds := [.data], laidTests := true, laidLooks := .later }
def WorkdayBackUptoCardSaid : Prop := Claim7.holds Tryd.pinned (.plain (OpenSpec.upto workdayBackSpec)) workdayBackUptoCard

/-- THE SECOND FORM's CARD OF 'contangolaw06.WorkdayCounts'. -/
def workdayCountsUptoCard : Claim7 := { stood := { row := workdayCountsUptoRow, standIns := [], harness := (true, "6ffebd566e6fd7d1519d32b661fd19c623668c4a908a8723af1af77733c186da"), looks := false }, kinds := [], alts := [], laidByText := true, laidKinds := [.data], laidTests := true, laidLooks := .later }
def WorkdayCountsUptoCardSaid : Prop := Claim7.holds Tryd.pinned (.plain (OpenSpec.upto workdayCountsSpec)) workdayCountsUptoCard

/-- THE SECOND FORM's CARD OF 'contangotop.TopExpiry'. -/
def topExpiryUptoCard : Claim7 := { stood := { row := topExpiryUptoRow, standIns := [], harness := (true, "6ffebd566e6fd7d1519d32b661fd19c623668c4a908a8723af1af77733c186da"), looks := false }, kinds := [], alts := [], laidByText := true, laidKinds := [.data], laidTests := true, laidLooks := .later }
def TopExpiryUptoCardSaid : Prop := Claim7.holds Tryd.pinned (.plain (OpenSpec.upto topExpirySpec)) topExpiryUptoCard
end Rows
end Go.Proofs.YtgcefakbbmgbbaaDoor
