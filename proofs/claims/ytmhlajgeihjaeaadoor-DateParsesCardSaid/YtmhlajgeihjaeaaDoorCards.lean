/-
  DERIVED. GIVEN WITH THE SEED: THE CARDS: each row of YtmhlajgeihjaeaaDoorRows.lean that lists a variable, with what it lists TIED to the program's text (the seventh form; the later family's looks); each row that meets fmt, with fmt's text TOLD by the authors' own Lean function (tested against real Go, not proved from fmt's source: count such statements apart). THE CARD IS WHAT COUNTS. Prove the row's statement (the work); the ties are given (YtmhlajgeihjaeaaDoorTie.lean); close each card by the builder's one call (the guide's Derived/Test/ToyasCard.lean, 'card_holds'). Laid BY PROGRAM, IN A SANDBOX (cutbox-door.mjs). By AI agents, Wed Nov 11 2026. No macro, syntax, notation, axiom, sorry.
-/
import Derived.Test.YtmhlajgeihjaeaaDoorRows
import GoSem.ClaimSeven
namespace Go.Proofs.YtmhlajgeihjaeaaDoor
namespace Rows

/-- THE TIED CARD OF 'contangolaw05.DateOf'. -/
def dateOfCard : Claim7 := { stood := { row := dateOfRow, standIns := [], harness := (true, "7ee2ff485746bcb1b0f4fa27a3f1af95935cd48b8905de1428a6451349ec9c8b"), looks := false }, kinds := [], alts := [], laidByText := true, laidKinds := [.data], laidTests := true, laidLooks := .later }
def DateOfCardSaid : Prop := Claim7.holds Tryd.pinned (.plain (OpenSpec.ofChange dateOfSpec)) dateOfCard

/-- THE TIED CARD OF 'contangolaw05.DateSplits'. -/
def dateSplitsCard : Claim7 := { stood := { row := dateSplitsRow, standIns := [], harness := (true, "7ee2ff485746bcb1b0f4fa27a3f1af95935cd48b8905de1428a6451349ec9c8b"), looks := false }, kinds := [], alts := [], laidByText := true, laidKinds := [.data], laidTests := true, laidLooks := .later }
def DateSplitsCardSaid : Prop := Claim7.holds Tryd.pinned (.plain (OpenSpec.ofChange dateSplitsSpec)) dateSplitsCard

/-- THE TIED CARD OF 'contangolaw05.DateParses'. -/
def dateParsesCard : Claim7 := { stood := { row := dateParsesRow, standIns := [], harness := (true, "7ee2ff485746bcb1b0f4fa27a3f1af95935cd48b8905de1428a6451349ec9c8b"), looks := false }, kinds := [], alts := [], laidByText := true, laidKinds := [.data], laidTests := true, laidLooks := .later }
def DateParsesCardSaid : Prop := Claim7.holds Tryd.pinned (.plain (OpenSpec.ofChange dateParsesSpec)) dateParsesCard

/-- THE TIED CARD OF 'contangolaw05.DateNth'. -/
def dateNthCard : Claim7 := { stood := { row := dateNthRow, standIns := [], harness := (true, "7ee2ff485746bcb1b0f4fa27a3f1af95935cd48b8905de1428a6451349ec9c8b"), looks := false }, kinds := [], alts := [], laidByText := true, laidKinds := [.data], laidTests := true, laidLooks := .later }
def DateNthCardSaid : Prop := Claim7.holds Tryd.pinned (.plain (OpenSpec.ofChange dateNthSpec)) dateNthCard

/-- THE TIED CARD OF 'contangolaw05.DateNext'. -/
def dateNextCard : Claim7 := { stood := { row := dateNextRow, standIns := [], harness := (true, "7ee2ff485746bcb1b0f4fa27a3f1af95935cd48b8905de1428a6451349ec9c8b"), looks := false }, kinds := [], alts := [], laidByText := true, laidKinds := [.data], laidTests := true, laidLooks := .later }
def DateNextCardSaid : Prop := Claim7.holds Tryd.pinned (.plain (OpenSpec.ofChange dateNextSpec)) dateNextCard

/-- THE TIED CARD OF 'contangolaw05.DateMonths'. -/
def dateMonthsCard : Claim7 := { stood := { row := dateMonthsRow, standIns := [], harness := (true, "7ee2ff485746bcb1b0f4fa27a3f1af95935cd48b8905de1428a6451349ec9c8b"), looks := false }, kinds := [], alts := [], laidByText := true, laidKinds := [.data], laidTests := true, laidLooks := .later }
def DateMonthsCardSaid : Prop := Claim7.holds Tryd.pinned (.plain (OpenSpec.ofChange dateMonthsSpec)) dateMonthsCard

/-- THE SECOND FORM's CARD OF 'contangolaw05.DateOf'. -/
def dateOfUptoCard : Claim7 := { stood := { row := dateOfUptoRow, standIns := [], harness := (true, "7ee2ff485746bcb1b0f4fa27a3f1af95935cd48b8905de1428a6451349ec9c8b"), looks := false }, kinds := [], alts := [], laidByText := true, laidKinds := [.data], laidTests := true, laidLooks := .later }
def DateOfUptoCardSaid : Prop := Claim7.holds Tryd.pinned (.plain (OpenSpec.upto dateOfSpec)) dateOfUptoCard

/-- THE SECOND FORM's CARD OF 'contangolaw05.DateSplits'. -/
def dateSplitsUptoCard : Claim7 := { stood := { row := dateSplitsUptoRow, standIns := [], harness := (true, "7ee2ff485746bcb1b0f4fa27a3f1af95935cd48b8905de1428a6451349ec9c8b"), looks := false }, kinds := [], alts := [], laidByText := true, laidKinds := [.data], laidTests := true, laidLooks := .later }
def DateSplitsUptoCardSaid : Prop := Claim7.holds Tryd.pinned (.plain (OpenSpec.upto dateSplitsSpec)) dateSplitsUptoCard

/-- THE SECOND FORM's CARD OF 'contangolaw05.DateParses'. -/
def dateParsesUptoCard : Claim7 := { stood := { row := dateParsesUptoRow, standIns := [], harness := (true, "7ee2ff485746bcb1b0f4fa27a3f1af95935cd48b8905de1428a6451349ec9c8b"), looks := false }, kinds := [], alts := [], laidByText := true, laidKinds := [.data], laidTests := true, laidLooks := .later }
def DateParsesUptoCardSaid : Prop := Claim7.holds Tryd.pinned (.plain (OpenSpec.upto dateParsesSpec)) dateParsesUptoCard

/-- THE SECOND FORM's CARD OF 'contangolaw05.DateNth'. -/
def dateNthUptoCard : Claim7 := { stood := { row := dateNthUptoRow, standIns := [], harness := (true, "7ee2ff485746bcb1b0f4fa27a3f1af95935cd48b8905de1428a6451349ec9c8b"), looks := false }, kinds := [], alts := [], laidByText := true, laidKinds := [.data], laidTests := true, laidLooks := .later }
def DateNthUptoCardSaid : Prop := Claim7.holds Tryd.pinned (.plain (OpenSpec.upto dateNthSpec)) dateNthUptoCard

/-- THE SECOND FORM's CARD OF 'contangolaw05.DateNext'. -/
def dateNextUptoCard : Claim7 := { stood := { row := dateNextUptoRow, standIns := [], harness := (true, "7ee2ff485746bcb1b0f4fa27a3f1af95935cd48b8905de1428a6451349ec9c8b"), looks := false }, kinds := [], alts := [], laidByText := true, laidKinds := [.data], laidTests := true, laidLooks := .later }
def DateNextUptoCardSaid : Prop := Claim7.holds Tryd.pinned (.plain (OpenSpec.upto dateNextSpec)) dateNextUptoCard

/-- THE SECOND FORM's CARD OF 'contangolaw05.DateMonths'. -/
def dateMonthsUptoCard : Claim7 := { stood := { row := dateMonthsUptoRow, standIns := [], harness := (true, "7ee2ff485746bcb1b0f4fa27a3f1af95935cd48b8905de1428a6451349ec9c8b"), looks := false }, kinds := [], alts := [], laidByText := true, laidKinds := [.data], laidTests := true, laidLooks := .later }
def DateMonthsUptoCardSaid : Prop := Claim7.holds Tryd.pinned (.plain (OpenSpec.upto dateMonthsSpec)) dateMonthsUptoCard
end Rows
end Go.Proofs.YtmhlajgeihjaeaaDoor
