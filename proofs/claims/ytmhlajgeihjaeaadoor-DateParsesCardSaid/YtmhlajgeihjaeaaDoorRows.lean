/-
  NARROWER THAN 'FOR EVERY INPUT', by the rows' own cells (each row's printed sentence says how): DateOf: laid · DateSplits: laid · DateParses: laid · DateNth: laid · DateNext: laid · DateMonths: laid.
  DERIVED. THE GIVEN ROWS OF THIS SEAT. 6 by the template 'for every input the law returns true; each argument reads behind the call as it read before'; 0 by the template 'total and deterministic' (their statements: YtmhlajgeihjaeaaDoorTotals.lean).
  GIVEN WITH THE SEED: the statements are not yours to turn. If you find one false, say at which input.
  Laid BY PROGRAM, IN A SANDBOX (cutbox-rows.mjs): the forced cells as the released guide's own fill.sh prints them over the translation 0c66e47556ee40ca… (all of the seat's roots in one cut). By AI agents, Wed Nov 11 2026. No macro, syntax, notation, axiom, sorry.
-/
import Derived.Test.YtmhlajgeihjaeaaDoorChecked
import GoSem.Claim
import GoSem.ClaimJoined
import GoSem.ClaimMapViews
import Derived.JoinedTies
import Derived.KernelRfl
namespace Go.Proofs.YtmhlajgeihjaeaaDoor
/- THE CELL 'sum', in the pinned program and in every row, IS THE sha256 OF THE DUMP (.gsa) THAT YtmhlajgeihjaeaaDoorProg.lean LOADS. Nothing in Lean hashes anything: it is a label: what it is worth is what the hold of that sum in a sandbox is worth. -/
noncomputable def Tryd.pinned : Pinned := { name := "ytmhlajgeihjaeaadoor", sum := "0c66e47556ee40cad306a53abd9b01421e13589de125920545cba224ea4fa023", checked := Tryd.checked }
namespace Rows
def none {H : Type} : Left H := { results := [], args := [] }

/- WHAT THE LISTED PACKAGE-LEVEL VARIABLES READ AS WHEN THE CALL BEGINS. Each datum BY PROGRAM (the guide's laid-datum.mjs) off the statement by which the dump's own 'gosem.cut.vars' lays the variable. In a bare row this is a premise. The card (YtmhlajgeihjaeaaDoorCards.lean) ties it to the program's text. -/
def laid_contango_date_long {H : Type} : DataW H := .agg [.lit (.int .i64 0), .lit (.int .i64 31), .lit (.int .i64 28), .lit (.int .i64 31), .lit (.int .i64 30), .lit (.int .i64 31), .lit (.int .i64 30), .lit (.int .i64 31), .lit (.int .i64 31), .lit (.int .i64 30), .lit (.int .i64 31), .lit (.int .i64 30), .lit (.int .i64 31)]

/-- 'contangolaw05.DateOf': WHATEVER THE INPUT: true; the input reads as it did. -/
def dateOfSpec : ChangeSpec := { name := "dateOf", fn := fun _ => fun
  | [d1, d2, d3] => { results := [.lit (.bool true)], args := [d1, d2, d3] }
  | _ => none }
def dateOfRow : OpenClaim := { program := "ytmhlajgeihjaeaadoor", sum := "0c66e47556ee40cad306a53abd9b01421e13589de125920545cba224ea4fa023", func := "contango/contangolaw05.DateOf", spec := "dateOf", unfollowed := true, recurses := true, named := ["contango/date.long"], apart := false, laid := [("contango/date.long", laid_contango_date_long)] }
def DateOfSaid : Prop := dateOfRow.holds Tryd.pinned (OpenSpec.ofChange dateOfSpec)

/-- ITS FALSE NEIGHBOUR: 'it returns false'. Refute it at one input. -/
def dateOfWrong : ChangeSpec := { name := "dateOf", fn := fun _ => fun
  | [d1, d2, d3] => { results := [.lit (.bool false)], args := [d1, d2, d3] }
  | _ => none }
def DateOfWrongFalsely : Prop := dateOfRow.holds Tryd.pinned (OpenSpec.ofChange dateOfWrong)

/-- 'contangolaw05.DateSplits': WHATEVER THE INPUT: true; the input reads as it did. -/
def dateSplitsSpec : ChangeSpec := { name := "dateSplits", fn := fun _ => fun
  | [d] => { results := [.lit (.bool true)], args := [d] }
  | _ => none }
def dateSplitsRow : OpenClaim := { program := "ytmhlajgeihjaeaadoor", sum := "0c66e47556ee40cad306a53abd9b01421e13589de125920545cba224ea4fa023", func := "contango/contangolaw05.DateSplits", spec := "dateSplits", unfollowed := true, recurses := true, named := ["contango/date.long"], apart := false, laid := [("contango/date.long", laid_contango_date_long)] }
def DateSplitsSaid : Prop := dateSplitsRow.holds Tryd.pinned (OpenSpec.ofChange dateSplitsSpec)

/-- ITS FALSE NEIGHBOUR: 'it returns false'. Refute it at one input. -/
def dateSplitsWrong : ChangeSpec := { name := "dateSplits", fn := fun _ => fun
  | [d] => { results := [.lit (.bool false)], args := [d] }
  | _ => none }
def DateSplitsWrongFalsely : Prop := dateSplitsRow.holds Tryd.pinned (OpenSpec.ofChange dateSplitsWrong)

/-- 'contangolaw05.DateParses': WHATEVER THE INPUT: true; the input reads as it did. -/
def dateParsesSpec : ChangeSpec := { name := "dateParses", fn := fun _ => fun
  | [d] => { results := [.lit (.bool true)], args := [d] }
  | _ => none }
def dateParsesRow : OpenClaim := { program := "ytmhlajgeihjaeaadoor", sum := "0c66e47556ee40cad306a53abd9b01421e13589de125920545cba224ea4fa023", func := "contango/contangolaw05.DateParses", spec := "dateParses", unfollowed := true, recurses := true, named := ["contango/date.long"], apart := false, laid := [("contango/date.long", laid_contango_date_long)] }
def DateParsesSaid : Prop := dateParsesRow.holds Tryd.pinned (OpenSpec.ofChange dateParsesSpec)

/-- ITS FALSE NEIGHBOUR: 'it returns false'. Refute it at one input. -/
def dateParsesWrong : ChangeSpec := { name := "dateParses", fn := fun _ => fun
  | [d] => { results := [.lit (.bool false)], args := [d] }
  | _ => none }
def DateParsesWrongFalsely : Prop := dateParsesRow.holds Tryd.pinned (OpenSpec.ofChange dateParsesWrong)

/-- 'contangolaw05.DateNth': WHATEVER THE INPUT: true; the input reads as it did. -/
def dateNthSpec : ChangeSpec := { name := "dateNth", fn := fun _ => fun
  | [d1, d2, d3] => { results := [.lit (.bool true)], args := [d1, d2, d3] }
  | _ => none }
def dateNthRow : OpenClaim := { program := "ytmhlajgeihjaeaadoor", sum := "0c66e47556ee40cad306a53abd9b01421e13589de125920545cba224ea4fa023", func := "contango/contangolaw05.DateNth", spec := "dateNth", unfollowed := true, recurses := true, named := ["contango/date.long"], apart := false, laid := [("contango/date.long", laid_contango_date_long)] }
def DateNthSaid : Prop := dateNthRow.holds Tryd.pinned (OpenSpec.ofChange dateNthSpec)

/-- ITS FALSE NEIGHBOUR: 'it returns false'. Refute it at one input. -/
def dateNthWrong : ChangeSpec := { name := "dateNth", fn := fun _ => fun
  | [d1, d2, d3] => { results := [.lit (.bool false)], args := [d1, d2, d3] }
  | _ => none }
def DateNthWrongFalsely : Prop := dateNthRow.holds Tryd.pinned (OpenSpec.ofChange dateNthWrong)

/-- 'contangolaw05.DateNext': WHATEVER THE INPUT: true; the input reads as it did. -/
def dateNextSpec : ChangeSpec := { name := "dateNext", fn := fun _ => fun
  | [d] => { results := [.lit (.bool true)], args := [d] }
  | _ => none }
def dateNextRow : OpenClaim := { program := "ytmhlajgeihjaeaadoor", sum := "0c66e47556ee40cad306a53abd9b01421e13589de125920545cba224ea4fa023", func := "contango/contangolaw05.DateNext", spec := "dateNext", unfollowed := true, recurses := true, named := ["contango/date.long"], apart := false, laid := [("contango/date.long", laid_contango_date_long)] }
def DateNextSaid : Prop := dateNextRow.holds Tryd.pinned (OpenSpec.ofChange dateNextSpec)

/-- ITS FALSE NEIGHBOUR: 'it returns false'. Refute it at one input. -/
def dateNextWrong : ChangeSpec := { name := "dateNext", fn := fun _ => fun
  | [d] => { results := [.lit (.bool false)], args := [d] }
  | _ => none }
def DateNextWrongFalsely : Prop := dateNextRow.holds Tryd.pinned (OpenSpec.ofChange dateNextWrong)

/-- 'contangolaw05.DateMonths': WHATEVER THE INPUT: true; the input reads as it did. -/
def dateMonthsSpec : ChangeSpec := { name := "dateMonths", fn := fun _ => fun
  | [d1, d2] => { results := [.lit (.bool true)], args := [d1, d2] }
  | _ => none }
def dateMonthsRow : OpenClaim := { program := "ytmhlajgeihjaeaadoor", sum := "0c66e47556ee40cad306a53abd9b01421e13589de125920545cba224ea4fa023", func := "contango/contangolaw05.DateMonths", spec := "dateMonths", unfollowed := true, recurses := true, named := ["contango/date.long"], apart := false, laid := [("contango/date.long", laid_contango_date_long)] }
def DateMonthsSaid : Prop := dateMonthsRow.holds Tryd.pinned (OpenSpec.ofChange dateMonthsSpec)

/-- ITS FALSE NEIGHBOUR: 'it returns false'. Refute it at one input. -/
def dateMonthsWrong : ChangeSpec := { name := "dateMonths", fn := fun _ => fun
  | [d1, d2] => { results := [.lit (.bool false)], args := [d1, d2] }
  | _ => none }
def DateMonthsWrongFalsely : Prop := dateMonthsRow.holds Tryd.pinned (OpenSpec.ofChange dateMonthsWrong)

/- THE SECOND FORM. 'bulk': how many values and letters a reading holds, each counted each time it is reached (what is shared counts as often as it is met; a slice's spare places count too). A statement '..UptoSaid' is the law's where the arguments, and the package variables that the reading takes, are together of bulk at most 1048576: NARROWER than '..Said'. Prove '..Said' where nothing that the law and all that it calls make is longer than what came in: it says more and counts as full. Else prove '..UptoSaid'. A law counts once. -/
mutual
def uptoBulk {H : Type} : DataW H → Nat
  | .lit (.string bytes) => bytes.length + 1
  | .lit _ => 1
  | .nil => 1
  | .ptr d => uptoBulk d + 1
  | .slice elems spare => uptoBulkAll elems + uptoBulkAll spare + 1
  | .agg parts => uptoBulkAll parts + 1
  | .iface _ d => uptoBulk d + 1
  | .map entries => uptoBulkEntries entries + 1
  | .held _ => 1
def uptoBulkAll {H : Type} : List (DataW H) → Nat
  | [] => 0
  | d :: r => uptoBulk d + uptoBulkAll r
def uptoBulkEntries {H : Type} : List (Lit × DataW H) → Nat
  | [] => 0
  | x :: r => uptoBulkEntry x + uptoBulkEntries r
def uptoBulkEntry {H : Type} : Lit × DataW H → Nat
  | (.string bytes, d) => bytes.length + uptoBulk d + 1
  | (_, d) => uptoBulk d + 1
 end
def uptoSmall : (H : Type) → List (DataW H) → Bool := fun _ ds => decide (uptoBulkAll ds ≤ 1048576)
def OpenSpec.upto (s : _root_.Go.ChangeSpec) : _root_.Go.OpenSpec := { _root_.Go.OpenSpec.ofChange s with cond := some uptoSmall }

/-- 'contangolaw05.DateOf', WHERE WHAT IT READS IS OF BULK AT MOST 1048576: true; the input reads as it did. -/
def dateOfUptoRow : OpenClaim := { program := "ytmhlajgeihjaeaadoor", sum := "0c66e47556ee40cad306a53abd9b01421e13589de125920545cba224ea4fa023", func := "contango/contangolaw05.DateOf", spec := "dateOf", unfollowed := true, recurses := true, named := ["contango/date.long"], apart := false, laid := [("contango/date.long", laid_contango_date_long)], narrowed := true }
def DateOfUptoSaid : Prop := dateOfUptoRow.holds Tryd.pinned (OpenSpec.upto dateOfSpec)

/-- 'contangolaw05.DateSplits', WHERE WHAT IT READS IS OF BULK AT MOST 1048576: true; the input reads as it did. -/
def dateSplitsUptoRow : OpenClaim := { program := "ytmhlajgeihjaeaadoor", sum := "0c66e47556ee40cad306a53abd9b01421e13589de125920545cba224ea4fa023", func := "contango/contangolaw05.DateSplits", spec := "dateSplits", unfollowed := true, recurses := true, named := ["contango/date.long"], apart := false, laid := [("contango/date.long", laid_contango_date_long)], narrowed := true }
def DateSplitsUptoSaid : Prop := dateSplitsUptoRow.holds Tryd.pinned (OpenSpec.upto dateSplitsSpec)

/-- 'contangolaw05.DateParses', WHERE WHAT IT READS IS OF BULK AT MOST 1048576: true; the input reads as it did. -/
def dateParsesUptoRow : OpenClaim := { program := "ytmhlajgeihjaeaadoor", sum := "0c66e47556ee40cad306a53abd9b01421e13589de125920545cba224ea4fa023", func := "contango/contangolaw05.DateParses", spec := "dateParses", unfollowed := true, recurses := true, named := ["contango/date.long"], apart := false, laid := [("contango/date.long", laid_contango_date_long)], narrowed := true }
def DateParsesUptoSaid : Prop := dateParsesUptoRow.holds Tryd.pinned (OpenSpec.upto dateParsesSpec)

/-- 'contangolaw05.DateNth', WHERE WHAT IT READS IS OF BULK AT MOST 1048576: true; the input reads as it did. -/
def dateNthUptoRow : OpenClaim := { program := "ytmhlajgeihjaeaadoor", sum := "0c66e47556ee40cad306a53abd9b01421e13589de125920545cba224ea4fa023", func := "contango/contangolaw05.DateNth", spec := "dateNth", unfollowed := true, recurses := true, named := ["contango/date.long"], apart := false, laid := [("contango/date.long", laid_contango_date_long)], narrowed := true }
def DateNthUptoSaid : Prop := dateNthUptoRow.holds Tryd.pinned (OpenSpec.upto dateNthSpec)

/-- 'contangolaw05.DateNext', WHERE WHAT IT READS IS OF BULK AT MOST 1048576: true; the input reads as it did. -/
def dateNextUptoRow : OpenClaim := { program := "ytmhlajgeihjaeaadoor", sum := "0c66e47556ee40cad306a53abd9b01421e13589de125920545cba224ea4fa023", func := "contango/contangolaw05.DateNext", spec := "dateNext", unfollowed := true, recurses := true, named := ["contango/date.long"], apart := false, laid := [("contango/date.long", laid_contango_date_long)], narrowed := true }
def DateNextUptoSaid : Prop := dateNextUptoRow.holds Tryd.pinned (OpenSpec.upto dateNextSpec)

/-- 'contangolaw05.DateMonths', WHERE WHAT IT READS IS OF BULK AT MOST 1048576: true; the input reads as it did. -/
def dateMonthsUptoRow : OpenClaim := { program := "ytmhlajgeihjaeaadoor", sum := "0c66e47556ee40cad306a53abd9b01421e13589de125920545cba224ea4fa023", func := "contango/contangolaw05.DateMonths", spec := "dateMonths", unfollowed := true, recurses := true, named := ["contango/date.long"], apart := false, laid := [("contango/date.long", laid_contango_date_long)], narrowed := true }
def DateMonthsUptoSaid : Prop := dateMonthsUptoRow.holds Tryd.pinned (OpenSpec.upto dateMonthsSpec)

end Rows
end Go.Proofs.YtmhlajgeihjaeaaDoor
