/-
  NARROWER THAN 'FOR EVERY INPUT', by the rows' own cells (each row's printed sentence says how): WorkdayTells: laid · WorkdayAdds: laid · WorkdayExpires: laid · WorkdayBack: laid · WorkdayCounts: laid · TopExpiry: laid.
  DERIVED. THE GIVEN ROWS OF THIS SEAT. 6 by the template 'for every input the law returns true; each argument reads behind the call as it read before'; 0 by the template 'total and deterministic' (their statements: YtgcefakbbmgbbaaDoorTotals.lean).
  GIVEN WITH THE SEED: the statements are not yours to turn. If you find one false, say at which input.
  Laid BY PROGRAM, IN A SANDBOX (cutbox-rows.mjs): the forced cells as the released guide's own fill.sh prints them over the translation 4e079cd034f82ea6… (all of the seat's roots in one cut). By AI agents, Wed Nov 11 2026. No macro, syntax, notation, axiom, sorry.
-/
import Derived.Test.YtgcefakbbmgbbaaDoorChecked
import GoSem.Claim
import GoSem.ClaimJoined
import GoSem.ClaimMapViews
import Derived.JoinedTies
import Derived.KernelRfl
namespace Go.Proofs.YtgcefakbbmgbbaaDoor
/- THE CELL 'sum', in the pinned program and in every row, IS THE sha256 OF THE DUMP (.gsa) THAT YtgcefakbbmgbbaaDoorProg.lean LOADS. Nothing in Lean hashes anything: it is a label: what it is worth is what the hold of that sum in a sandbox is worth. -/
noncomputable def Tryd.pinned : Pinned := { name := "ytgcefakbbmgbbaadoor", sum := "4e079cd034f82ea617b7b2f2c31220a21cce39a0da67d5ab206696a0d9e65ee8", checked := Tryd.checked }
namespace Rows
def none {H : Type} : Left H := { results := [], args := [] }

/- WHAT THE LISTED PACKAGE-LEVEL VARIABLES READ AS WHEN THE CALL BEGINS. Each datum BY PROGRAM (the guide's laid-datum.mjs) off the statement by which the dump's own 'gosem.cut.vars' lays the variable. In a bare row this is a premise. The card (YtgcefakbbmgbbaaDoorCards.lean) ties it to the program's text. -/
def laid_contango_date_long {H : Type} : DataW H := .agg [.lit (.int .i64 0), .lit (.int .i64 31), .lit (.int .i64 28), .lit (.int .i64 31), .lit (.int .i64 30), .lit (.int .i64 31), .lit (.int .i64 30), .lit (.int .i64 31), .lit (.int .i64 31), .lit (.int .i64 30), .lit (.int .i64 31), .lit (.int .i64 30), .lit (.int .i64 31)]

/-- 'contangolaw06.WorkdayTells': WHATEVER THE INPUT: true; the input reads as it did. -/
def workdayTellsSpec : ChangeSpec := { name := "workdayTells", fn := fun _ => fun
  | [d1, d2] => { results := [.lit (.bool true)], args := [d1, d2] }
  | _ => none }
def workdayTellsRow : OpenClaim := { program := "ytgcefakbbmgbbaadoor", sum := "4e079cd034f82ea617b7b2f2c31220a21cce39a0da67d5ab206696a0d9e65ee8", func := "contango/contangolaw06.WorkdayTells", spec := "workdayTells", unfollowed := true, recurses := true, named := ["contango/date.long"], apart := false, laid := [("contango/date.long", laid_contango_date_long)] }
def WorkdayTellsSaid : Prop := workdayTellsRow.holds Tryd.pinned (OpenSpec.ofChange workdayTellsSpec)

/-- ITS FALSE NEIGHBOUR: 'it returns false'. Refute it at one input. -/
def workdayTellsWrong : ChangeSpec := { name := "workdayTells", fn := fun _ => fun
  | [d1, d2] => { results := [.lit (.bool false)], args := [d1, d2] }
  | _ => none }
def WorkdayTellsWrongFalsely : Prop := workdayTellsRow.holds Tryd.pinned (OpenSpec.ofChange workdayTellsWrong)

/-- 'contangolaw06.WorkdayAdds': WHATEVER THE INPUT: true; the input reads as it did. -/
def workdayAddsSpec : ChangeSpec := { name := "workdayAdds", fn := fun _ => fun
  | [d1, d2, d3] => { results := [.lit (.bool true)], args := [d1, d2, d3] }
  | _ => none }
def workdayAddsRow : OpenClaim := { program := "ytgcefakbbmgbbaadoor", sum := "4e079cd034f82ea617b7b2f2c31220a21cce39a0da67d5ab206696a0d9e65ee8", func := "contango/contangolaw06.WorkdayAdds", spec := "workdayAdds", unfollowed := true, recurses := true, named := ["contango/date.long"], apart := false, laid := [("contango/date.long", laid_contango_date_long)] }
def WorkdayAddsSaid : Prop := workdayAddsRow.holds Tryd.pinned (OpenSpec.ofChange workdayAddsSpec)

/-- ITS FALSE NEIGHBOUR: 'it returns false'. Refute it at one input. -/
def workdayAddsWrong : ChangeSpec := { name := "workdayAdds", fn := fun _ => fun
  | [d1, d2, d3] => { results := [.lit (.bool false)], args := [d1, d2, d3] }
  | _ => none }
def WorkdayAddsWrongFalsely : Prop := workdayAddsRow.holds Tryd.pinned (OpenSpec.ofChange workdayAddsWrong)

/-- 'contangolaw06.WorkdayExpires': WHATEVER THE INPUT: true; the input reads as it did. -/
def workdayExpiresSpec : ChangeSpec := { name := "workdayExpires", fn := fun _ => fun
  | [d1, d2, d3] => { results := [.lit (.bool true)], args := [d1, d2, d3] }
  | _ => none }
def workdayExpiresRow : OpenClaim := { program := "ytgcefakbbmgbbaadoor", sum := "4e079cd034f82ea617b7b2f2c31220a21cce39a0da67d5ab206696a0d9e65ee8", func := "contango/contangolaw06.WorkdayExpires", spec := "workdayExpires", unfollowed := true, recurses := true, named := ["contango/date.long"], apart := false, laid := [("contango/date.long", laid_contango_date_long)] }
def WorkdayExpiresSaid : Prop := workdayExpiresRow.holds Tryd.pinned (OpenSpec.ofChange workdayExpiresSpec)

/-- ITS FALSE NEIGHBOUR: 'it returns false'. Refute it at one input. -/
def workdayExpiresWrong : ChangeSpec := { name := "workdayExpires", fn := fun _ => fun
  | [d1, d2, d3] => { results := [.lit (.bool false)], args := [d1, d2, d3] }
  | _ => none }
def WorkdayExpiresWrongFalsely : Prop := workdayExpiresRow.holds Tryd.pinned (OpenSpec.ofChange workdayExpiresWrong)

/-- 'contangolaw06.WorkdayBack': WHATEVER THE INPUT: true; the input reads as it did. -/
def workdayBackSpec : ChangeSpec := { name := "workdayBack", fn := fun _ => fun
  | [d1, d2, d3] => { results := [.lit (.bool true)], args := [d1, d2, d3] }
  | _ => none }
def workdayBackRow : OpenClaim := { program := "ytgcefakbbmgbbaadoor", sum := "4e079cd034f82ea617b7b2f2c31220a21cce39a0da67d5ab206696a0d9e65ee8", func := "contango/contangolaw06.WorkdayBack", spec := "workdayBack", unfollowed := true, recurses := true, named := ["contango/date.long"], apart := false, laid := [("contango/date.long", laid_contango_date_long)] }
def WorkdayBackSaid : Prop := workdayBackRow.holds Tryd.pinned (OpenSpec.ofChange workdayBackSpec)

/-- ITS FALSE NEIGHBOUR: 'it returns false'. Refute it at one input. -/
def workdayBackWrong : ChangeSpec := { name := "workdayBack", fn := fun _ => fun
  | [d1, d2, d3] => { results := [.lit (.bool false)], args := [d1, d2, d3] }
  | _ => none }
def WorkdayBackWrongFalsely : Prop := workdayBackRow.holds Tryd.pinned (OpenSpec.ofChange workdayBackWrong)

/-- 'contangolaw06.WorkdayCounts': WHATEVER THE INPUT: true; the input reads as it did. -/
def workdayCountsSpec : ChangeSpec := { name := "workdayCounts", fn := fun _ => fun
  | [d1, d2, d3] => { results := [.lit (.bool true)], args := [d1, d2, d3] }
  | _ => none }
def workdayCountsRow : OpenClaim := { program := "ytgcefakbbmgbbaadoor", sum := "4e079cd034f82ea617b7b2f2c31220a21cce39a0da67d5ab206696a0d9e65ee8", func := "contango/contangolaw06.WorkdayCounts", spec := "workdayCounts", unfollowed := true, recurses := true, named := ["contango/date.long"], apart := false, laid := [("contango/date.long", laid_contango_date_long)] }
def WorkdayCountsSaid : Prop := workdayCountsRow.holds Tryd.pinned (OpenSpec.ofChange workdayCountsSpec)

/-- ITS FALSE NEIGHBOUR: 'it returns false'. Refute it at one input. -/
def workdayCountsWrong : ChangeSpec := { name := "workdayCounts", fn := fun _ => fun
  | [d1, d2, d3] => { results := [.lit (.bool false)], args := [d1, d2, d3] }
  | _ => none }
def WorkdayCountsWrongFalsely : Prop := workdayCountsRow.holds Tryd.pinned (OpenSpec.ofChange workdayCountsWrong)

/-- 'contangotop.TopExpiry': WHATEVER THE INPUT: true; the input reads as it did. -/
def topExpirySpec : ChangeSpec := { name := "topExpiry", fn := fun _ => fun
  | [d1, d2, d3] => { results := [.lit (.bool true)], args := [d1, d2, d3] }
  | _ => none }
def topExpiryRow : OpenClaim := { program := "ytgcefakbbmgbbaadoor", sum := "4e079cd034f82ea617b7b2f2c31220a21cce39a0da67d5ab206696a0d9e65ee8", func := "contango/contangotop.TopExpiry", spec := "topExpiry", unfollowed := true, recurses := true, named := ["contango/date.long"], apart := false, laid := [("contango/date.long", laid_contango_date_long)] }
def TopExpirySaid : Prop := topExpiryRow.holds Tryd.pinned (OpenSpec.ofChange topExpirySpec)

/-- ITS FALSE NEIGHBOUR: 'it returns false'. Refute it at one input. -/
def topExpiryWrong : ChangeSpec := { name := "topExpiry", fn := fun _ => fun
  | [d1, d2, d3] => { results := [.lit (.bool false)], args := [d1, d2, d3] }
  | _ => none }
def TopExpiryWrongFalsely : Prop := topExpiryRow.holds Tryd.pinned (OpenSpec.ofChange topExpiryWrong)

/- THE SECOND FORM. 'bulk': how many values and letters a reading holds, each counted each time it is reached (what is shared counts as often as it is met; a slice's spare places count too). A statement '..UptoSaid' is the law's where the arguments, and the package variables that the reading takes, are together of bulk at most 1048576: NARROWER than '..Said'. Prove '..Said' where nothing that the law and all that it calls make is longer than what came in: it says more and counts as full. Else prove '..UptoSaid'. A law counts once. -/
mutual
def uptoBulk {H : Type} : DataW H → Nat
  | .lit (.string bytes) => bytes.length + 1
  | .lit _ => 1
  | .nil => 1
  | .ptr d => uptoBulk d + 1
  | .slice elems spare => uptoBulkAll elems + uptoBulkAll spare + 1
  | .agg parts => uptoBulkAll parts + 1
  | .iface _ d => uptoBulk d + 1
  | .map entries => uptoBulkEntries entries + 1
  | .held _ => 1
def uptoBulkAll {H : Type} : List (DataW H) → Nat
  | [] => 0
  | d :: r => uptoBulk d + uptoBulkAll r
def uptoBulkEntries {H : Type} : List (Lit × DataW H) → Nat
  | [] => 0
  | x :: r => uptoBulkEntry x + uptoBulkEntries r
def uptoBulkEntry {H : Type} : Lit × DataW H → Nat
  | (.string bytes, d) => bytes.length + uptoBulk d + 1
  | (_, d) => uptoBulk d + 1
 end
def uptoSmall : (H : Type) → List (DataW H) → Bool := fun _ ds => decide (uptoBulkAll ds ≤ 1048576)
def OpenSpec.upto (s : _root_.Go.ChangeSpec) : _root_.Go.OpenSpec := { _root_.Go.OpenSpec.ofChange s with cond := some uptoSmall }

/-- 'contangolaw06.WorkdayTells', WHERE WHAT IT READS IS OF BULK AT MOST 1048576: true; the input reads as it did. -/
def workdayTellsUptoRow : OpenClaim := { program := "ytgcefakbbmgbbaadoor", sum := "4e079cd034f82ea617b7b2f2c31220a21cce39a0da67d5ab206696a0d9e65ee8", func := "contango/contangolaw06.WorkdayTells", spec := "workdayTells", unfollowed := true, recurses := true, named := ["contango/date.long"], apart := false, laid := [("contango/date.long", laid_contango_date_long)], narrowed := true }
def WorkdayTellsUptoSaid : Prop := workdayTellsUptoRow.holds Tryd.pinned (OpenSpec.upto workdayTellsSpec)

/-- 'contangolaw06.WorkdayAdds', WHERE WHAT IT READS IS OF BULK AT MOST 1048576: true; the input reads as it did. -/
def workdayAddsUptoRow : OpenClaim := { program := "ytgcefakbbmgbbaadoor", sum := "4e079cd034f82ea617b7b2f2c31220a21cce39a0da67d5ab206696a0d9e65ee8", func := "contango/contangolaw06.WorkdayAdds", spec := "workdayAdds", unfollowed := true, recurses := true, named := ["contango/date.long"], apart := false, laid := [("contango/date.long", laid_contango_date_long)], narrowed := true }
def WorkdayAddsUptoSaid : Prop := workdayAddsUptoRow.holds Tryd.pinned (OpenSpec.upto workdayAddsSpec)

/-- 'contangolaw06.WorkdayExpires', WHERE WHAT IT READS IS OF BULK AT MOST 1048576: true; the input reads as it did. -/
def workdayExpiresUptoRow : OpenClaim := { program := "ytgcefakbbmgbbaadoor", sum := "4e079cd034f82ea617b7b2f2c31220a21cce39a0da67d5ab206696a0d9e65ee8", func := "contango/contangolaw06.WorkdayExpires", spec := "workdayExpires", unfollowed := true, recurses := true, named := ["contango/date.long"], apart := false, laid := [("contango/date.long", laid_contango_date_long)], narrowed := true }
def WorkdayExpiresUptoSaid : Prop := workdayExpiresUptoRow.holds Tryd.pinned (OpenSpec.upto workdayExpiresSpec)

/-- 'contangolaw06.WorkdayBack', WHERE WHAT IT READS IS OF BULK AT MOST 1048576: true; the input reads as it did. -/
def workdayBackUptoRow : OpenClaim := { program := "ytgcefakbbmgbbaadoor", sum := "4e079cd034f82ea617b7b2f2c31220a21cce39a0da67d5ab206696a0d9e65ee8", func := "contango/contangolaw06.WorkdayBack", spec := "workdayBack", unfollowed := true, recurses := true, named := ["contango/date.long"], apart := false, laid := [("contango/date.long", laid_contango_date_long)], narrowed := true }
def WorkdayBackUptoSaid : Prop := workdayBackUptoRow.holds Tryd.pinned (OpenSpec.upto workdayBackSpec)

/-- 'contangolaw06.WorkdayCounts', WHERE WHAT IT READS IS OF BULK AT MOST 1048576: true; the input reads as it did. -/
def workdayCountsUptoRow : OpenClaim := { program := "ytgcefakbbmgbbaadoor", sum := "4e079cd034f82ea617b7b2f2c31220a21cce39a0da67d5ab206696a0d9e65ee8", func := "contango/contangolaw06.WorkdayCounts", spec := "workdayCounts", unfollowed := true, recurses := true, named := ["contango/date.long"], apart := false, laid := [("contango/date.long", laid_contango_date_long)], narrowed := true }
def WorkdayCountsUptoSaid : Prop := workdayCountsUptoRow.holds Tryd.pinned (OpenSpec.upto workdayCountsSpec)

/-- 'contangotop.TopExpiry', WHERE WHAT IT READS IS OF BULK AT MOST 1048576: true; the input reads as it did. -/
def topExpiryUptoRow : OpenClaim := { program := "ytgcefakbbmgbbaadoor", sum := "4e079cd034f82ea617b7b2f2c31220a21cce39a0da67d5ab206696a0d9e65ee8", func := "contango/contangotop.TopExpiry", spec := "topExpiry", unfollowed := true, recurses := true, named := ["contango/date.long"], apart := false, laid := [("contango/date.long", laid_contango_date_long)], narrowed := true }
def TopExpiryUptoSaid : Prop := topExpiryUptoRow.holds Tryd.pinned (OpenSpec.upto topExpirySpec)

end Rows
end Go.Proofs.YtgcefakbbmgbbaaDoor
