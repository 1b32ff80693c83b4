/-
  No cell of these rows narrows 'for every input' (looked for: loops, veiled, ifaces, maps, wideKeys, modest, calm, conditions, laid).
  DERIVED. THE GIVEN ROWS OF THIS SEAT. 5 by the template 'for every input the law returns true; each argument reads behind the call as it read before'; 0 by the template 'total and deterministic' (their statements: YtfmnillnmlijkaaTotals.lean).
  GIVEN WITH THE SEED: the statements are not yours to turn. If you find one false, say at which input.
  Laid BY PROGRAM, IN A SANDBOX (cutbox-rows.mjs): the forced cells as the released guide's own fill.sh prints them over the translation 509d7edcc51adbe3… (all of the seat's roots in one cut). By AI agents, Wed Nov 11 2026. No macro, syntax, notation, axiom, sorry.
-/
import Derived.Test.YtfmnillnmlijkaaChecked
import GoSem.Claim
import GoSem.ClaimJoined
import GoSem.ClaimMapViews
import Derived.JoinedTies
import Derived.KernelRfl
namespace Go.Proofs.Ytfmnillnmlijkaa
/- THE CELL 'sum', in the pinned program and in every row, IS THE sha256 OF THE DUMP (.gsa) THAT YtfmnillnmlijkaaProg.lean LOADS. Nothing in Lean hashes anything: it is a label: what it is worth is what the hold of that sum in a sandbox is worth. -/
noncomputable def Try.pinned : Pinned := { name := "ytfmnillnmlijkaa", sum := "509d7edcc51adbe3b9ea9e0ecee702437633661c9694eef7c12bf93653a5c9b0", checked := Try.checked }
namespace Rows
def none {H : Type} : Left H := { results := [], args := [] }

/-- 'contangolaw40.FundSizes': WHATEVER THE INPUT: true; the input reads as it did. -/
def fundSizesSpec : ChangeSpec := { name := "fundSizes", fn := fun _ => fun
  | [d1, d2, d3] => { results := [.lit (.bool true)], args := [d1, d2, d3] }
  | _ => none }
def fundSizesRow : OpenClaim := { program := "ytfmnillnmlijkaa", sum := "509d7edcc51adbe3b9ea9e0ecee702437633661c9694eef7c12bf93653a5c9b0", func := "contango/contangolaw40.FundSizes", spec := "fundSizes", unfollowed := true, recurses := true, named := ["math/bits.divideError", "math/bits.overflowError"], apart := false }
def FundSizesSaid : Prop := fundSizesRow.holds Try.pinned (OpenSpec.ofChange fundSizesSpec)

/-- ITS FALSE NEIGHBOUR: 'it returns false'. Refute it at one input. -/
def fundSizesWrong : ChangeSpec := { name := "fundSizes", fn := fun _ => fun
  | [d1, d2, d3] => { results := [.lit (.bool false)], args := [d1, d2, d3] }
  | _ => none }
def FundSizesWrongFalsely : Prop := fundSizesRow.holds Try.pinned (OpenSpec.ofChange fundSizesWrong)

/-- 'contangolaw40.FundParts': WHATEVER THE INPUT: true; the input reads as it did. -/
def fundPartsSpec : ChangeSpec := { name := "fundParts", fn := fun _ => fun
  | [d1, d2, d3] => { results := [.lit (.bool true)], args := [d1, d2, d3] }
  | _ => none }
def fundPartsRow : OpenClaim := { program := "ytfmnillnmlijkaa", sum := "509d7edcc51adbe3b9ea9e0ecee702437633661c9694eef7c12bf93653a5c9b0", func := "contango/contangolaw40.FundParts", spec := "fundParts", unfollowed := true, recurses := true, named := ["math/bits.divideError", "math/bits.overflowError"], apart := false }
def FundPartsSaid : Prop := fundPartsRow.holds Try.pinned (OpenSpec.ofChange fundPartsSpec)

/-- ITS FALSE NEIGHBOUR: 'it returns false'. Refute it at one input. -/
def fundPartsWrong : ChangeSpec := { name := "fundParts", fn := fun _ => fun
  | [d1, d2, d3] => { results := [.lit (.bool false)], args := [d1, d2, d3] }
  | _ => none }
def FundPartsWrongFalsely : Prop := fundPartsRow.holds Try.pinned (OpenSpec.ofChange fundPartsWrong)

/-- 'contangolaw40.FundChanges': WHATEVER THE INPUT: true; the input reads as it did. -/
def fundChangesSpec : ChangeSpec := { name := "fundChanges", fn := fun _ => fun
  | [d1, d2, d3] => { results := [.lit (.bool true)], args := [d1, d2, d3] }
  | _ => none }
def fundChangesRow : OpenClaim := { program := "ytfmnillnmlijkaa", sum := "509d7edcc51adbe3b9ea9e0ecee702437633661c9694eef7c12bf93653a5c9b0", func := "contango/contangolaw40.FundChanges", spec := "fundChanges", unfollowed := true, recurses := true, named := ["math/bits.divideError", "math/bits.overflowError"], apart := false }
def FundChangesSaid : Prop := fundChangesRow.holds Try.pinned (OpenSpec.ofChange fundChangesSpec)

/-- ITS FALSE NEIGHBOUR: 'it returns false'. Refute it at one input. -/
def fundChangesWrong : ChangeSpec := { name := "fundChanges", fn := fun _ => fun
  | [d1, d2, d3] => { results := [.lit (.bool false)], args := [d1, d2, d3] }
  | _ => none }
def FundChangesWrongFalsely : Prop := fundChangesRow.holds Try.pinned (OpenSpec.ofChange fundChangesWrong)

/-- 'contangolaw40.FundAll': WHATEVER THE INPUT: true; the input reads as it did. -/
def fundAllSpec : ChangeSpec := { name := "fundAll", fn := fun _ => fun
  | [d1, d2, d3] => { results := [.lit (.bool true)], args := [d1, d2, d3] }
  | _ => none }
def fundAllRow : OpenClaim := { program := "ytfmnillnmlijkaa", sum := "509d7edcc51adbe3b9ea9e0ecee702437633661c9694eef7c12bf93653a5c9b0", func := "contango/contangolaw40.FundAll", spec := "fundAll", unfollowed := true, recurses := true, named := ["math/bits.divideError", "math/bits.overflowError"], apart := false }
def FundAllSaid : Prop := fundAllRow.holds Try.pinned (OpenSpec.ofChange fundAllSpec)

/-- ITS FALSE NEIGHBOUR: 'it returns false'. Refute it at one input. -/
def fundAllWrong : ChangeSpec := { name := "fundAll", fn := fun _ => fun
  | [d1, d2, d3] => { results := [.lit (.bool false)], args := [d1, d2, d3] }
  | _ => none }
def FundAllWrongFalsely : Prop := fundAllRow.holds Try.pinned (OpenSpec.ofChange fundAllWrong)

/-- 'contangolaw40.FundPays': WHATEVER THE INPUT: true; the input reads as it did. -/
def fundPaysSpec : ChangeSpec := { name := "fundPays", fn := fun _ => fun
  | [d1, d2, d3] => { results := [.lit (.bool true)], args := [d1, d2, d3] }
  | _ => none }
def fundPaysRow : OpenClaim := { program := "ytfmnillnmlijkaa", sum := "509d7edcc51adbe3b9ea9e0ecee702437633661c9694eef7c12bf93653a5c9b0", func := "contango/contangolaw40.FundPays", spec := "fundPays", unfollowed := true, recurses := true, named := ["math/bits.divideError", "math/bits.overflowError"], apart := false }
def FundPaysSaid : Prop := fundPaysRow.holds Try.pinned (OpenSpec.ofChange fundPaysSpec)

/-- ITS FALSE NEIGHBOUR: 'it returns false'. Refute it at one input. -/
def fundPaysWrong : ChangeSpec := { name := "fundPays", fn := fun _ => fun
  | [d1, d2, d3] => { results := [.lit (.bool false)], args := [d1, d2, d3] }
  | _ => none }
def FundPaysWrongFalsely : Prop := fundPaysRow.holds Try.pinned (OpenSpec.ofChange fundPaysWrong)

/- THE SECOND FORM. 'bulk': how many values and letters a reading holds, each counted each time it is reached (what is shared counts as often as it is met; a slice's spare places count too). A statement '..UptoSaid' is the law's where the arguments, and the package variables that the reading takes, are together of bulk at most 1048576: NARROWER than '..Said'. Prove '..Said' where nothing that the law and all that it calls make is longer than what came in: it says more and counts as full. Else prove '..UptoSaid'. A law counts once. -/
mutual
def uptoBulk {H : Type} : DataW H → Nat
  | .lit (.string bytes) => bytes.length + 1
  | .lit _ => 1
  | .nil => 1
  | .ptr d => uptoBulk d + 1
  | .slice elems spare => uptoBulkAll elems + uptoBulkAll spare + 1
  | .agg parts => uptoBulkAll parts + 1
  | .iface _ d => uptoBulk d + 1
  | .map entries => uptoBulkEntries entries + 1
  | .held _ => 1
def uptoBulkAll {H : Type} : List (DataW H) → Nat
  | [] => 0
  | d :: r => uptoBulk d + uptoBulkAll r
def uptoBulkEntries {H : Type} : List (Lit × DataW H) → Nat
  | [] => 0
  | x :: r => uptoBulkEntry x + uptoBulkEntries r
def uptoBulkEntry {H : Type} : Lit × DataW H → Nat
  | (.string bytes, d) => bytes.length + uptoBulk d + 1
  | (_, d) => uptoBulk d + 1
 end
def uptoSmall : (H : Type) → List (DataW H) → Bool := fun _ ds => decide (uptoBulkAll ds ≤ 1048576)
def OpenSpec.upto (s : _root_.Go.ChangeSpec) : _root_.Go.OpenSpec := { _root_.Go.OpenSpec.ofChange s with cond := some uptoSmall }

/-- 'contangolaw40.FundSizes', WHERE WHAT IT READS IS OF BULK AT MOST 1048576: true; the input reads as it did. -/
def fundSizesUptoRow : OpenClaim := { program := "ytfmnillnmlijkaa", sum := "509d7edcc51adbe3b9ea9e0ecee702437633661c9694eef7c12bf93653a5c9b0", func := "contango/contangolaw40.FundSizes", spec := "fundSizes", unfollowed := true, recurses := true, named := ["math/bits.divideError", "math/bits.overflowError"], apart := false, narrowed := true }
def FundSizesUptoSaid : Prop := fundSizesUptoRow.holds Try.pinned (OpenSpec.upto fundSizesSpec)

/-- 'contangolaw40.FundParts', WHERE WHAT IT READS IS OF BULK AT MOST 1048576: true; the input reads as it did. -/
def fundPartsUptoRow : OpenClaim := { program := "ytfmnillnmlijkaa", sum := "509d7edcc51adbe3b9ea9e0ecee702437633661c9694eef7c12bf93653a5c9b0", func := "contango/contangolaw40.FundParts", spec := "fundParts", unfollowed := true, recurses := true, named := ["math/bits.divideError", "math/bits.overflowError"], apart := false, narrowed := true }
def FundPartsUptoSaid : Prop := fundPartsUptoRow.holds Try.pinned (OpenSpec.upto fundPartsSpec)

/-- 'contangolaw40.FundChanges', WHERE WHAT IT READS IS OF BULK AT MOST 1048576: true; the input reads as it did. -/
def fundChangesUptoRow : OpenClaim := { program := "ytfmnillnmlijkaa", sum := "509d7edcc51adbe3b9ea9e0ecee702437633661c9694eef7c12bf93653a5c9b0", func := "contango/contangolaw40.FundChanges", spec := "fundChanges", unfollowed := true, recurses := true, named := ["math/bits.divideError", "math/bits.overflowError"], apart := false, narrowed := true }
def FundChangesUptoSaid : Prop := fundChangesUptoRow.holds Try.pinned (OpenSpec.upto fundChangesSpec)

/-- 'contangolaw40.FundAll', WHERE WHAT IT READS IS OF BULK AT MOST 1048576: true; the input reads as it did. -/
def fundAllUptoRow : OpenClaim := { program := "ytfmnillnmlijkaa", sum := "509d7edcc51adbe3b9ea9e0ecee702437633661c9694eef7c12bf93653a5c9b0", func := "contango/contangolaw40.FundAll", spec := "fundAll", unfollowed := true, recurses := true, named := ["math/bits.divideError", "math/bits.overflowError"], apart := false, narrowed := true }
def FundAllUptoSaid : Prop := fundAllUptoRow.holds Try.pinned (OpenSpec.upto fundAllSpec)

/-- 'contangolaw40.FundPays', WHERE WHAT IT READS IS OF BULK AT MOST 1048576: true; the input reads as it did. -/
def fundPaysUptoRow : OpenClaim := { program := "ytfmnillnmlijkaa", sum := "509d7edcc51adbe3b9ea9e0ecee702437633661c9694eef7c12bf93653a5c9b0", func := "contango/contangolaw40.FundPays", spec := "fundPays", unfollowed := true, recurses := true, named := ["math/bits.divideError", "math/bits.overflowError"], apart := false, narrowed := true }
def FundPaysUptoSaid : Prop := fundPaysUptoRow.holds Try.pinned (OpenSpec.upto fundPaysSpec)

end Rows
end Go.Proofs.Ytfmnillnmlijkaa
