/-
  No cell of these rows narrows 'for every input' (looked for: loops, veiled, ifaces, maps, wideKeys, modest, calm, conditions, laid).
  DERIVED. THE GIVEN ROWS OF THIS SEAT. 6 by the template 'for every input the law returns true; each argument reads behind the call as it read before'; 0 by the template 'total and deterministic' (their statements: YtfogpifjpnonnaaTotals.lean).
  GIVEN WITH THE SEED: the statements are not yours to turn. If you find one false, say at which input.
  Laid BY PROGRAM, IN A SANDBOX (cutbox-rows.mjs): the forced cells as the released guide's own fill.sh prints them over the translation 2664e96df90f1349… (all of the seat's roots in one cut). By AI agents, Wed Nov 11 2026. No macro, syntax, notation, axiom, sorry.
-/
import Derived.Test.YtfogpifjpnonnaaChecked
import GoSem.Claim
import GoSem.ClaimJoined
import GoSem.ClaimMapViews
import Derived.JoinedTies
import Derived.KernelRfl
namespace Go.Proofs.Ytfogpifjpnonnaa
/- THE CELL 'sum', in the pinned program and in every row, IS THE sha256 OF THE DUMP (.gsa) THAT YtfogpifjpnonnaaProg.lean LOADS. Nothing in Lean hashes anything: it is a label: what it is worth is what the hold of that sum in a sandbox is worth. -/
noncomputable def Try.pinned : Pinned := { name := "ytfogpifjpnonnaa", sum := "2664e96df90f134985f4b4a991b6559af4a91c940c3f6ce89af47c94a7ec3e8f", checked := Try.checked }
namespace Rows
def none {H : Type} : Left H := { results := [], args := [] }

/-- 'contangolaw47.WaterfallTakes': WHATEVER THE INPUT: true; the input reads as it did. -/
def waterfallTakesSpec : ChangeSpec := { name := "waterfallTakes", fn := fun _ => fun
  | [d1, d2] => { results := [.lit (.bool true)], args := [d1, d2] }
  | _ => none }
def waterfallTakesRow : OpenClaim := { program := "ytfogpifjpnonnaa", sum := "2664e96df90f134985f4b4a991b6559af4a91c940c3f6ce89af47c94a7ec3e8f", func := "contango/contangolaw47.WaterfallTakes", spec := "waterfallTakes", unfollowed := true, recurses := true, named := ["math/bits.divideError", "math/bits.overflowError"], apart := false }
def WaterfallTakesSaid : Prop := waterfallTakesRow.holds Try.pinned (OpenSpec.ofChange waterfallTakesSpec)

/-- ITS FALSE NEIGHBOUR: 'it returns false'. Refute it at one input. -/
def waterfallTakesWrong : ChangeSpec := { name := "waterfallTakes", fn := fun _ => fun
  | [d1, d2] => { results := [.lit (.bool false)], args := [d1, d2] }
  | _ => none }
def WaterfallTakesWrongFalsely : Prop := waterfallTakesRow.holds Try.pinned (OpenSpec.ofChange waterfallTakesWrong)

/-- 'contangolaw47.WaterfallTurns': WHATEVER THE INPUT: true; the input reads as it did. -/
def waterfallTurnsSpec : ChangeSpec := { name := "waterfallTurns", fn := fun _ => fun
  | [d1, d2] => { results := [.lit (.bool true)], args := [d1, d2] }
  | _ => none }
def waterfallTurnsRow : OpenClaim := { program := "ytfogpifjpnonnaa", sum := "2664e96df90f134985f4b4a991b6559af4a91c940c3f6ce89af47c94a7ec3e8f", func := "contango/contangolaw47.WaterfallTurns", spec := "waterfallTurns", unfollowed := true, recurses := true, named := ["math/bits.divideError", "math/bits.overflowError"], apart := false }
def WaterfallTurnsSaid : Prop := waterfallTurnsRow.holds Try.pinned (OpenSpec.ofChange waterfallTurnsSpec)

/-- ITS FALSE NEIGHBOUR: 'it returns false'. Refute it at one input. -/
def waterfallTurnsWrong : ChangeSpec := { name := "waterfallTurns", fn := fun _ => fun
  | [d1, d2] => { results := [.lit (.bool false)], args := [d1, d2] }
  | _ => none }
def WaterfallTurnsWrongFalsely : Prop := waterfallTurnsRow.holds Try.pinned (OpenSpec.ofChange waterfallTurnsWrong)

/-- 'contangolaw47.WaterfallTwice': WHATEVER THE INPUT: true; the input reads as it did. -/
def waterfallTwiceSpec : ChangeSpec := { name := "waterfallTwice", fn := fun _ => fun
  | [d1, d2, d3] => { results := [.lit (.bool true)], args := [d1, d2, d3] }
  | _ => none }
def waterfallTwiceRow : OpenClaim := { program := "ytfogpifjpnonnaa", sum := "2664e96df90f134985f4b4a991b6559af4a91c940c3f6ce89af47c94a7ec3e8f", func := "contango/contangolaw47.WaterfallTwice", spec := "waterfallTwice", unfollowed := true, recurses := true, named := ["math/bits.divideError", "math/bits.overflowError"], apart := false }
def WaterfallTwiceSaid : Prop := waterfallTwiceRow.holds Try.pinned (OpenSpec.ofChange waterfallTwiceSpec)

/-- ITS FALSE NEIGHBOUR: 'it returns false'. Refute it at one input. -/
def waterfallTwiceWrong : ChangeSpec := { name := "waterfallTwice", fn := fun _ => fun
  | [d1, d2, d3] => { results := [.lit (.bool false)], args := [d1, d2, d3] }
  | _ => none }
def WaterfallTwiceWrongFalsely : Prop := waterfallTwiceRow.holds Try.pinned (OpenSpec.ofChange waterfallTwiceWrong)

/-- 'contangolaw47.WaterfallBack': WHATEVER THE INPUT: true; the input reads as it did. -/
def waterfallBackSpec : ChangeSpec := { name := "waterfallBack", fn := fun _ => fun
  | [d1, d2, d3] => { results := [.lit (.bool true)], args := [d1, d2, d3] }
  | _ => none }
def waterfallBackRow : OpenClaim := { program := "ytfogpifjpnonnaa", sum := "2664e96df90f134985f4b4a991b6559af4a91c940c3f6ce89af47c94a7ec3e8f", func := "contango/contangolaw47.WaterfallBack", spec := "waterfallBack", unfollowed := true, recurses := true, named := ["math/bits.divideError", "math/bits.overflowError"], apart := false }
def WaterfallBackSaid : Prop := waterfallBackRow.holds Try.pinned (OpenSpec.ofChange waterfallBackSpec)

/-- ITS FALSE NEIGHBOUR: 'it returns false'. Refute it at one input. -/
def waterfallBackWrong : ChangeSpec := { name := "waterfallBack", fn := fun _ => fun
  | [d1, d2, d3] => { results := [.lit (.bool false)], args := [d1, d2, d3] }
  | _ => none }
def WaterfallBackWrongFalsely : Prop := waterfallBackRow.holds Try.pinned (OpenSpec.ofChange waterfallBackWrong)

/-- 'contangolaw47.WaterfallReturns': WHATEVER THE INPUT: true; the input reads as it did. -/
def waterfallReturnsSpec : ChangeSpec := { name := "waterfallReturns", fn := fun _ => fun
  | [d1, d2, d3] => { results := [.lit (.bool true)], args := [d1, d2, d3] }
  | _ => none }
def waterfallReturnsRow : OpenClaim := { program := "ytfogpifjpnonnaa", sum := "2664e96df90f134985f4b4a991b6559af4a91c940c3f6ce89af47c94a7ec3e8f", func := "contango/contangolaw47.WaterfallReturns", spec := "waterfallReturns", unfollowed := true, recurses := true, named := ["math/bits.divideError", "math/bits.overflowError"], apart := false }
def WaterfallReturnsSaid : Prop := waterfallReturnsRow.holds Try.pinned (OpenSpec.ofChange waterfallReturnsSpec)

/-- ITS FALSE NEIGHBOUR: 'it returns false'. Refute it at one input. -/
def waterfallReturnsWrong : ChangeSpec := { name := "waterfallReturns", fn := fun _ => fun
  | [d1, d2, d3] => { results := [.lit (.bool false)], args := [d1, d2, d3] }
  | _ => none }
def WaterfallReturnsWrongFalsely : Prop := waterfallReturnsRow.holds Try.pinned (OpenSpec.ofChange waterfallReturnsWrong)

/-- 'contangolaw47.WaterfallJudges': WHATEVER THE INPUT: true; the input reads as it did. -/
def waterfallJudgesSpec : ChangeSpec := { name := "waterfallJudges", fn := fun _ => fun
  | [d1, d2, d3] => { results := [.lit (.bool true)], args := [d1, d2, d3] }
  | _ => none }
def waterfallJudgesRow : OpenClaim := { program := "ytfogpifjpnonnaa", sum := "2664e96df90f134985f4b4a991b6559af4a91c940c3f6ce89af47c94a7ec3e8f", func := "contango/contangolaw47.WaterfallJudges", spec := "waterfallJudges", unfollowed := true, recurses := true, named := ["math/bits.divideError", "math/bits.overflowError"], apart := false }
def WaterfallJudgesSaid : Prop := waterfallJudgesRow.holds Try.pinned (OpenSpec.ofChange waterfallJudgesSpec)

/-- ITS FALSE NEIGHBOUR: 'it returns false'. Refute it at one input. -/
def waterfallJudgesWrong : ChangeSpec := { name := "waterfallJudges", fn := fun _ => fun
  | [d1, d2, d3] => { results := [.lit (.bool false)], args := [d1, d2, d3] }
  | _ => none }
def WaterfallJudgesWrongFalsely : Prop := waterfallJudgesRow.holds Try.pinned (OpenSpec.ofChange waterfallJudgesWrong)

/- THE SECOND FORM. 'bulk': how many values and letters a reading holds, each counted each time it is reached (what is shared counts as often as it is met; a slice's spare places count too). A statement '..UptoSaid' is the law's where the arguments, and the package variables that the reading takes, are together of bulk at most 1048576: NARROWER than '..Said'. Prove '..Said' where nothing that the law and all that it calls make is longer than what came in: it says more and counts as full. Else prove '..UptoSaid'. A law counts once. -/
mutual
def uptoBulk {H : Type} : DataW H → Nat
  | .lit (.string bytes) => bytes.length + 1
  | .lit _ => 1
  | .nil => 1
  | .ptr d => uptoBulk d + 1
  | .slice elems spare => uptoBulkAll elems + uptoBulkAll spare + 1
  | .agg parts => uptoBulkAll parts + 1
  | .iface _ d => uptoBulk d + 1
  | .map entries => uptoBulkEntries entries + 1
  | .held _ => 1
def uptoBulkAll {H : Type} : List (DataW H) → Nat
  | [] => 0
  | d :: r => uptoBulk d + uptoBulkAll r
def uptoBulkEntries {H : Type} : List (Lit × DataW H) → Nat
  | [] => 0
  | x :: r => uptoBulkEntry x + uptoBulkEntries r
def uptoBulkEntry {H : Type} : Lit × DataW H → Nat
  | (.string bytes, d) => bytes.length + uptoBulk d + 1
  | (_, d) => uptoBulk d + 1
 end
def uptoSmall : (H : Type) → List (DataW H) → Bool := fun _ ds => decide (uptoBulkAll ds ≤ 1048576)
def OpenSpec.upto (s : _root_.Go.ChangeSpec) : _root_.Go.OpenSpec := { _root_.Go.OpenSpec.ofChange s with cond := some uptoSmall }

/-- 'contangolaw47.WaterfallTakes', WHERE WHAT IT READS IS OF BULK AT MOST 1048576: true; the input reads as it did. -/
def waterfallTakesUptoRow : OpenClaim := { program := "ytfogpifjpnonnaa", sum := "2664e96df90f134985f4b4a991b6559af4a91c940c3f6ce89af47c94a7ec3e8f", func := "contango/contangolaw47.WaterfallTakes", spec := "waterfallTakes", unfollowed := true, recurses := true, named := ["math/bits.divideError", "math/bits.overflowError"], apart := false, narrowed := true }
def WaterfallTakesUptoSaid : Prop := waterfallTakesUptoRow.holds Try.pinned (OpenSpec.upto waterfallTakesSpec)

/-- 'contangolaw47.WaterfallTurns', WHERE WHAT IT READS IS OF BULK AT MOST 1048576: true; the input reads as it did. -/
def waterfallTurnsUptoRow : OpenClaim := { program := "ytfogpifjpnonnaa", sum := "2664e96df90f134985f4b4a991b6559af4a91c940c3f6ce89af47c94a7ec3e8f", func := "contango/contangolaw47.WaterfallTurns", spec := "waterfallTurns", unfollowed := true, recurses := true, named := ["math/bits.divideError", "math/bits.overflowError"], apart := false, narrowed := true }
def WaterfallTurnsUptoSaid : Prop := waterfallTurnsUptoRow.holds Try.pinned (OpenSpec.upto waterfallTurnsSpec)

/-- 'contangolaw47.WaterfallTwice', WHERE WHAT IT READS IS OF BULK AT MOST 1048576: true; the input reads as it did. -/
def waterfallTwiceUptoRow : OpenClaim := { program := "ytfogpifjpnonnaa", sum := "2664e96df90f134985f4b4a991b6559af4a91c940c3f6ce89af47c94a7ec3e8f", func := "contango/contangolaw47.WaterfallTwice", spec := "waterfallTwice", unfollowed := true, recurses := true, named := ["math/bits.divideError", "math/bits.overflowError"], apart := false, narrowed := true }
def WaterfallTwiceUptoSaid : Prop := waterfallTwiceUptoRow.holds Try.pinned (OpenSpec.upto waterfallTwiceSpec)

/-- 'contangolaw47.WaterfallBack', WHERE WHAT IT READS IS OF BULK AT MOST 1048576: true; the input reads as it did. -/
def waterfallBackUptoRow : OpenClaim := { program := "ytfogpifjpnonnaa", sum := "2664e96df90f134985f4b4a991b6559af4a91c940c3f6ce89af47c94a7ec3e8f", func := "contango/contangolaw47.WaterfallBack", spec := "waterfallBack", unfollowed := true, recurses := true, named := ["math/bits.divideError", "math/bits.overflowError"], apart := false, narrowed := true }
def WaterfallBackUptoSaid : Prop := waterfallBackUptoRow.holds Try.pinned (OpenSpec.upto waterfallBackSpec)

/-- 'contangolaw47.WaterfallReturns', WHERE WHAT IT READS IS OF BULK AT MOST 1048576: true; the input reads as it did. -/
def waterfallReturnsUptoRow : OpenClaim := { program := "ytfogpifjpnonnaa", sum := "2664e96df90f134985f4b4a991b6559af4a91c940c3f6ce89af47c94a7ec3e8f", func := "contango/contangolaw47.WaterfallReturns", spec := "waterfallReturns", unfollowed := true, recurses := true, named := ["math/bits.divideError", "math/bits.overflowError"], apart := false, narrowed := true }
def WaterfallReturnsUptoSaid : Prop := waterfallReturnsUptoRow.holds Try.pinned (OpenSpec.upto waterfallReturnsSpec)

/-- 'contangolaw47.WaterfallJudges', WHERE WHAT IT READS IS OF BULK AT MOST 1048576: true; the input reads as it did. -/
def waterfallJudgesUptoRow : OpenClaim := { program := "ytfogpifjpnonnaa", sum := "2664e96df90f134985f4b4a991b6559af4a91c940c3f6ce89af47c94a7ec3e8f", func := "contango/contangolaw47.WaterfallJudges", spec := "waterfallJudges", unfollowed := true, recurses := true, named := ["math/bits.divideError", "math/bits.overflowError"], apart := false, narrowed := true }
def WaterfallJudgesUptoSaid : Prop := waterfallJudgesUptoRow.holds Try.pinned (OpenSpec.upto waterfallJudgesSpec)

end Rows
end Go.Proofs.Ytfogpifjpnonnaa
