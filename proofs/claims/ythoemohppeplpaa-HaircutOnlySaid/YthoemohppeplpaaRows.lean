/-
  No cell of these rows narrows 'for every input' (looked for: loops, veiled, ifaces, maps, wideKeys, modest, calm, conditions, laid).
  DERIVED. THE GIVEN ROWS OF THIS SEAT. 4 by the template 'for every input the law returns true; each argument reads behind the call as it read before'; 0 by the template 'total and deterministic' (their statements: YthoemohppeplpaaTotals.lean).
  GIVEN WITH THE SEED: the statements are not yours to turn. If you find one false, say at which input.
  Laid BY PROGRAM, IN A SANDBOX (cutbox-rows.mjs): the forced cells as the released guide's own fill.sh prints them over the translation 33e7cd62926bf5bc… (all of the seat's roots in one cut). By AI agents, Wed Nov 11 2026. No macro, syntax, notation, axiom, sorry.
-/
import Derived.Test.YthoemohppeplpaaChecked
import GoSem.Claim
import GoSem.ClaimJoined
import GoSem.ClaimMapViews
import Derived.JoinedTies
import Derived.KernelRfl
namespace Go.Proofs.Ythoemohppeplpaa
/- THE CELL 'sum', in the pinned program and in every row, IS THE sha256 OF THE DUMP (.gsa) THAT YthoemohppeplpaaProg.lean LOADS. Nothing in Lean hashes anything: it is a label: what it is worth is what the hold of that sum in a sandbox is worth. -/
noncomputable def Try.pinned : Pinned := { name := "ythoemohppeplpaa", sum := "33e7cd62926bf5bcdfa59e11274d37356533e070e313d5fbb0a8836f7fe11444", checked := Try.checked }
namespace Rows
def none {H : Type} : Left H := { results := [], args := [] }

/-- 'contangolaw49.HaircutTakes': WHATEVER THE INPUT: true; the input reads as it did. -/
def haircutTakesSpec : ChangeSpec := { name := "haircutTakes", fn := fun _ => fun
  | [d1, d2, d3] => { results := [.lit (.bool true)], args := [d1, d2, d3] }
  | _ => none }
def haircutTakesRow : OpenClaim := { program := "ythoemohppeplpaa", sum := "33e7cd62926bf5bcdfa59e11274d37356533e070e313d5fbb0a8836f7fe11444", func := "contango/contangolaw49.HaircutTakes", spec := "haircutTakes", unfollowed := true, recurses := true, named := ["math/bits.divideError", "math/bits.overflowError"], apart := false }
def HaircutTakesSaid : Prop := haircutTakesRow.holds Try.pinned (OpenSpec.ofChange haircutTakesSpec)

/-- ITS FALSE NEIGHBOUR: 'it returns false'. Refute it at one input. -/
def haircutTakesWrong : ChangeSpec := { name := "haircutTakes", fn := fun _ => fun
  | [d1, d2, d3] => { results := [.lit (.bool false)], args := [d1, d2, d3] }
  | _ => none }
def HaircutTakesWrongFalsely : Prop := haircutTakesRow.holds Try.pinned (OpenSpec.ofChange haircutTakesWrong)

/-- 'contangolaw49.HaircutParts': WHATEVER THE INPUT: true; the input reads as it did. -/
def haircutPartsSpec : ChangeSpec := { name := "haircutParts", fn := fun _ => fun
  | [d1, d2] => { results := [.lit (.bool true)], args := [d1, d2] }
  | _ => none }
def haircutPartsRow : OpenClaim := { program := "ythoemohppeplpaa", sum := "33e7cd62926bf5bcdfa59e11274d37356533e070e313d5fbb0a8836f7fe11444", func := "contango/contangolaw49.HaircutParts", spec := "haircutParts", unfollowed := true, recurses := true, named := ["math/bits.divideError", "math/bits.overflowError"], apart := false }
def HaircutPartsSaid : Prop := haircutPartsRow.holds Try.pinned (OpenSpec.ofChange haircutPartsSpec)

/-- ITS FALSE NEIGHBOUR: 'it returns false'. Refute it at one input. -/
def haircutPartsWrong : ChangeSpec := { name := "haircutParts", fn := fun _ => fun
  | [d1, d2] => { results := [.lit (.bool false)], args := [d1, d2] }
  | _ => none }
def HaircutPartsWrongFalsely : Prop := haircutPartsRow.holds Try.pinned (OpenSpec.ofChange haircutPartsWrong)

/-- 'contangolaw49.HaircutOnly': WHATEVER THE INPUT: true; the input reads as it did. -/
def haircutOnlySpec : ChangeSpec := { name := "haircutOnly", fn := fun _ => fun
  | [d1, d2, d3] => { results := [.lit (.bool true)], args := [d1, d2, d3] }
  | _ => none }
def haircutOnlyRow : OpenClaim := { program := "ythoemohppeplpaa", sum := "33e7cd62926bf5bcdfa59e11274d37356533e070e313d5fbb0a8836f7fe11444", func := "contango/contangolaw49.HaircutOnly", spec := "haircutOnly", unfollowed := true, recurses := true, named := ["math/bits.divideError", "math/bits.overflowError"], apart := false }
def HaircutOnlySaid : Prop := haircutOnlyRow.holds Try.pinned (OpenSpec.ofChange haircutOnlySpec)

/-- ITS FALSE NEIGHBOUR: 'it returns false'. Refute it at one input. -/
def haircutOnlyWrong : ChangeSpec := { name := "haircutOnly", fn := fun _ => fun
  | [d1, d2, d3] => { results := [.lit (.bool false)], args := [d1, d2, d3] }
  | _ => none }
def HaircutOnlyWrongFalsely : Prop := haircutOnlyRow.holds Try.pinned (OpenSpec.ofChange haircutOnlyWrong)

/-- 'contangolaw49.HaircutAlike': WHATEVER THE INPUT: true; the input reads as it did. -/
def haircutAlikeSpec : ChangeSpec := { name := "haircutAlike", fn := fun _ => fun
  | [d1, d2] => { results := [.lit (.bool true)], args := [d1, d2] }
  | _ => none }
def haircutAlikeRow : OpenClaim := { program := "ythoemohppeplpaa", sum := "33e7cd62926bf5bcdfa59e11274d37356533e070e313d5fbb0a8836f7fe11444", func := "contango/contangolaw49.HaircutAlike", spec := "haircutAlike", unfollowed := true, recurses := true, named := ["math/bits.divideError", "math/bits.overflowError"], apart := false }
def HaircutAlikeSaid : Prop := haircutAlikeRow.holds Try.pinned (OpenSpec.ofChange haircutAlikeSpec)

/-- ITS FALSE NEIGHBOUR: 'it returns false'. Refute it at one input. -/
def haircutAlikeWrong : ChangeSpec := { name := "haircutAlike", fn := fun _ => fun
  | [d1, d2] => { results := [.lit (.bool false)], args := [d1, d2] }
  | _ => none }
def HaircutAlikeWrongFalsely : Prop := haircutAlikeRow.holds Try.pinned (OpenSpec.ofChange haircutAlikeWrong)

/- THE SECOND FORM. 'bulk': how many values and letters a reading holds, each counted each time it is reached (what is shared counts as often as it is met; a slice's spare places count too). A statement '..UptoSaid' is the law's where the arguments, and the package variables that the reading takes, are together of bulk at most 1048576: NARROWER than '..Said'. Prove '..Said' where nothing that the law and all that it calls make is longer than what came in: it says more and counts as full. Else prove '..UptoSaid'. A law counts once. -/
mutual
def uptoBulk {H : Type} : DataW H → Nat
  | .lit (.string bytes) => bytes.length + 1
  | .lit _ => 1
  | .nil => 1
  | .ptr d => uptoBulk d + 1
  | .slice elems spare => uptoBulkAll elems + uptoBulkAll spare + 1
  | .agg parts => uptoBulkAll parts + 1
  | .iface _ d => uptoBulk d + 1
  | .map entries => uptoBulkEntries entries + 1
  | .held _ => 1
def uptoBulkAll {H : Type} : List (DataW H) → Nat
  | [] => 0
  | d :: r => uptoBulk d + uptoBulkAll r
def uptoBulkEntries {H : Type} : List (Lit × DataW H) → Nat
  | [] => 0
  | x :: r => uptoBulkEntry x + uptoBulkEntries r
def uptoBulkEntry {H : Type} : Lit × DataW H → Nat
  | (.string bytes, d) => bytes.length + uptoBulk d + 1
  | (_, d) => uptoBulk d + 1
 end
def uptoSmall : (H : Type) → List (DataW H) → Bool := fun _ ds => decide (uptoBulkAll ds ≤ 1048576)
def OpenSpec.upto (s : _root_.Go.ChangeSpec) : _root_.Go.OpenSpec := { _root_.Go.OpenSpec.ofChange s with cond := some uptoSmall }

/-- 'contangolaw49.HaircutTakes', WHERE WHAT IT READS IS OF BULK AT MOST 1048576: true; the input reads as it did. -/
def haircutTakesUptoRow : OpenClaim := { program := "ythoemohppeplpaa", sum := "33e7cd62926bf5bcdfa59e11274d37356533e070e313d5fbb0a8836f7fe11444", func := "contango/contangolaw49.HaircutTakes", spec := "haircutTakes", unfollowed := true, recurses := true, named := ["math/bits.divideError", "math/bits.overflowError"], apart := false, narrowed := true }
def HaircutTakesUptoSaid : Prop := haircutTakesUptoRow.holds Try.pinned (OpenSpec.upto haircutTakesSpec)

/-- 'contangolaw49.HaircutParts', WHERE WHAT IT READS IS OF BULK AT MOST 1048576: true; the input reads as it did. -/
def haircutPartsUptoRow : OpenClaim := { program := "ythoemohppeplpaa", sum := "33e7cd62926bf5bcdfa59e11274d37356533e070e313d5fbb0a8836f7fe11444", func := "contango/contangolaw49.HaircutParts", spec := "haircutParts", unfollowed := true, recurses := true, named := ["math/bits.divideError", "math/bits.overflowError"], apart := false, narrowed := true }
def HaircutPartsUptoSaid : Prop := haircutPartsUptoRow.holds Try.pinned (OpenSpec.upto haircutPartsSpec)

/-- 'contangolaw49.HaircutOnly', WHERE WHAT IT READS IS OF BULK AT MOST 1048576: true; the input reads as it did. -/
def haircutOnlyUptoRow : OpenClaim := { program := "ythoemohppeplpaa", sum := "33e7cd62926bf5bcdfa59e11274d37356533e070e313d5fbb0a8836f7fe11444", func := "contango/contangolaw49.HaircutOnly", spec := "haircutOnly", unfollowed := true, recurses := true, named := ["math/bits.divideError", "math/bits.overflowError"], apart := false, narrowed := true }
def HaircutOnlyUptoSaid : Prop := haircutOnlyUptoRow.holds Try.pinned (OpenSpec.upto haircutOnlySpec)

/-- 'contangolaw49.HaircutAlike', WHERE WHAT IT READS IS OF BULK AT MOST 1048576: true; the input reads as it did. -/
def haircutAlikeUptoRow : OpenClaim := { program := "ythoemohppeplpaa", sum := "33e7cd62926bf5bcdfa59e11274d37356533e070e313d5fbb0a8836f7fe11444", func := "contango/contangolaw49.HaircutAlike", spec := "haircutAlike", unfollowed := true, recurses := true, named := ["math/bits.divideError", "math/bits.overflowError"], apart := false, narrowed := true }
def HaircutAlikeUptoSaid : Prop := haircutAlikeUptoRow.holds Try.pinned (OpenSpec.upto haircutAlikeSpec)

end Rows
end Go.Proofs.Ythoemohppeplpaa
