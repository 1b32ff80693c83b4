/-
  No cell of these rows narrows 'for every input' (looked for: loops, veiled, ifaces, maps, wideKeys, modest, calm, conditions, laid).
  DERIVED. THE GIVEN ROWS OF THIS SEAT. 4 by the template 'for every input the law returns true; each argument reads behind the call as it read before'; 0 by the template 'total and deterministic' (their statements: YtdapmcfggcioaaaTotals.lean).
  GIVEN WITH THE SEED: the statements are not yours to turn. If you find one false, say at which input.
  Laid BY PROGRAM, IN A SANDBOX (cutbox-rows.mjs): the forced cells as the released guide's own fill.sh prints them over the translation c09c86c3b077a1e4… (all of the seat's roots in one cut). By AI agents, Wed Nov 11 2026. No macro, syntax, notation, axiom, sorry.
-/
import Derived.Test.YtdapmcfggcioaaaChecked
import GoSem.Claim
import GoSem.ClaimJoined
import GoSem.ClaimMapViews
import Derived.JoinedTies
import Derived.KernelRfl
namespace Go.Proofs.Ytdapmcfggcioaaa
/- THE CELL 'sum', in the pinned program and in every row, IS THE sha256 OF THE DUMP (.gsa) THAT YtdapmcfggcioaaaProg.lean LOADS. Nothing in Lean hashes anything: it is a label: what it is worth is what the hold of that sum in a sandbox is worth. -/
noncomputable def Try.pinned : Pinned := { name := "ytdapmcfggcioaaa", sum := "c09c86c3b077a1e45809241e5323919008090eac00a10e02c22b61f2dbadc521", checked := Try.checked }
namespace Rows
def none {H : Type} : Left H := { results := [], args := [] }

/-- 'contangolaw48.AssessCaps': WHATEVER THE INPUT: true; the input reads as it did. -/
def assessCapsSpec : ChangeSpec := { name := "assessCaps", fn := fun _ => fun
  | [d] => { results := [.lit (.bool true)], args := [d] }
  | _ => none }
def assessCapsRow : OpenClaim := { program := "ytdapmcfggcioaaa", sum := "c09c86c3b077a1e45809241e5323919008090eac00a10e02c22b61f2dbadc521", func := "contango/contangolaw48.AssessCaps", spec := "assessCaps", unfollowed := true, recurses := true, named := ["math/bits.divideError", "math/bits.overflowError"], apart := false }
def AssessCapsSaid : Prop := assessCapsRow.holds Try.pinned (OpenSpec.ofChange assessCapsSpec)

/-- ITS FALSE NEIGHBOUR: 'it returns false'. Refute it at one input. -/
def assessCapsWrong : ChangeSpec := { name := "assessCaps", fn := fun _ => fun
  | [d] => { results := [.lit (.bool false)], args := [d] }
  | _ => none }
def AssessCapsWrongFalsely : Prop := assessCapsRow.holds Try.pinned (OpenSpec.ofChange assessCapsWrong)

/-- 'contangolaw48.AssessWhole': WHATEVER THE INPUT: true; the input reads as it did. -/
def assessWholeSpec : ChangeSpec := { name := "assessWhole", fn := fun _ => fun
  | [d1, d2] => { results := [.lit (.bool true)], args := [d1, d2] }
  | _ => none }
def assessWholeRow : OpenClaim := { program := "ytdapmcfggcioaaa", sum := "c09c86c3b077a1e45809241e5323919008090eac00a10e02c22b61f2dbadc521", func := "contango/contangolaw48.AssessWhole", spec := "assessWhole", unfollowed := true, recurses := true, named := ["math/bits.divideError", "math/bits.overflowError"], apart := false }
def AssessWholeSaid : Prop := assessWholeRow.holds Try.pinned (OpenSpec.ofChange assessWholeSpec)

/-- ITS FALSE NEIGHBOUR: 'it returns false'. Refute it at one input. -/
def assessWholeWrong : ChangeSpec := { name := "assessWhole", fn := fun _ => fun
  | [d1, d2] => { results := [.lit (.bool false)], args := [d1, d2] }
  | _ => none }
def AssessWholeWrongFalsely : Prop := assessWholeRow.holds Try.pinned (OpenSpec.ofChange assessWholeWrong)

/-- 'contangolaw48.AssessCalls': WHATEVER THE INPUT: true; the input reads as it did. -/
def assessCallsSpec : ChangeSpec := { name := "assessCalls", fn := fun _ => fun
  | [d1, d2, d3] => { results := [.lit (.bool true)], args := [d1, d2, d3] }
  | _ => none }
def assessCallsRow : OpenClaim := { program := "ytdapmcfggcioaaa", sum := "c09c86c3b077a1e45809241e5323919008090eac00a10e02c22b61f2dbadc521", func := "contango/contangolaw48.AssessCalls", spec := "assessCalls", unfollowed := true, recurses := true, named := ["math/bits.divideError", "math/bits.overflowError"], apart := false }
def AssessCallsSaid : Prop := assessCallsRow.holds Try.pinned (OpenSpec.ofChange assessCallsSpec)

/-- ITS FALSE NEIGHBOUR: 'it returns false'. Refute it at one input. -/
def assessCallsWrong : ChangeSpec := { name := "assessCalls", fn := fun _ => fun
  | [d1, d2, d3] => { results := [.lit (.bool false)], args := [d1, d2, d3] }
  | _ => none }
def AssessCallsWrongFalsely : Prop := assessCallsRow.holds Try.pinned (OpenSpec.ofChange assessCallsWrong)

/-- 'contangolaw48.AssessUses': WHATEVER THE INPUT: true; the input reads as it did. -/
def assessUsesSpec : ChangeSpec := { name := "assessUses", fn := fun _ => fun
  | [d1, d2] => { results := [.lit (.bool true)], args := [d1, d2] }
  | _ => none }
def assessUsesRow : OpenClaim := { program := "ytdapmcfggcioaaa", sum := "c09c86c3b077a1e45809241e5323919008090eac00a10e02c22b61f2dbadc521", func := "contango/contangolaw48.AssessUses", spec := "assessUses", unfollowed := true, recurses := true, named := ["math/bits.divideError", "math/bits.overflowError"], apart := false }
def AssessUsesSaid : Prop := assessUsesRow.holds Try.pinned (OpenSpec.ofChange assessUsesSpec)

/-- ITS FALSE NEIGHBOUR: 'it returns false'. Refute it at one input. -/
def assessUsesWrong : ChangeSpec := { name := "assessUses", fn := fun _ => fun
  | [d1, d2] => { results := [.lit (.bool false)], args := [d1, d2] }
  | _ => none }
def AssessUsesWrongFalsely : Prop := assessUsesRow.holds Try.pinned (OpenSpec.ofChange assessUsesWrong)

/- THE SECOND FORM. 'bulk': how many values and letters a reading holds, each counted each time it is reached (what is shared counts as often as it is met; a slice's spare places count too). A statement '..UptoSaid' is the law's where the arguments, and the package variables that the reading takes, are together of bulk at most 1048576: NARROWER than '..Said'. Prove '..Said' where nothing that the law and all that it calls make is longer than what came in: it says more and counts as full. Else prove '..UptoSaid'. A law counts once. -/
mutual
def uptoBulk {H : Type} : DataW H → Nat
  | .lit (.string bytes) => bytes.length + 1
  | .lit _ => 1
  | .nil => 1
  | .ptr d => uptoBulk d + 1
  | .slice elems spare => uptoBulkAll elems + uptoBulkAll spare + 1
  | .agg parts => uptoBulkAll parts + 1
  | .iface _ d => uptoBulk d + 1
  | .map entries => uptoBulkEntries entries + 1
  | .held _ => 1
def uptoBulkAll {H : Type} : List (DataW H) → Nat
  | [] => 0
  | d :: r => uptoBulk d + uptoBulkAll r
def uptoBulkEntries {H : Type} : List (Lit × DataW H) → Nat
  | [] => 0
  | x :: r => uptoBulkEntry x + uptoBulkEntries r
def uptoBulkEntry {H : Type} : Lit × DataW H → Nat
  | (.string bytes, d) => bytes.length + uptoBulk d + 1
  | (_, d) => uptoBulk d + 1
 end
def uptoSmall : (H : Type) → List (DataW H) → Bool := fun _ ds => decide (uptoBulkAll ds ≤ 1048576)
def OpenSpec.upto (s : _root_.Go.ChangeSpec) : _root_.Go.OpenSpec := { _root_.Go.OpenSpec.ofChange s with cond := some uptoSmall }

/-- 'contangolaw48.AssessCaps', WHERE WHAT IT READS IS OF BULK AT MOST 1048576: true; the input reads as it did. -/
def assessCapsUptoRow : OpenClaim := { program := "ytdapmcfggcioaaa", sum := "c09c86c3b077a1e45809241e5323919008090eac00a10e02c22b61f2dbadc521", func := "contango/contangolaw48.AssessCaps", spec := "assessCaps", unfollowed := true, recurses := true, named := ["math/bits.divideError", "math/bits.overflowError"], apart := false, narrowed := true }
def AssessCapsUptoSaid : Prop := assessCapsUptoRow.holds Try.pinned (OpenSpec.upto assessCapsSpec)

/-- 'contangolaw48.AssessWhole', WHERE WHAT IT READS IS OF BULK AT MOST 1048576: true; the input reads as it did. -/
def assessWholeUptoRow : OpenClaim := { program := "ytdapmcfggcioaaa", sum := "c09c86c3b077a1e45809241e5323919008090eac00a10e02c22b61f2dbadc521", func := "contango/contangolaw48.AssessWhole", spec := "assessWhole", unfollowed := true, recurses := true, named := ["math/bits.divideError", "math/bits.overflowError"], apart := false, narrowed := true }
def AssessWholeUptoSaid : Prop := assessWholeUptoRow.holds Try.pinned (OpenSpec.upto assessWholeSpec)

/-- 'contangolaw48.AssessCalls', WHERE WHAT IT READS IS OF BULK AT MOST 1048576: true; the input reads as it did. -/
def assessCallsUptoRow : OpenClaim := { program := "ytdapmcfggcioaaa", sum := "c09c86c3b077a1e45809241e5323919008090eac00a10e02c22b61f2dbadc521", func := "contango/contangolaw48.AssessCalls", spec := "assessCalls", unfollowed := true, recurses := true, named := ["math/bits.divideError", "math/bits.overflowError"], apart := false, narrowed := true }
def AssessCallsUptoSaid : Prop := assessCallsUptoRow.holds Try.pinned (OpenSpec.upto assessCallsSpec)

/-- 'contangolaw48.AssessUses', WHERE WHAT IT READS IS OF BULK AT MOST 1048576: true; the input reads as it did. -/
def assessUsesUptoRow : OpenClaim := { program := "ytdapmcfggcioaaa", sum := "c09c86c3b077a1e45809241e5323919008090eac00a10e02c22b61f2dbadc521", func := "contango/contangolaw48.AssessUses", spec := "assessUses", unfollowed := true, recurses := true, named := ["math/bits.divideError", "math/bits.overflowError"], apart := false, narrowed := true }
def AssessUsesUptoSaid : Prop := assessUsesUptoRow.holds Try.pinned (OpenSpec.upto assessUsesSpec)

end Rows
end Go.Proofs.Ytdapmcfggcioaaa
