/-
  No cell of these rows narrows 'for every input' (looked for: loops, veiled, ifaces, maps, wideKeys, modest, calm, conditions, laid).
  DERIVED. THE GIVEN ROWS OF THIS SEAT. 5 by the template 'for every input the law returns true; each argument reads behind the call as it read before'; 0 by the template 'total and deterministic' (their statements: YtpieipeppanahaaTotals.lean).
  GIVEN WITH THE SEED: the statements are not yours to turn. If you find one false, say at which input.
  Laid BY PROGRAM, IN A SANDBOX (cutbox-rows.mjs): the forced cells as the released guide's own fill.sh prints them over the translation fa9a46cdfc7a55c2… (all of the seat's roots in one cut). By AI agents, Wed Nov 11 2026. No macro, syntax, notation, axiom, sorry.
-/
import Derived.Test.YtpieipeppanahaaChecked
import GoSem.Claim
import GoSem.ClaimJoined
import GoSem.ClaimMapViews
import Derived.JoinedTies
import Derived.KernelRfl
namespace Go.Proofs.Ytpieipeppanahaa
/- THE CELL 'sum', in the pinned program and in every row, IS THE sha256 OF THE DUMP (.gsa) THAT YtpieipeppanahaaProg.lean LOADS. Nothing in Lean hashes anything: it is a label: what it is worth is what the hold of that sum in a sandbox is worth. -/
noncomputable def Try.pinned : Pinned := { name := "ytpieipeppanahaa", sum := "fa9a46cdfc7a55c2bcbfd4ca9e9c815b0d9b0013bce66a797bd9a8ce6024fb00", checked := Try.checked }
namespace Rows
def none {H : Type} : Left H := { results := [], args := [] }

/-- 'contangolaw07.PhaseNexts': WHATEVER THE INPUT: true; the input reads as it did. -/
def phaseNextsSpec : ChangeSpec := { name := "phaseNexts", fn := fun _ => fun
  | [d1, d2] => { results := [.lit (.bool true)], args := [d1, d2] }
  | _ => none }
def phaseNextsRow : OpenClaim := { program := "ytpieipeppanahaa", sum := "fa9a46cdfc7a55c2bcbfd4ca9e9c815b0d9b0013bce66a797bd9a8ce6024fb00", func := "contango/contangolaw07.PhaseNexts", spec := "phaseNexts", unfollowed := true, recurses := true, apart := false }
def PhaseNextsSaid : Prop := phaseNextsRow.holds Try.pinned (OpenSpec.ofChange phaseNextsSpec)

/-- ITS FALSE NEIGHBOUR: 'it returns false'. Refute it at one input. -/
def phaseNextsWrong : ChangeSpec := { name := "phaseNexts", fn := fun _ => fun
  | [d1, d2] => { results := [.lit (.bool false)], args := [d1, d2] }
  | _ => none }
def PhaseNextsWrongFalsely : Prop := phaseNextsRow.holds Try.pinned (OpenSpec.ofChange phaseNextsWrong)

/-- 'contangolaw07.PhaseMays': WHATEVER THE INPUT: true; the input reads as it did. -/
def phaseMaysSpec : ChangeSpec := { name := "phaseMays", fn := fun _ => fun
  | [d1, d2] => { results := [.lit (.bool true)], args := [d1, d2] }
  | _ => none }
def phaseMaysRow : OpenClaim := { program := "ytpieipeppanahaa", sum := "fa9a46cdfc7a55c2bcbfd4ca9e9c815b0d9b0013bce66a797bd9a8ce6024fb00", func := "contango/contangolaw07.PhaseMays", spec := "phaseMays", unfollowed := true, recurses := true, apart := false }
def PhaseMaysSaid : Prop := phaseMaysRow.holds Try.pinned (OpenSpec.ofChange phaseMaysSpec)

/-- ITS FALSE NEIGHBOUR: 'it returns false'. Refute it at one input. -/
def phaseMaysWrong : ChangeSpec := { name := "phaseMays", fn := fun _ => fun
  | [d1, d2] => { results := [.lit (.bool false)], args := [d1, d2] }
  | _ => none }
def PhaseMaysWrongFalsely : Prop := phaseMaysRow.holds Try.pinned (OpenSpec.ofChange phaseMaysWrong)

/-- 'contangolaw07.PhaseEach': WHATEVER THE INPUT: true; the input reads as it did. -/
def phaseEachSpec : ChangeSpec := { name := "phaseEach", fn := fun _ => fun
  | [d] => { results := [.lit (.bool true)], args := [d] }
  | _ => none }
def phaseEachRow : OpenClaim := { program := "ytpieipeppanahaa", sum := "fa9a46cdfc7a55c2bcbfd4ca9e9c815b0d9b0013bce66a797bd9a8ce6024fb00", func := "contango/contangolaw07.PhaseEach", spec := "phaseEach", unfollowed := true, recurses := true, apart := false }
def PhaseEachSaid : Prop := phaseEachRow.holds Try.pinned (OpenSpec.ofChange phaseEachSpec)

/-- ITS FALSE NEIGHBOUR: 'it returns false'. Refute it at one input. -/
def phaseEachWrong : ChangeSpec := { name := "phaseEach", fn := fun _ => fun
  | [d] => { results := [.lit (.bool false)], args := [d] }
  | _ => none }
def PhaseEachWrongFalsely : Prop := phaseEachRow.holds Try.pinned (OpenSpec.ofChange phaseEachWrong)

/-- 'contangolaw07.PhaseNames': WHATEVER THE INPUT: true; the input reads as it did. -/
def phaseNamesSpec : ChangeSpec := { name := "phaseNames", fn := fun _ => fun
  | [d1, d2] => { results := [.lit (.bool true)], args := [d1, d2] }
  | _ => none }
def phaseNamesRow : OpenClaim := { program := "ytpieipeppanahaa", sum := "fa9a46cdfc7a55c2bcbfd4ca9e9c815b0d9b0013bce66a797bd9a8ce6024fb00", func := "contango/contangolaw07.PhaseNames", spec := "phaseNames", unfollowed := true, recurses := true, apart := false }
def PhaseNamesSaid : Prop := phaseNamesRow.holds Try.pinned (OpenSpec.ofChange phaseNamesSpec)

/-- ITS FALSE NEIGHBOUR: 'it returns false'. Refute it at one input. -/
def phaseNamesWrong : ChangeSpec := { name := "phaseNames", fn := fun _ => fun
  | [d1, d2] => { results := [.lit (.bool false)], args := [d1, d2] }
  | _ => none }
def PhaseNamesWrongFalsely : Prop := phaseNamesRow.holds Try.pinned (OpenSpec.ofChange phaseNamesWrong)

/-- 'contangolaw07.PhaseRound': WHATEVER THE INPUT: true; the input reads as it did. -/
def phaseRoundSpec : ChangeSpec := { name := "phaseRound", fn := fun _ => fun
  | [d] => { results := [.lit (.bool true)], args := [d] }
  | _ => none }
def phaseRoundRow : OpenClaim := { program := "ytpieipeppanahaa", sum := "fa9a46cdfc7a55c2bcbfd4ca9e9c815b0d9b0013bce66a797bd9a8ce6024fb00", func := "contango/contangolaw07.PhaseRound", spec := "phaseRound", unfollowed := true, recurses := true, apart := false }
def PhaseRoundSaid : Prop := phaseRoundRow.holds Try.pinned (OpenSpec.ofChange phaseRoundSpec)

/-- ITS FALSE NEIGHBOUR: 'it returns false'. Refute it at one input. -/
def phaseRoundWrong : ChangeSpec := { name := "phaseRound", fn := fun _ => fun
  | [d] => { results := [.lit (.bool false)], args := [d] }
  | _ => none }
def PhaseRoundWrongFalsely : Prop := phaseRoundRow.holds Try.pinned (OpenSpec.ofChange phaseRoundWrong)

/- THE SECOND FORM. 'bulk': how many values and letters a reading holds, each counted each time it is reached (what is shared counts as often as it is met; a slice's spare places count too). A statement '..UptoSaid' is the law's where the arguments, and the package variables that the reading takes, are together of bulk at most 1048576: NARROWER than '..Said'. Prove '..Said' where nothing that the law and all that it calls make is longer than what came in: it says more and counts as full. Else prove '..UptoSaid'. A law counts once. -/
mutual
def uptoBulk {H : Type} : DataW H → Nat
  | .lit (.string bytes) => bytes.length + 1
  | .lit _ => 1
  | .nil => 1
  | .ptr d => uptoBulk d + 1
  | .slice elems spare => uptoBulkAll elems + uptoBulkAll spare + 1
  | .agg parts => uptoBulkAll parts + 1
  | .iface _ d => uptoBulk d + 1
  | .map entries => uptoBulkEntries entries + 1
  | .held _ => 1
def uptoBulkAll {H : Type} : List (DataW H) → Nat
  | [] => 0
  | d :: r => uptoBulk d + uptoBulkAll r
def uptoBulkEntries {H : Type} : List (Lit × DataW H) → Nat
  | [] => 0
  | x :: r => uptoBulkEntry x + uptoBulkEntries r
def uptoBulkEntry {H : Type} : Lit × DataW H → Nat
  | (.string bytes, d) => bytes.length + uptoBulk d + 1
  | (_, d) => uptoBulk d + 1
 end
def uptoSmall : (H : Type) → List (DataW H) → Bool := fun _ ds => decide (uptoBulkAll ds ≤ 1048576)
def OpenSpec.upto (s : _root_.Go.ChangeSpec) : _root_.Go.OpenSpec := { _root_.Go.OpenSpec.ofChange s with cond := some uptoSmall }

/-- 'contangolaw07.PhaseNexts', WHERE WHAT IT READS IS OF BULK AT MOST 1048576: true; the input reads as it did. -/
def phaseNextsUptoRow : OpenClaim := { program := "ytpieipeppanahaa", sum := "fa9a46cdfc7a55c2bcbfd4ca9e9c815b0d9b0013bce66a797bd9a8ce6024fb00", func := "contango/contangolaw07.PhaseNexts", spec := "phaseNexts", unfollowed := true, recurses := true, apart := false, narrowed := true }
def PhaseNextsUptoSaid : Prop := phaseNextsUptoRow.holds Try.pinned (OpenSpec.upto phaseNextsSpec)

/-- 'contangolaw07.PhaseMays', WHERE WHAT IT READS IS OF BULK AT MOST 1048576: true; the input reads as it did. -/
def phaseMaysUptoRow : OpenClaim := { program := "ytpieipeppanahaa", sum := "fa9a46cdfc7a55c2bcbfd4ca9e9c815b0d9b0013bce66a797bd9a8ce6024fb00", func := "contango/contangolaw07.PhaseMays", spec := "phaseMays", unfollowed := true, recurses := true, apart := false, narrowed := true }
def PhaseMaysUptoSaid : Prop := phaseMaysUptoRow.holds Try.pinned (OpenSpec.upto phaseMaysSpec)

/-- 'contangolaw07.PhaseEach', WHERE WHAT IT READS IS OF BULK AT MOST 1048576: true; the input reads as it did. -/
def phaseEachUptoRow : OpenClaim := { program := "ytpieipeppanahaa", sum := "fa9a46cdfc7a55c2bcbfd4ca9e9c815b0d9b0013bce66a797bd9a8ce6024fb00", func := "contango/contangolaw07.PhaseEach", spec := "phaseEach", unfollowed := true, recurses := true, apart := false, narrowed := true }
def PhaseEachUptoSaid : Prop := phaseEachUptoRow.holds Try.pinned (OpenSpec.upto phaseEachSpec)

/-- 'contangolaw07.PhaseNames', WHERE WHAT IT READS IS OF BULK AT MOST 1048576: true; the input reads as it did. -/
def phaseNamesUptoRow : OpenClaim := { program := "ytpieipeppanahaa", sum := "fa9a46cdfc7a55c2bcbfd4ca9e9c815b0d9b0013bce66a797bd9a8ce6024fb00", func := "contango/contangolaw07.PhaseNames", spec := "phaseNames", unfollowed := true, recurses := true, apart := false, narrowed := true }
def PhaseNamesUptoSaid : Prop := phaseNamesUptoRow.holds Try.pinned (OpenSpec.upto phaseNamesSpec)

/-- 'contangolaw07.PhaseRound', WHERE WHAT IT READS IS OF BULK AT MOST 1048576: true; the input reads as it did. -/
def phaseRoundUptoRow : OpenClaim := { program := "ytpieipeppanahaa", sum := "fa9a46cdfc7a55c2bcbfd4ca9e9c815b0d9b0013bce66a797bd9a8ce6024fb00", func := "contango/contangolaw07.PhaseRound", spec := "phaseRound", unfollowed := true, recurses := true, apart := false, narrowed := true }
def PhaseRoundUptoSaid : Prop := phaseRoundUptoRow.holds Try.pinned (OpenSpec.upto phaseRoundSpec)

end Rows
end Go.Proofs.Ytpieipeppanahaa
