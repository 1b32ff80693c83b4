/-
  No cell of these rows narrows 'for every input' (looked for: loops, veiled, ifaces, maps, wideKeys, modest, calm, conditions, laid).
  DERIVED. THE GIVEN ROWS OF THIS SEAT. 5 by the template 'for every input the law returns true; each argument reads behind the call as it read before'; 0 by the template 'total and deterministic' (their statements: YtpifobhpijnehaaTotals.lean).
  GIVEN WITH THE SEED: the statements are not yours to turn. If you find one false, say at which input.
  Laid BY PROGRAM, IN A SANDBOX (cutbox-rows.mjs): the forced cells as the released guide's own fill.sh prints them over the translation e0d622c495363d03… (all of the seat's roots in one cut). By AI agents, Wed Nov 11 2026. No macro, syntax, notation, axiom, sorry.
-/
import Derived.Test.YtpifobhpijnehaaChecked
import GoSem.Claim
import GoSem.ClaimJoined
import GoSem.ClaimMapViews
import Derived.JoinedTies
import Derived.KernelRfl
namespace Go.Proofs.Ytpifobhpijnehaa
/- THE CELL 'sum', in the pinned program and in every row, IS THE sha256 OF THE DUMP (.gsa) THAT YtpifobhpijnehaaProg.lean LOADS. Nothing in Lean hashes anything: it is a label: what it is worth is what the hold of that sum in a sandbox is worth. -/
noncomputable def Try.pinned : Pinned := { name := "ytpifobhpijnehaa", sum := "e0d622c495363d037f2237531345493998ef410abe7a36369555db8bd3d1ec96", checked := Try.checked }
namespace Rows
def none {H : Type} : Left H := { results := [], args := [] }

/-- 'contangolaw13.NovateCosts': WHATEVER THE INPUT: true; the input reads as it did. -/
def novateCostsSpec : ChangeSpec := { name := "novateCosts", fn := fun _ => fun
  | [d1, d2, d3] => { results := [.lit (.bool true)], args := [d1, d2, d3] }
  | _ => none }
def novateCostsRow : OpenClaim := { program := "ytpifobhpijnehaa", sum := "e0d622c495363d037f2237531345493998ef410abe7a36369555db8bd3d1ec96", func := "contango/contangolaw13.NovateCosts", spec := "novateCosts", unfollowed := true, recurses := true, plainKeys := false, apart := false }
def NovateCostsSaid : Prop := novateCostsRow.holds Try.pinned (OpenSpec.ofChange novateCostsSpec)

/-- ITS FALSE NEIGHBOUR: 'it returns false'. Refute it at one input. -/
def novateCostsWrong : ChangeSpec := { name := "novateCosts", fn := fun _ => fun
  | [d1, d2, d3] => { results := [.lit (.bool false)], args := [d1, d2, d3] }
  | _ => none }
def NovateCostsWrongFalsely : Prop := novateCostsRow.holds Try.pinned (OpenSpec.ofChange novateCostsWrong)

/-- 'contangolaw13.NovateLegs': WHATEVER THE INPUT: true; the input reads as it did. -/
def novateLegsSpec : ChangeSpec := { name := "novateLegs", fn := fun _ => fun
  | [d1, d2, d3] => { results := [.lit (.bool true)], args := [d1, d2, d3] }
  | _ => none }
def novateLegsRow : OpenClaim := { program := "ytpifobhpijnehaa", sum := "e0d622c495363d037f2237531345493998ef410abe7a36369555db8bd3d1ec96", func := "contango/contangolaw13.NovateLegs", spec := "novateLegs", unfollowed := true, recurses := true, plainKeys := false, apart := false }
def NovateLegsSaid : Prop := novateLegsRow.holds Try.pinned (OpenSpec.ofChange novateLegsSpec)

/-- ITS FALSE NEIGHBOUR: 'it returns false'. Refute it at one input. -/
def novateLegsWrong : ChangeSpec := { name := "novateLegs", fn := fun _ => fun
  | [d1, d2, d3] => { results := [.lit (.bool false)], args := [d1, d2, d3] }
  | _ => none }
def NovateLegsWrongFalsely : Prop := novateLegsRow.holds Try.pinned (OpenSpec.ofChange novateLegsWrong)

/-- 'contangolaw13.NovateNets': WHATEVER THE INPUT: true; the input reads as it did. -/
def novateNetsSpec : ChangeSpec := { name := "novateNets", fn := fun _ => fun
  | [d1, d2, d3] => { results := [.lit (.bool true)], args := [d1, d2, d3] }
  | _ => none }
def novateNetsRow : OpenClaim := { program := "ytpifobhpijnehaa", sum := "e0d622c495363d037f2237531345493998ef410abe7a36369555db8bd3d1ec96", func := "contango/contangolaw13.NovateNets", spec := "novateNets", unfollowed := true, recurses := true, plainKeys := false, apart := false }
def NovateNetsSaid : Prop := novateNetsRow.holds Try.pinned (OpenSpec.ofChange novateNetsSpec)

/-- ITS FALSE NEIGHBOUR: 'it returns false'. Refute it at one input. -/
def novateNetsWrong : ChangeSpec := { name := "novateNets", fn := fun _ => fun
  | [d1, d2, d3] => { results := [.lit (.bool false)], args := [d1, d2, d3] }
  | _ => none }
def NovateNetsWrongFalsely : Prop := novateNetsRow.holds Try.pinned (OpenSpec.ofChange novateNetsWrong)

/-- 'contangolaw13.NovateFlat': WHATEVER THE INPUT: true; the input reads as it did. -/
def novateFlatSpec : ChangeSpec := { name := "novateFlat", fn := fun _ => fun
  | [d] => { results := [.lit (.bool true)], args := [d] }
  | _ => none }
def novateFlatRow : OpenClaim := { program := "ytpifobhpijnehaa", sum := "e0d622c495363d037f2237531345493998ef410abe7a36369555db8bd3d1ec96", func := "contango/contangolaw13.NovateFlat", spec := "novateFlat", unfollowed := true, recurses := true, plainKeys := false, apart := false }
def NovateFlatSaid : Prop := novateFlatRow.holds Try.pinned (OpenSpec.ofChange novateFlatSpec)

/-- ITS FALSE NEIGHBOUR: 'it returns false'. Refute it at one input. -/
def novateFlatWrong : ChangeSpec := { name := "novateFlat", fn := fun _ => fun
  | [d] => { results := [.lit (.bool false)], args := [d] }
  | _ => none }
def NovateFlatWrongFalsely : Prop := novateFlatRow.holds Try.pinned (OpenSpec.ofChange novateFlatWrong)

/-- 'contangolaw13.NovateWhole': WHATEVER THE INPUT: true; the input reads as it did. -/
def novateWholeSpec : ChangeSpec := { name := "novateWhole", fn := fun _ => fun
  | [d1, d2] => { results := [.lit (.bool true)], args := [d1, d2] }
  | _ => none }
def novateWholeRow : OpenClaim := { program := "ytpifobhpijnehaa", sum := "e0d622c495363d037f2237531345493998ef410abe7a36369555db8bd3d1ec96", func := "contango/contangolaw13.NovateWhole", spec := "novateWhole", unfollowed := true, recurses := true, plainKeys := false, apart := false }
def NovateWholeSaid : Prop := novateWholeRow.holds Try.pinned (OpenSpec.ofChange novateWholeSpec)

/-- ITS FALSE NEIGHBOUR: 'it returns false'. Refute it at one input. -/
def novateWholeWrong : ChangeSpec := { name := "novateWhole", fn := fun _ => fun
  | [d1, d2] => { results := [.lit (.bool false)], args := [d1, d2] }
  | _ => none }
def NovateWholeWrongFalsely : Prop := novateWholeRow.holds Try.pinned (OpenSpec.ofChange novateWholeWrong)

/- THE SECOND FORM. 'bulk': how many values and letters a reading holds, each counted each time it is reached (what is shared counts as often as it is met; a slice's spare places count too). A statement '..UptoSaid' is the law's where the arguments, and the package variables that the reading takes, are together of bulk at most 1048576: NARROWER than '..Said'. Prove '..Said' where nothing that the law and all that it calls make is longer than what came in: it says more and counts as full. Else prove '..UptoSaid'. A law counts once. -/
mutual
def uptoBulk {H : Type} : DataW H → Nat
  | .lit (.string bytes) => bytes.length + 1
  | .lit _ => 1
  | .nil => 1
  | .ptr d => uptoBulk d + 1
  | .slice elems spare => uptoBulkAll elems + uptoBulkAll spare + 1
  | .agg parts => uptoBulkAll parts + 1
  | .iface _ d => uptoBulk d + 1
  | .map entries => uptoBulkEntries entries + 1
  | .held _ => 1
def uptoBulkAll {H : Type} : List (DataW H) → Nat
  | [] => 0
  | d :: r => uptoBulk d + uptoBulkAll r
def uptoBulkEntries {H : Type} : List (Lit × DataW H) → Nat
  | [] => 0
  | x :: r => uptoBulkEntry x + uptoBulkEntries r
def uptoBulkEntry {H : Type} : Lit × DataW H → Nat
  | (.string bytes, d) => bytes.length + uptoBulk d + 1
  | (_, d) => uptoBulk d + 1
 end
def uptoSmall : (H : Type) → List (DataW H) → Bool := fun _ ds => decide (uptoBulkAll ds ≤ 1048576)
def OpenSpec.upto (s : _root_.Go.ChangeSpec) : _root_.Go.OpenSpec := { _root_.Go.OpenSpec.ofChange s with cond := some uptoSmall }

/-- 'contangolaw13.NovateCosts', WHERE WHAT IT READS IS OF BULK AT MOST 1048576: true; the input reads as it did. -/
def novateCostsUptoRow : OpenClaim := { program := "ytpifobhpijnehaa", sum := "e0d622c495363d037f2237531345493998ef410abe7a36369555db8bd3d1ec96", func := "contango/contangolaw13.NovateCosts", spec := "novateCosts", unfollowed := true, recurses := true, plainKeys := false, apart := false, narrowed := true }
def NovateCostsUptoSaid : Prop := novateCostsUptoRow.holds Try.pinned (OpenSpec.upto novateCostsSpec)

/-- 'contangolaw13.NovateLegs', WHERE WHAT IT READS IS OF BULK AT MOST 1048576: true; the input reads as it did. -/
def novateLegsUptoRow : OpenClaim := { program := "ytpifobhpijnehaa", sum := "e0d622c495363d037f2237531345493998ef410abe7a36369555db8bd3d1ec96", func := "contango/contangolaw13.NovateLegs", spec := "novateLegs", unfollowed := true, recurses := true, plainKeys := false, apart := false, narrowed := true }
def NovateLegsUptoSaid : Prop := novateLegsUptoRow.holds Try.pinned (OpenSpec.upto novateLegsSpec)

/-- 'contangolaw13.NovateNets', WHERE WHAT IT READS IS OF BULK AT MOST 1048576: true; the input reads as it did. -/
def novateNetsUptoRow : OpenClaim := { program := "ytpifobhpijnehaa", sum := "e0d622c495363d037f2237531345493998ef410abe7a36369555db8bd3d1ec96", func := "contango/contangolaw13.NovateNets", spec := "novateNets", unfollowed := true, recurses := true, plainKeys := false, apart := false, narrowed := true }
def NovateNetsUptoSaid : Prop := novateNetsUptoRow.holds Try.pinned (OpenSpec.upto novateNetsSpec)

/-- 'contangolaw13.NovateFlat', WHERE WHAT IT READS IS OF BULK AT MOST 1048576: true; the input reads as it did. -/
def novateFlatUptoRow : OpenClaim := { program := "ytpifobhpijnehaa", sum := "e0d622c495363d037f2237531345493998ef410abe7a36369555db8bd3d1ec96", func := "contango/contangolaw13.NovateFlat", spec := "novateFlat", unfollowed := true, recurses := true, plainKeys := false, apart := false, narrowed := true }
def NovateFlatUptoSaid : Prop := novateFlatUptoRow.holds Try.pinned (OpenSpec.upto novateFlatSpec)

/-- 'contangolaw13.NovateWhole', WHERE WHAT IT READS IS OF BULK AT MOST 1048576: true; the input reads as it did. -/
def novateWholeUptoRow : OpenClaim := { program := "ytpifobhpijnehaa", sum := "e0d622c495363d037f2237531345493998ef410abe7a36369555db8bd3d1ec96", func := "contango/contangolaw13.NovateWhole", spec := "novateWhole", unfollowed := true, recurses := true, plainKeys := false, apart := false, narrowed := true }
def NovateWholeUptoSaid : Prop := novateWholeUptoRow.holds Try.pinned (OpenSpec.upto novateWholeSpec)

end Rows
end Go.Proofs.Ytpifobhpijnehaa
