/-
  No cell of these rows narrows 'for every input' (looked for: loops, veiled, ifaces, maps, wideKeys, modest, calm, conditions, laid).
  DERIVED. THE GIVEN ROWS OF THIS SEAT. 5 by the template 'for every input the law returns true; each argument reads behind the call as it read before'; 0 by the template 'total and deterministic' (their statements: YtaffedkheehplaaTotals.lean).
  GIVEN WITH THE SEED: the statements are not yours to turn. If you find one false, say at which input.
  Laid BY PROGRAM, IN A SANDBOX (cutbox-rows.mjs): the forced cells as the released guide's own fill.sh prints them over the translation 6d29d83fea6717a7… (all of the seat's roots in one cut). By AI agents, Wed Nov 11 2026. No macro, syntax, notation, axiom, sorry.
-/
import Derived.Test.YtaffedkheehplaaChecked
import GoSem.Claim
import GoSem.ClaimJoined
import GoSem.ClaimMapViews
import Derived.JoinedTies
import Derived.KernelRfl
namespace Go.Proofs.Ytaffedkheehplaa
/- THE CELL 'sum', in the pinned program and in every row, IS THE sha256 OF THE DUMP (.gsa) THAT YtaffedkheehplaaProg.lean LOADS. Nothing in Lean hashes anything: it is a label: what it is worth is what the hold of that sum in a sandbox is worth. -/
noncomputable def Try.pinned : Pinned := { name := "ytaffedkheehplaa", sum := "6d29d83fea6717a7b0f7fb1658b56c392009fe47c84d018dbbeb2364ae524c7a", checked := Try.checked }
namespace Rows
def none {H : Type} : Left H := { results := [], args := [] }

/-- 'contangolaw14.GiveupAverages': WHATEVER THE INPUT: true; the input reads as it did. -/
def giveupAveragesSpec : ChangeSpec := { name := "giveupAverages", fn := fun _ => fun
  | [d1, d2, d3] => { results := [.lit (.bool true)], args := [d1, d2, d3] }
  | _ => none }
def giveupAveragesRow : OpenClaim := { program := "ytaffedkheehplaa", sum := "6d29d83fea6717a7b0f7fb1658b56c392009fe47c84d018dbbeb2364ae524c7a", func := "contango/contangolaw14.GiveupAverages", spec := "giveupAverages", unfollowed := true, recurses := true, plainKeys := false, apart := false }
def GiveupAveragesSaid : Prop := giveupAveragesRow.holds Try.pinned (OpenSpec.ofChange giveupAveragesSpec)

/-- ITS FALSE NEIGHBOUR: 'it returns false'. Refute it at one input. -/
def giveupAveragesWrong : ChangeSpec := { name := "giveupAverages", fn := fun _ => fun
  | [d1, d2, d3] => { results := [.lit (.bool false)], args := [d1, d2, d3] }
  | _ => none }
def GiveupAveragesWrongFalsely : Prop := giveupAveragesRow.holds Try.pinned (OpenSpec.ofChange giveupAveragesWrong)

/-- 'contangolaw14.GiveupPays': WHATEVER THE INPUT: true; the input reads as it did. -/
def giveupPaysSpec : ChangeSpec := { name := "giveupPays", fn := fun _ => fun
  | [d1, d2, d3] => { results := [.lit (.bool true)], args := [d1, d2, d3] }
  | _ => none }
def giveupPaysRow : OpenClaim := { program := "ytaffedkheehplaa", sum := "6d29d83fea6717a7b0f7fb1658b56c392009fe47c84d018dbbeb2364ae524c7a", func := "contango/contangolaw14.GiveupPays", spec := "giveupPays", unfollowed := true, recurses := true, plainKeys := false, apart := false }
def GiveupPaysSaid : Prop := giveupPaysRow.holds Try.pinned (OpenSpec.ofChange giveupPaysSpec)

/-- ITS FALSE NEIGHBOUR: 'it returns false'. Refute it at one input. -/
def giveupPaysWrong : ChangeSpec := { name := "giveupPays", fn := fun _ => fun
  | [d1, d2, d3] => { results := [.lit (.bool false)], args := [d1, d2, d3] }
  | _ => none }
def GiveupPaysWrongFalsely : Prop := giveupPaysRow.holds Try.pinned (OpenSpec.ofChange giveupPaysWrong)

/-- 'contangolaw14.GiveupSides': WHATEVER THE INPUT: true; the input reads as it did. -/
def giveupSidesSpec : ChangeSpec := { name := "giveupSides", fn := fun _ => fun
  | [d1, d2, d3] => { results := [.lit (.bool true)], args := [d1, d2, d3] }
  | _ => none }
def giveupSidesRow : OpenClaim := { program := "ytaffedkheehplaa", sum := "6d29d83fea6717a7b0f7fb1658b56c392009fe47c84d018dbbeb2364ae524c7a", func := "contango/contangolaw14.GiveupSides", spec := "giveupSides", unfollowed := true, recurses := true, plainKeys := false, apart := false }
def GiveupSidesSaid : Prop := giveupSidesRow.holds Try.pinned (OpenSpec.ofChange giveupSidesSpec)

/-- ITS FALSE NEIGHBOUR: 'it returns false'. Refute it at one input. -/
def giveupSidesWrong : ChangeSpec := { name := "giveupSides", fn := fun _ => fun
  | [d1, d2, d3] => { results := [.lit (.bool false)], args := [d1, d2, d3] }
  | _ => none }
def GiveupSidesWrongFalsely : Prop := giveupSidesRow.holds Try.pinned (OpenSpec.ofChange giveupSidesWrong)

/-- 'contangolaw14.GiveupDivides': WHATEVER THE INPUT: true; the input reads as it did. -/
def giveupDividesSpec : ChangeSpec := { name := "giveupDivides", fn := fun _ => fun
  | [d1, d2, d3] => { results := [.lit (.bool true)], args := [d1, d2, d3] }
  | _ => none }
def giveupDividesRow : OpenClaim := { program := "ytaffedkheehplaa", sum := "6d29d83fea6717a7b0f7fb1658b56c392009fe47c84d018dbbeb2364ae524c7a", func := "contango/contangolaw14.GiveupDivides", spec := "giveupDivides", unfollowed := true, recurses := true, plainKeys := false, apart := false }
def GiveupDividesSaid : Prop := giveupDividesRow.holds Try.pinned (OpenSpec.ofChange giveupDividesSpec)

/-- ITS FALSE NEIGHBOUR: 'it returns false'. Refute it at one input. -/
def giveupDividesWrong : ChangeSpec := { name := "giveupDivides", fn := fun _ => fun
  | [d1, d2, d3] => { results := [.lit (.bool false)], args := [d1, d2, d3] }
  | _ => none }
def GiveupDividesWrongFalsely : Prop := giveupDividesRow.holds Try.pinned (OpenSpec.ofChange giveupDividesWrong)

/-- 'contangolaw14.GiveupKeeps': WHATEVER THE INPUT: true; the input reads as it did. -/
def giveupKeepsSpec : ChangeSpec := { name := "giveupKeeps", fn := fun _ => fun
  | [d1, d2, d3] => { results := [.lit (.bool true)], args := [d1, d2, d3] }
  | _ => none }
def giveupKeepsRow : OpenClaim := { program := "ytaffedkheehplaa", sum := "6d29d83fea6717a7b0f7fb1658b56c392009fe47c84d018dbbeb2364ae524c7a", func := "contango/contangolaw14.GiveupKeeps", spec := "giveupKeeps", unfollowed := true, recurses := true, plainKeys := false, apart := false }
def GiveupKeepsSaid : Prop := giveupKeepsRow.holds Try.pinned (OpenSpec.ofChange giveupKeepsSpec)

/-- ITS FALSE NEIGHBOUR: 'it returns false'. Refute it at one input. -/
def giveupKeepsWrong : ChangeSpec := { name := "giveupKeeps", fn := fun _ => fun
  | [d1, d2, d3] => { results := [.lit (.bool false)], args := [d1, d2, d3] }
  | _ => none }
def GiveupKeepsWrongFalsely : Prop := giveupKeepsRow.holds Try.pinned (OpenSpec.ofChange giveupKeepsWrong)

/- THE SECOND FORM. 'bulk': how many values and letters a reading holds, each counted each time it is reached (what is shared counts as often as it is met; a slice's spare places count too). A statement '..UptoSaid' is the law's where the arguments, and the package variables that the reading takes, are together of bulk at most 1048576: NARROWER than '..Said'. Prove '..Said' where nothing that the law and all that it calls make is longer than what came in: it says more and counts as full. Else prove '..UptoSaid'. A law counts once. -/
mutual
def uptoBulk {H : Type} : DataW H → Nat
  | .lit (.string bytes) => bytes.length + 1
  | .lit _ => 1
  | .nil => 1
  | .ptr d => uptoBulk d + 1
  | .slice elems spare => uptoBulkAll elems + uptoBulkAll spare + 1
  | .agg parts => uptoBulkAll parts + 1
  | .iface _ d => uptoBulk d + 1
  | .map entries => uptoBulkEntries entries + 1
  | .held _ => 1
def uptoBulkAll {H : Type} : List (DataW H) → Nat
  | [] => 0
  | d :: r => uptoBulk d + uptoBulkAll r
def uptoBulkEntries {H : Type} : List (Lit × DataW H) → Nat
  | [] => 0
  | x :: r => uptoBulkEntry x + uptoBulkEntries r
def uptoBulkEntry {H : Type} : Lit × DataW H → Nat
  | (.string bytes, d) => bytes.length + uptoBulk d + 1
  | (_, d) => uptoBulk d + 1
 end
def uptoSmall : (H : Type) → List (DataW H) → Bool := fun _ ds => decide (uptoBulkAll ds ≤ 1048576)
def OpenSpec.upto (s : _root_.Go.ChangeSpec) : _root_.Go.OpenSpec := { _root_.Go.OpenSpec.ofChange s with cond := some uptoSmall }

/-- 'contangolaw14.GiveupAverages', WHERE WHAT IT READS IS OF BULK AT MOST 1048576: true; the input reads as it did. -/
def giveupAveragesUptoRow : OpenClaim := { program := "ytaffedkheehplaa", sum := "6d29d83fea6717a7b0f7fb1658b56c392009fe47c84d018dbbeb2364ae524c7a", func := "contango/contangolaw14.GiveupAverages", spec := "giveupAverages", unfollowed := true, recurses := true, plainKeys := false, apart := false, narrowed := true }
def GiveupAveragesUptoSaid : Prop := giveupAveragesUptoRow.holds Try.pinned (OpenSpec.upto giveupAveragesSpec)

/-- 'contangolaw14.GiveupPays', WHERE WHAT IT READS IS OF BULK AT MOST 1048576: true; the input reads as it did. -/
def giveupPaysUptoRow : OpenClaim := { program := "ytaffedkheehplaa", sum := "6d29d83fea6717a7b0f7fb1658b56c392009fe47c84d018dbbeb2364ae524c7a", func := "contango/contangolaw14.GiveupPays", spec := "giveupPays", unfollowed := true, recurses := true, plainKeys := false, apart := false, narrowed := true }
def GiveupPaysUptoSaid : Prop := giveupPaysUptoRow.holds Try.pinned (OpenSpec.upto giveupPaysSpec)

/-- 'contangolaw14.GiveupSides', WHERE WHAT IT READS IS OF BULK AT MOST 1048576: true; the input reads as it did. -/
def giveupSidesUptoRow : OpenClaim := { program := "ytaffedkheehplaa", sum := "6d29d83fea6717a7b0f7fb1658b56c392009fe47c84d018dbbeb2364ae524c7a", func := "contango/contangolaw14.GiveupSides", spec := "giveupSides", unfollowed := true, recurses := true, plainKeys := false, apart := false, narrowed := true }
def GiveupSidesUptoSaid : Prop := giveupSidesUptoRow.holds Try.pinned (OpenSpec.upto giveupSidesSpec)

/-- 'contangolaw14.GiveupDivides', WHERE WHAT IT READS IS OF BULK AT MOST 1048576: true; the input reads as it did. -/
def giveupDividesUptoRow : OpenClaim := { program := "ytaffedkheehplaa", sum := "6d29d83fea6717a7b0f7fb1658b56c392009fe47c84d018dbbeb2364ae524c7a", func := "contango/contangolaw14.GiveupDivides", spec := "giveupDivides", unfollowed := true, recurses := true, plainKeys := false, apart := false, narrowed := true }
def GiveupDividesUptoSaid : Prop := giveupDividesUptoRow.holds Try.pinned (OpenSpec.upto giveupDividesSpec)

/-- 'contangolaw14.GiveupKeeps', WHERE WHAT IT READS IS OF BULK AT MOST 1048576: true; the input reads as it did. -/
def giveupKeepsUptoRow : OpenClaim := { program := "ytaffedkheehplaa", sum := "6d29d83fea6717a7b0f7fb1658b56c392009fe47c84d018dbbeb2364ae524c7a", func := "contango/contangolaw14.GiveupKeeps", spec := "giveupKeeps", unfollowed := true, recurses := true, plainKeys := false, apart := false, narrowed := true }
def GiveupKeepsUptoSaid : Prop := giveupKeepsUptoRow.holds Try.pinned (OpenSpec.upto giveupKeepsSpec)

end Rows
end Go.Proofs.Ytaffedkheehplaa
