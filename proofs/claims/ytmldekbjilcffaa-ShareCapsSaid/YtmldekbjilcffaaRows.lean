/-
  No cell of these rows narrows 'for every input' (looked for: loops, veiled, ifaces, maps, wideKeys, modest, calm, conditions, laid).
  DERIVED. THE GIVEN ROWS OF THIS SEAT. 6 by the template 'for every input the law returns true; each argument reads behind the call as it read before'; 0 by the template 'total and deterministic' (their statements: YtmldekbjilcffaaTotals.lean).
  GIVEN WITH THE SEED: the statements are not yours to turn. If you find one false, say at which input.
  Laid BY PROGRAM, IN A SANDBOX (cutbox-rows.mjs): the forced cells as the released guide's own fill.sh prints them over the translation f89c9796425bc4a8… (all of the seat's roots in one cut). By AI agents, Wed Nov 11 2026. No macro, syntax, notation, axiom, sorry.
-/
import Derived.Test.YtmldekbjilcffaaChecked
import GoSem.Claim
import GoSem.ClaimJoined
import GoSem.ClaimMapViews
import Derived.JoinedTies
import Derived.KernelRfl
namespace Go.Proofs.Ytmldekbjilcffaa
/- THE CELL 'sum', in the pinned program and in every row, IS THE sha256 OF THE DUMP (.gsa) THAT YtmldekbjilcffaaProg.lean LOADS. Nothing in Lean hashes anything: it is a label: what it is worth is what the hold of that sum in a sandbox is worth. -/
noncomputable def Try.pinned : Pinned := { name := "ytmldekbjilcffaa", sum := "f89c9796425bc4a86742eb689a2a1641d059f300bd4f918718611364b169da70", checked := Try.checked }
namespace Rows
def none {H : Type} : Left H := { results := [], args := [] }

/-- 'contangolaw02.ShareCaps': WHATEVER THE INPUT: true; the input reads as it did. -/
def shareCapsSpec : ChangeSpec := { name := "shareCaps", fn := fun _ => fun
  | [d1, d2, d3] => { results := [.lit (.bool true)], args := [d1, d2, d3] }
  | _ => none }
def shareCapsRow : OpenClaim := { program := "ytmldekbjilcffaa", sum := "f89c9796425bc4a86742eb689a2a1641d059f300bd4f918718611364b169da70", func := "contango/contangolaw02.ShareCaps", spec := "shareCaps", unfollowed := true, recurses := true, apart := false }
def ShareCapsSaid : Prop := shareCapsRow.holds Try.pinned (OpenSpec.ofChange shareCapsSpec)

/-- ITS FALSE NEIGHBOUR: 'it returns false'. Refute it at one input. -/
def shareCapsWrong : ChangeSpec := { name := "shareCaps", fn := fun _ => fun
  | [d1, d2, d3] => { results := [.lit (.bool false)], args := [d1, d2, d3] }
  | _ => none }
def ShareCapsWrongFalsely : Prop := shareCapsRow.holds Try.pinned (OpenSpec.ofChange shareCapsWrong)

/-- 'contangolaw02.ShareWhole': WHATEVER THE INPUT: true; the input reads as it did. -/
def shareWholeSpec : ChangeSpec := { name := "shareWhole", fn := fun _ => fun
  | [d1, d2] => { results := [.lit (.bool true)], args := [d1, d2] }
  | _ => none }
def shareWholeRow : OpenClaim := { program := "ytmldekbjilcffaa", sum := "f89c9796425bc4a86742eb689a2a1641d059f300bd4f918718611364b169da70", func := "contango/contangolaw02.ShareWhole", spec := "shareWhole", unfollowed := true, recurses := true, apart := false }
def ShareWholeSaid : Prop := shareWholeRow.holds Try.pinned (OpenSpec.ofChange shareWholeSpec)

/-- ITS FALSE NEIGHBOUR: 'it returns false'. Refute it at one input. -/
def shareWholeWrong : ChangeSpec := { name := "shareWhole", fn := fun _ => fun
  | [d1, d2] => { results := [.lit (.bool false)], args := [d1, d2] }
  | _ => none }
def ShareWholeWrongFalsely : Prop := shareWholeRow.holds Try.pinned (OpenSpec.ofChange shareWholeWrong)

/-- 'contangolaw02.ShareRoom': WHATEVER THE INPUT: true; the input reads as it did. -/
def shareRoomSpec : ChangeSpec := { name := "shareRoom", fn := fun _ => fun
  | [d1, d2, d3] => { results := [.lit (.bool true)], args := [d1, d2, d3] }
  | _ => none }
def shareRoomRow : OpenClaim := { program := "ytmldekbjilcffaa", sum := "f89c9796425bc4a86742eb689a2a1641d059f300bd4f918718611364b169da70", func := "contango/contangolaw02.ShareRoom", spec := "shareRoom", unfollowed := true, recurses := true, apart := false }
def ShareRoomSaid : Prop := shareRoomRow.holds Try.pinned (OpenSpec.ofChange shareRoomSpec)

/-- ITS FALSE NEIGHBOUR: 'it returns false'. Refute it at one input. -/
def shareRoomWrong : ChangeSpec := { name := "shareRoom", fn := fun _ => fun
  | [d1, d2, d3] => { results := [.lit (.bool false)], args := [d1, d2, d3] }
  | _ => none }
def ShareRoomWrongFalsely : Prop := shareRoomRow.holds Try.pinned (OpenSpec.ofChange shareRoomWrong)

/-- 'contangolaw02.ShareFills': WHATEVER THE INPUT: true; the input reads as it did. -/
def shareFillsSpec : ChangeSpec := { name := "shareFills", fn := fun _ => fun
  | [d1, d2] => { results := [.lit (.bool true)], args := [d1, d2] }
  | _ => none }
def shareFillsRow : OpenClaim := { program := "ytmldekbjilcffaa", sum := "f89c9796425bc4a86742eb689a2a1641d059f300bd4f918718611364b169da70", func := "contango/contangolaw02.ShareFills", spec := "shareFills", unfollowed := true, recurses := true, apart := false }
def ShareFillsSaid : Prop := shareFillsRow.holds Try.pinned (OpenSpec.ofChange shareFillsSpec)

/-- ITS FALSE NEIGHBOUR: 'it returns false'. Refute it at one input. -/
def shareFillsWrong : ChangeSpec := { name := "shareFills", fn := fun _ => fun
  | [d1, d2] => { results := [.lit (.bool false)], args := [d1, d2] }
  | _ => none }
def ShareFillsWrongFalsely : Prop := shareFillsRow.holds Try.pinned (OpenSpec.ofChange shareFillsWrong)

/-- 'contangolaw02.ShareBack': WHATEVER THE INPUT: true; the input reads as it did. -/
def shareBackSpec : ChangeSpec := { name := "shareBack", fn := fun _ => fun
  | [d1, d2, d3] => { results := [.lit (.bool true)], args := [d1, d2, d3] }
  | _ => none }
def shareBackRow : OpenClaim := { program := "ytmldekbjilcffaa", sum := "f89c9796425bc4a86742eb689a2a1641d059f300bd4f918718611364b169da70", func := "contango/contangolaw02.ShareBack", spec := "shareBack", unfollowed := true, recurses := true, apart := false }
def ShareBackSaid : Prop := shareBackRow.holds Try.pinned (OpenSpec.ofChange shareBackSpec)

/-- ITS FALSE NEIGHBOUR: 'it returns false'. Refute it at one input. -/
def shareBackWrong : ChangeSpec := { name := "shareBack", fn := fun _ => fun
  | [d1, d2, d3] => { results := [.lit (.bool false)], args := [d1, d2, d3] }
  | _ => none }
def ShareBackWrongFalsely : Prop := shareBackRow.holds Try.pinned (OpenSpec.ofChange shareBackWrong)

/-- 'contangolaw02.ShareSplits': WHATEVER THE INPUT: true; the input reads as it did. -/
def shareSplitsSpec : ChangeSpec := { name := "shareSplits", fn := fun _ => fun
  | [d1, d2] => { results := [.lit (.bool true)], args := [d1, d2] }
  | _ => none }
def shareSplitsRow : OpenClaim := { program := "ytmldekbjilcffaa", sum := "f89c9796425bc4a86742eb689a2a1641d059f300bd4f918718611364b169da70", func := "contango/contangolaw02.ShareSplits", spec := "shareSplits", unfollowed := true, recurses := true, apart := false }
def ShareSplitsSaid : Prop := shareSplitsRow.holds Try.pinned (OpenSpec.ofChange shareSplitsSpec)

/-- ITS FALSE NEIGHBOUR: 'it returns false'. Refute it at one input. -/
def shareSplitsWrong : ChangeSpec := { name := "shareSplits", fn := fun _ => fun
  | [d1, d2] => { results := [.lit (.bool false)], args := [d1, d2] }
  | _ => none }
def ShareSplitsWrongFalsely : Prop := shareSplitsRow.holds Try.pinned (OpenSpec.ofChange shareSplitsWrong)

/- THE SECOND FORM. 'bulk': how many values and letters a reading holds, each counted each time it is reached (what is shared counts as often as it is met; a slice's spare places count too). A statement '..UptoSaid' is the law's where the arguments, and the package variables that the reading takes, are together of bulk at most 1048576: NARROWER than '..Said'. Prove '..Said' where nothing that the law and all that it calls make is longer than what came in: it says more and counts as full. Else prove '..UptoSaid'. A law counts once. -/
mutual
def uptoBulk {H : Type} : DataW H → Nat
  | .lit (.string bytes) => bytes.length + 1
  | .lit _ => 1
  | .nil => 1
  | .ptr d => uptoBulk d + 1
  | .slice elems spare => uptoBulkAll elems + uptoBulkAll spare + 1
  | .agg parts => uptoBulkAll parts + 1
  | .iface _ d => uptoBulk d + 1
  | .map entries => uptoBulkEntries entries + 1
  | .held _ => 1
def uptoBulkAll {H : Type} : List (DataW H) → Nat
  | [] => 0
  | d :: r => uptoBulk d + uptoBulkAll r
def uptoBulkEntries {H : Type} : List (Lit × DataW H) → Nat
  | [] => 0
  | x :: r => uptoBulkEntry x + uptoBulkEntries r
def uptoBulkEntry {H : Type} : Lit × DataW H → Nat
  | (.string bytes, d) => bytes.length + uptoBulk d + 1
  | (_, d) => uptoBulk d + 1
 end
def uptoSmall : (H : Type) → List (DataW H) → Bool := fun _ ds => decide (uptoBulkAll ds ≤ 1048576)
def OpenSpec.upto (s : _root_.Go.ChangeSpec) : _root_.Go.OpenSpec := { _root_.Go.OpenSpec.ofChange s with cond := some uptoSmall }

/-- 'contangolaw02.ShareCaps', WHERE WHAT IT READS IS OF BULK AT MOST 1048576: true; the input reads as it did. -/
def shareCapsUptoRow : OpenClaim := { program := "ytmldekbjilcffaa", sum := "f89c9796425bc4a86742eb689a2a1641d059f300bd4f918718611364b169da70", func := "contango/contangolaw02.ShareCaps", spec := "shareCaps", unfollowed := true, recurses := true, apart := false, narrowed := true }
def ShareCapsUptoSaid : Prop := shareCapsUptoRow.holds Try.pinned (OpenSpec.upto shareCapsSpec)

/-- 'contangolaw02.ShareWhole', WHERE WHAT IT READS IS OF BULK AT MOST 1048576: true; the input reads as it did. -/
def shareWholeUptoRow : OpenClaim := { program := "ytmldekbjilcffaa", sum := "f89c9796425bc4a86742eb689a2a1641d059f300bd4f918718611364b169da70", func := "contango/contangolaw02.ShareWhole", spec := "shareWhole", unfollowed := true, recurses := true, apart := false, narrowed := true }
def ShareWholeUptoSaid : Prop := shareWholeUptoRow.holds Try.pinned (OpenSpec.upto shareWholeSpec)

/-- 'contangolaw02.ShareRoom', WHERE WHAT IT READS IS OF BULK AT MOST 1048576: true; the input reads as it did. -/
def shareRoomUptoRow : OpenClaim := { program := "ytmldekbjilcffaa", sum := "f89c9796425bc4a86742eb689a2a1641d059f300bd4f918718611364b169da70", func := "contango/contangolaw02.ShareRoom", spec := "shareRoom", unfollowed := true, recurses := true, apart := false, narrowed := true }
def ShareRoomUptoSaid : Prop := shareRoomUptoRow.holds Try.pinned (OpenSpec.upto shareRoomSpec)

/-- 'contangolaw02.ShareFills', WHERE WHAT IT READS IS OF BULK AT MOST 1048576: true; the input reads as it did. -/
def shareFillsUptoRow : OpenClaim := { program := "ytmldekbjilcffaa", sum := "f89c9796425bc4a86742eb689a2a1641d059f300bd4f918718611364b169da70", func := "contango/contangolaw02.ShareFills", spec := "shareFills", unfollowed := true, recurses := true, apart := false, narrowed := true }
def ShareFillsUptoSaid : Prop := shareFillsUptoRow.holds Try.pinned (OpenSpec.upto shareFillsSpec)

/-- 'contangolaw02.ShareBack', WHERE WHAT IT READS IS OF BULK AT MOST 1048576: true; the input reads as it did. -/
def shareBackUptoRow : OpenClaim := { program := "ytmldekbjilcffaa", sum := "f89c9796425bc4a86742eb689a2a1641d059f300bd4f918718611364b169da70", func := "contango/contangolaw02.ShareBack", spec := "shareBack", unfollowed := true, recurses := true, apart := false, narrowed := true }
def ShareBackUptoSaid : Prop := shareBackUptoRow.holds Try.pinned (OpenSpec.upto shareBackSpec)

/-- 'contangolaw02.ShareSplits', WHERE WHAT IT READS IS OF BULK AT MOST 1048576: true; the input reads as it did. -/
def shareSplitsUptoRow : OpenClaim := { program := "ytmldekbjilcffaa", sum := "f89c9796425bc4a86742eb689a2a1641d059f300bd4f918718611364b169da70", func := "contango/contangolaw02.ShareSplits", spec := "shareSplits", unfollowed := true, recurses := true, apart := false, narrowed := true }
def ShareSplitsUptoSaid : Prop := shareSplitsUptoRow.holds Try.pinned (OpenSpec.upto shareSplitsSpec)

end Rows
end Go.Proofs.Ytmldekbjilcffaa
