/-
  No cell of these rows narrows 'for every input' (looked for: loops, veiled, ifaces, maps, wideKeys, modest, calm, conditions, laid).
  DERIVED. THE GIVEN ROWS OF THIS SEAT. 5 by the template 'for every input the law returns true; each argument reads behind the call as it read before'; 0 by the template 'total and deterministic' (their statements: YtfhemdhgpcpfaaaTotals.lean).
  GIVEN WITH THE SEED: the statements are not yours to turn. If you find one false, say at which input.
  Laid BY PROGRAM, IN A SANDBOX (cutbox-rows.mjs): the forced cells as the released guide's own fill.sh prints them over the translation 92435e337b2d884f… (all of the seat's roots in one cut). By AI agents, Wed Nov 11 2026. No macro, syntax, notation, axiom, sorry.
-/
import Derived.Test.YtfhemdhgpcpfaaaChecked
import GoSem.Claim
import GoSem.ClaimJoined
import GoSem.ClaimMapViews
import Derived.JoinedTies
import Derived.KernelRfl
namespace Go.Proofs.Ytfhemdhgpcpfaaa
/- THE CELL 'sum', in the pinned program and in every row, IS THE sha256 OF THE DUMP (.gsa) THAT YtfhemdhgpcpfaaaProg.lean LOADS. Nothing in Lean hashes anything: it is a label: what it is worth is what the hold of that sum in a sandbox is worth. -/
noncomputable def Try.pinned : Pinned := { name := "ytfhemdhgpcpfaaa", sum := "92435e337b2d884f2b27e6cc40693c7c187e4b23c6698288fdebc6976adc923a", checked := Try.checked }
namespace Rows
def none {H : Type} : Left H := { results := [], args := [] }

/-- 'archivistlaw17.SplitTells': WHATEVER THE INPUT: true; the input reads as it did. -/
def splitTellsSpec : ChangeSpec := { name := "splitTells", fn := fun _ => fun
  | [d1, d2, d3, d4, d5, d6] => { results := [.lit (.bool true)], args := [d1, d2, d3, d4, d5, d6] }
  | _ => none }
def splitTellsRow : OpenClaim := { program := "ytfhemdhgpcpfaaa", sum := "92435e337b2d884f2b27e6cc40693c7c187e4b23c6698288fdebc6976adc923a", func := "archivist/archivistlaw17.SplitTells", spec := "splitTells", unfollowed := true, recurses := true, apart := false }
def SplitTellsSaid : Prop := splitTellsRow.holds Try.pinned (OpenSpec.ofChange splitTellsSpec)

/-- ITS FALSE NEIGHBOUR: 'it returns false'. Refute it at one input. -/
def splitTellsWrong : ChangeSpec := { name := "splitTells", fn := fun _ => fun
  | [d1, d2, d3, d4, d5, d6] => { results := [.lit (.bool false)], args := [d1, d2, d3, d4, d5, d6] }
  | _ => none }
def SplitTellsWrongFalsely : Prop := splitTellsRow.holds Try.pinned (OpenSpec.ofChange splitTellsWrong)

/-- 'archivistlaw17.SplitWhole': WHATEVER THE INPUT: true; the input reads as it did. -/
def splitWholeSpec : ChangeSpec := { name := "splitWhole", fn := fun _ => fun
  | [d1, d2, d3, d4] => { results := [.lit (.bool true)], args := [d1, d2, d3, d4] }
  | _ => none }
def splitWholeRow : OpenClaim := { program := "ytfhemdhgpcpfaaa", sum := "92435e337b2d884f2b27e6cc40693c7c187e4b23c6698288fdebc6976adc923a", func := "archivist/archivistlaw17.SplitWhole", spec := "splitWhole", unfollowed := true, recurses := true, apart := false }
def SplitWholeSaid : Prop := splitWholeRow.holds Try.pinned (OpenSpec.ofChange splitWholeSpec)

/-- ITS FALSE NEIGHBOUR: 'it returns false'. Refute it at one input. -/
def splitWholeWrong : ChangeSpec := { name := "splitWhole", fn := fun _ => fun
  | [d1, d2, d3, d4] => { results := [.lit (.bool false)], args := [d1, d2, d3, d4] }
  | _ => none }
def SplitWholeWrongFalsely : Prop := splitWholeRow.holds Try.pinned (OpenSpec.ofChange splitWholeWrong)

/-- 'archivistlaw17.SplitBehind': WHATEVER THE INPUT: true; the input reads as it did. -/
def splitBehindSpec : ChangeSpec := { name := "splitBehind", fn := fun _ => fun
  | [d1, d2, d3, d4, d5] => { results := [.lit (.bool true)], args := [d1, d2, d3, d4, d5] }
  | _ => none }
def splitBehindRow : OpenClaim := { program := "ytfhemdhgpcpfaaa", sum := "92435e337b2d884f2b27e6cc40693c7c187e4b23c6698288fdebc6976adc923a", func := "archivist/archivistlaw17.SplitBehind", spec := "splitBehind", unfollowed := true, recurses := true, apart := false }
def SplitBehindSaid : Prop := splitBehindRow.holds Try.pinned (OpenSpec.ofChange splitBehindSpec)

/-- ITS FALSE NEIGHBOUR: 'it returns false'. Refute it at one input. -/
def splitBehindWrong : ChangeSpec := { name := "splitBehind", fn := fun _ => fun
  | [d1, d2, d3, d4, d5] => { results := [.lit (.bool false)], args := [d1, d2, d3, d4, d5] }
  | _ => none }
def SplitBehindWrongFalsely : Prop := splitBehindRow.holds Try.pinned (OpenSpec.ofChange splitBehindWrong)

/-- 'archivistlaw17.SplitWrong': WHATEVER THE INPUT: true; the input reads as it did. -/
def splitWrongSpec : ChangeSpec := { name := "splitWrong", fn := fun _ => fun
  | [d1, d2, d3] => { results := [.lit (.bool true)], args := [d1, d2, d3] }
  | _ => none }
def splitWrongRow : OpenClaim := { program := "ytfhemdhgpcpfaaa", sum := "92435e337b2d884f2b27e6cc40693c7c187e4b23c6698288fdebc6976adc923a", func := "archivist/archivistlaw17.SplitWrong", spec := "splitWrong", unfollowed := true, recurses := true, apart := false }
def SplitWrongSaid : Prop := splitWrongRow.holds Try.pinned (OpenSpec.ofChange splitWrongSpec)

/-- ITS FALSE NEIGHBOUR: 'it returns false'. Refute it at one input. -/
def splitWrongWrong : ChangeSpec := { name := "splitWrong", fn := fun _ => fun
  | [d1, d2, d3] => { results := [.lit (.bool false)], args := [d1, d2, d3] }
  | _ => none }
def SplitWrongWrongFalsely : Prop := splitWrongRow.holds Try.pinned (OpenSpec.ofChange splitWrongWrong)

/-- 'archivistlaw17.SplitMany': WHATEVER THE INPUT: true; the input reads as it did. -/
def splitManySpec : ChangeSpec := { name := "splitMany", fn := fun _ => fun
  | [d1, d2, d3, d4] => { results := [.lit (.bool true)], args := [d1, d2, d3, d4] }
  | _ => none }
def splitManyRow : OpenClaim := { program := "ytfhemdhgpcpfaaa", sum := "92435e337b2d884f2b27e6cc40693c7c187e4b23c6698288fdebc6976adc923a", func := "archivist/archivistlaw17.SplitMany", spec := "splitMany", unfollowed := true, recurses := true, apart := false }
def SplitManySaid : Prop := splitManyRow.holds Try.pinned (OpenSpec.ofChange splitManySpec)

/-- ITS FALSE NEIGHBOUR: 'it returns false'. Refute it at one input. -/
def splitManyWrong : ChangeSpec := { name := "splitMany", fn := fun _ => fun
  | [d1, d2, d3, d4] => { results := [.lit (.bool false)], args := [d1, d2, d3, d4] }
  | _ => none }
def SplitManyWrongFalsely : Prop := splitManyRow.holds Try.pinned (OpenSpec.ofChange splitManyWrong)

/- THE SECOND FORM. 'bulk': how many values and letters a reading holds, each counted each time it is reached (what is shared counts as often as it is met; a slice's spare places count too). A statement '..UptoSaid' is the law's where the arguments, and the package variables that the reading takes, are together of bulk at most 1048576: NARROWER than '..Said'. Prove '..Said' where nothing that the law and all that it calls make is longer than what came in: it says more and counts as full. Else prove '..UptoSaid'. A law counts once. -/
mutual
def uptoBulk {H : Type} : DataW H → Nat
  | .lit (.string bytes) => bytes.length + 1
  | .lit _ => 1
  | .nil => 1
  | .ptr d => uptoBulk d + 1
  | .slice elems spare => uptoBulkAll elems + uptoBulkAll spare + 1
  | .agg parts => uptoBulkAll parts + 1
  | .iface _ d => uptoBulk d + 1
  | .map entries => uptoBulkEntries entries + 1
  | .held _ => 1
def uptoBulkAll {H : Type} : List (DataW H) → Nat
  | [] => 0
  | d :: r => uptoBulk d + uptoBulkAll r
def uptoBulkEntries {H : Type} : List (Lit × DataW H) → Nat
  | [] => 0
  | x :: r => uptoBulkEntry x + uptoBulkEntries r
def uptoBulkEntry {H : Type} : Lit × DataW H → Nat
  | (.string bytes, d) => bytes.length + uptoBulk d + 1
  | (_, d) => uptoBulk d + 1
 end
def uptoSmall : (H : Type) → List (DataW H) → Bool := fun _ ds => decide (uptoBulkAll ds ≤ 1048576)
def OpenSpec.upto (s : _root_.Go.ChangeSpec) : _root_.Go.OpenSpec := { _root_.Go.OpenSpec.ofChange s with cond := some uptoSmall }

/-- 'archivistlaw17.SplitTells', WHERE WHAT IT READS IS OF BULK AT MOST 1048576: true; the input reads as it did. -/
def splitTellsUptoRow : OpenClaim := { program := "ytfhemdhgpcpfaaa", sum := "92435e337b2d884f2b27e6cc40693c7c187e4b23c6698288fdebc6976adc923a", func := "archivist/archivistlaw17.SplitTells", spec := "splitTells", unfollowed := true, recurses := true, apart := false, narrowed := true }
def SplitTellsUptoSaid : Prop := splitTellsUptoRow.holds Try.pinned (OpenSpec.upto splitTellsSpec)

/-- 'archivistlaw17.SplitWhole', WHERE WHAT IT READS IS OF BULK AT MOST 1048576: true; the input reads as it did. -/
def splitWholeUptoRow : OpenClaim := { program := "ytfhemdhgpcpfaaa", sum := "92435e337b2d884f2b27e6cc40693c7c187e4b23c6698288fdebc6976adc923a", func := "archivist/archivistlaw17.SplitWhole", spec := "splitWhole", unfollowed := true, recurses := true, apart := false, narrowed := true }
def SplitWholeUptoSaid : Prop := splitWholeUptoRow.holds Try.pinned (OpenSpec.upto splitWholeSpec)

/-- 'archivistlaw17.SplitBehind', WHERE WHAT IT READS IS OF BULK AT MOST 1048576: true; the input reads as it did. -/
def splitBehindUptoRow : OpenClaim := { program := "ytfhemdhgpcpfaaa", sum := "92435e337b2d884f2b27e6cc40693c7c187e4b23c6698288fdebc6976adc923a", func := "archivist/archivistlaw17.SplitBehind", spec := "splitBehind", unfollowed := true, recurses := true, apart := false, narrowed := true }
def SplitBehindUptoSaid : Prop := splitBehindUptoRow.holds Try.pinned (OpenSpec.upto splitBehindSpec)

/-- 'archivistlaw17.SplitWrong', WHERE WHAT IT READS IS OF BULK AT MOST 1048576: true; the input reads as it did. -/
def splitWrongUptoRow : OpenClaim := { program := "ytfhemdhgpcpfaaa", sum := "92435e337b2d884f2b27e6cc40693c7c187e4b23c6698288fdebc6976adc923a", func := "archivist/archivistlaw17.SplitWrong", spec := "splitWrong", unfollowed := true, recurses := true, apart := false, narrowed := true }
def SplitWrongUptoSaid : Prop := splitWrongUptoRow.holds Try.pinned (OpenSpec.upto splitWrongSpec)

/-- 'archivistlaw17.SplitMany', WHERE WHAT IT READS IS OF BULK AT MOST 1048576: true; the input reads as it did. -/
def splitManyUptoRow : OpenClaim := { program := "ytfhemdhgpcpfaaa", sum := "92435e337b2d884f2b27e6cc40693c7c187e4b23c6698288fdebc6976adc923a", func := "archivist/archivistlaw17.SplitMany", spec := "splitMany", unfollowed := true, recurses := true, apart := false, narrowed := true }
def SplitManyUptoSaid : Prop := splitManyUptoRow.holds Try.pinned (OpenSpec.upto splitManySpec)

end Rows
end Go.Proofs.Ytfhemdhgpcpfaaa
