/-
  No cell of these rows narrows 'for every input' (looked for: loops, veiled, ifaces, maps, wideKeys, modest, calm, conditions, laid).
  DERIVED. THE GIVEN ROWS OF THIS SEAT. 12 by the template 'for every input the law returns true; each argument reads behind the call as it read before'; 0 by the template 'total and deterministic' (their statements: YtcalkgcnciobpaaTotals.lean).
  GIVEN WITH THE SEED: the statements are not yours to turn. If you find one false, say at which input.
  Laid BY PROGRAM, IN A SANDBOX (cutbox-rows.mjs): the forced cells as the released guide's own fill.sh prints them over the translation dc59de52d35d96dd… (all of the seat's roots in one cut). By AI agents, Wed Nov 11 2026. No macro, syntax, notation, axiom, sorry.
-/
import Derived.Test.YtcalkgcnciobpaaChecked
import GoSem.Claim
import GoSem.ClaimJoined
import GoSem.ClaimMapViews
import Derived.JoinedTies
import Derived.KernelRfl
namespace Go.Proofs.Ytcalkgcnciobpaa
/- THE CELL 'sum', in the pinned program and in every row, IS THE sha256 OF THE DUMP (.gsa) THAT YtcalkgcnciobpaaProg.lean LOADS. Nothing in Lean hashes anything: it is a label: what it is worth is what the hold of that sum in a sandbox is worth. -/
noncomputable def Try.pinned : Pinned := { name := "ytcalkgcnciobpaa", sum := "dc59de52d35d96dd2a11828add2b4301f0798eba4068c3356de00328c32a6b76", checked := Try.checked }
namespace Rows
def none {H : Type} : Left H := { results := [], args := [] }

/-- 'laws.FnExactClash': WHATEVER THE INPUT: true; the input reads as it did. -/
def fnExactClashSpec : ChangeSpec := { name := "fnExactClash", fn := fun _ => fun
  | [d1, d2] => { results := [.lit (.bool true)], args := [d1, d2] }
  | _ => none }
def fnExactClashRow : OpenClaim := { program := "ytcalkgcnciobpaa", sum := "dc59de52d35d96dd2a11828add2b4301f0798eba4068c3356de00328c32a6b76", func := "loop.example/g00283/laws.FnExactClash", spec := "fnExactClash", apart := false }
def FnExactClashSaid : Prop := fnExactClashRow.holds Try.pinned (OpenSpec.ofChange fnExactClashSpec)

/-- ITS FALSE NEIGHBOUR: 'it returns false'. Refute it at one input. -/
def fnExactClashWrong : ChangeSpec := { name := "fnExactClash", fn := fun _ => fun
  | [d1, d2] => { results := [.lit (.bool false)], args := [d1, d2] }
  | _ => none }
def FnExactClashWrongFalsely : Prop := fnExactClashRow.holds Try.pinned (OpenSpec.ofChange fnExactClashWrong)

/-- 'laws.FnExactHomeOf': WHATEVER THE INPUT: true; the input reads as it did. -/
def fnExactHomeOfSpec : ChangeSpec := { name := "fnExactHomeOf", fn := fun _ => fun
  | [d1, d2] => { results := [.lit (.bool true)], args := [d1, d2] }
  | _ => none }
def fnExactHomeOfRow : OpenClaim := { program := "ytcalkgcnciobpaa", sum := "dc59de52d35d96dd2a11828add2b4301f0798eba4068c3356de00328c32a6b76", func := "loop.example/g00283/laws.FnExactHomeOf", spec := "fnExactHomeOf", apart := false }
def FnExactHomeOfSaid : Prop := fnExactHomeOfRow.holds Try.pinned (OpenSpec.ofChange fnExactHomeOfSpec)

/-- ITS FALSE NEIGHBOUR: 'it returns false'. Refute it at one input. -/
def fnExactHomeOfWrong : ChangeSpec := { name := "fnExactHomeOf", fn := fun _ => fun
  | [d1, d2] => { results := [.lit (.bool false)], args := [d1, d2] }
  | _ => none }
def FnExactHomeOfWrongFalsely : Prop := fnExactHomeOfRow.holds Try.pinned (OpenSpec.ofChange fnExactHomeOfWrong)

/-- 'laws.FnExactNoteOf': WHATEVER THE INPUT: true; the input reads as it did. -/
def fnExactNoteOfSpec : ChangeSpec := { name := "fnExactNoteOf", fn := fun _ => fun
  | [d1, d2] => { results := [.lit (.bool true)], args := [d1, d2] }
  | _ => none }
def fnExactNoteOfRow : OpenClaim := { program := "ytcalkgcnciobpaa", sum := "dc59de52d35d96dd2a11828add2b4301f0798eba4068c3356de00328c32a6b76", func := "loop.example/g00283/laws.FnExactNoteOf", spec := "fnExactNoteOf", apart := false }
def FnExactNoteOfSaid : Prop := fnExactNoteOfRow.holds Try.pinned (OpenSpec.ofChange fnExactNoteOfSpec)

/-- ITS FALSE NEIGHBOUR: 'it returns false'. Refute it at one input. -/
def fnExactNoteOfWrong : ChangeSpec := { name := "fnExactNoteOf", fn := fun _ => fun
  | [d1, d2] => { results := [.lit (.bool false)], args := [d1, d2] }
  | _ => none }
def FnExactNoteOfWrongFalsely : Prop := fnExactNoteOfRow.holds Try.pinned (OpenSpec.ofChange fnExactNoteOfWrong)

/-- 'laws.FnExactEventsOk': WHATEVER THE INPUT: true; the input reads as it did. -/
def fnExactEventsOkSpec : ChangeSpec := { name := "fnExactEventsOk", fn := fun _ => fun
  | [d] => { results := [.lit (.bool true)], args := [d] }
  | _ => none }
def fnExactEventsOkRow : OpenClaim := { program := "ytcalkgcnciobpaa", sum := "dc59de52d35d96dd2a11828add2b4301f0798eba4068c3356de00328c32a6b76", func := "loop.example/g00283/laws.FnExactEventsOk", spec := "fnExactEventsOk", apart := false }
def FnExactEventsOkSaid : Prop := fnExactEventsOkRow.holds Try.pinned (OpenSpec.ofChange fnExactEventsOkSpec)

/-- ITS FALSE NEIGHBOUR: 'it returns false'. Refute it at one input. -/
def fnExactEventsOkWrong : ChangeSpec := { name := "fnExactEventsOk", fn := fun _ => fun
  | [d] => { results := [.lit (.bool false)], args := [d] }
  | _ => none }
def FnExactEventsOkWrongFalsely : Prop := fnExactEventsOkRow.holds Try.pinned (OpenSpec.ofChange fnExactEventsOkWrong)

/-- 'laws.FnExactApart': WHATEVER THE INPUT: true; the input reads as it did. -/
def fnExactApartSpec : ChangeSpec := { name := "fnExactApart", fn := fun _ => fun
  | [d1, d2] => { results := [.lit (.bool true)], args := [d1, d2] }
  | _ => none }
def fnExactApartRow : OpenClaim := { program := "ytcalkgcnciobpaa", sum := "dc59de52d35d96dd2a11828add2b4301f0798eba4068c3356de00328c32a6b76", func := "loop.example/g00283/laws.FnExactApart", spec := "fnExactApart", apart := false }
def FnExactApartSaid : Prop := fnExactApartRow.holds Try.pinned (OpenSpec.ofChange fnExactApartSpec)

/-- ITS FALSE NEIGHBOUR: 'it returns false'. Refute it at one input. -/
def fnExactApartWrong : ChangeSpec := { name := "fnExactApart", fn := fun _ => fun
  | [d1, d2] => { results := [.lit (.bool false)], args := [d1, d2] }
  | _ => none }
def FnExactApartWrongFalsely : Prop := fnExactApartRow.holds Try.pinned (OpenSpec.ofChange fnExactApartWrong)

/-- 'laws.FnExactCovers': WHATEVER THE INPUT: true; the input reads as it did. -/
def fnExactCoversSpec : ChangeSpec := { name := "fnExactCovers", fn := fun _ => fun
  | [d1, d2] => { results := [.lit (.bool true)], args := [d1, d2] }
  | _ => none }
def fnExactCoversRow : OpenClaim := { program := "ytcalkgcnciobpaa", sum := "dc59de52d35d96dd2a11828add2b4301f0798eba4068c3356de00328c32a6b76", func := "loop.example/g00283/laws.FnExactCovers", spec := "fnExactCovers", apart := false }
def FnExactCoversSaid : Prop := fnExactCoversRow.holds Try.pinned (OpenSpec.ofChange fnExactCoversSpec)

/-- ITS FALSE NEIGHBOUR: 'it returns false'. Refute it at one input. -/
def fnExactCoversWrong : ChangeSpec := { name := "fnExactCovers", fn := fun _ => fun
  | [d1, d2] => { results := [.lit (.bool false)], args := [d1, d2] }
  | _ => none }
def FnExactCoversWrongFalsely : Prop := fnExactCoversRow.holds Try.pinned (OpenSpec.ofChange fnExactCoversWrong)

/-- 'laws.FnExactDiffOf': WHATEVER THE INPUT: true; the input reads as it did. -/
def fnExactDiffOfSpec : ChangeSpec := { name := "fnExactDiffOf", fn := fun _ => fun
  | [d1, d2] => { results := [.lit (.bool true)], args := [d1, d2] }
  | _ => none }
def fnExactDiffOfRow : OpenClaim := { program := "ytcalkgcnciobpaa", sum := "dc59de52d35d96dd2a11828add2b4301f0798eba4068c3356de00328c32a6b76", func := "loop.example/g00283/laws.FnExactDiffOf", spec := "fnExactDiffOf", apart := false }
def FnExactDiffOfSaid : Prop := fnExactDiffOfRow.holds Try.pinned (OpenSpec.ofChange fnExactDiffOfSpec)

/-- ITS FALSE NEIGHBOUR: 'it returns false'. Refute it at one input. -/
def fnExactDiffOfWrong : ChangeSpec := { name := "fnExactDiffOf", fn := fun _ => fun
  | [d1, d2] => { results := [.lit (.bool false)], args := [d1, d2] }
  | _ => none }
def FnExactDiffOfWrongFalsely : Prop := fnExactDiffOfRow.holds Try.pinned (OpenSpec.ofChange fnExactDiffOfWrong)

/-- 'laws.FnKnowing': WHATEVER THE INPUT: true; the input reads as it did. -/
def fnKnowingSpec : ChangeSpec := { name := "fnKnowing", fn := fun _ => fun
  | [d] => { results := [.lit (.bool true)], args := [d] }
  | _ => none }
def fnKnowingRow : OpenClaim := { program := "ytcalkgcnciobpaa", sum := "dc59de52d35d96dd2a11828add2b4301f0798eba4068c3356de00328c32a6b76", func := "loop.example/g00283/laws.FnKnowing", spec := "fnKnowing", unfollowed := true, recurses := true, apart := false }
def FnKnowingSaid : Prop := fnKnowingRow.holds Try.pinned (OpenSpec.ofChange fnKnowingSpec)

/-- ITS FALSE NEIGHBOUR: 'it returns false'. Refute it at one input. -/
def fnKnowingWrong : ChangeSpec := { name := "fnKnowing", fn := fun _ => fun
  | [d] => { results := [.lit (.bool false)], args := [d] }
  | _ => none }
def FnKnowingWrongFalsely : Prop := fnKnowingRow.holds Try.pinned (OpenSpec.ofChange fnKnowingWrong)

/-- 'laws.FnExactPatch': WHATEVER THE INPUT: true; the input reads as it did. -/
def fnExactPatchSpec : ChangeSpec := { name := "fnExactPatch", fn := fun _ => fun
  | [d1, d2] => { results := [.lit (.bool true)], args := [d1, d2] }
  | _ => none }
def fnExactPatchRow : OpenClaim := { program := "ytcalkgcnciobpaa", sum := "dc59de52d35d96dd2a11828add2b4301f0798eba4068c3356de00328c32a6b76", func := "loop.example/g00283/laws.FnExactPatch", spec := "fnExactPatch", apart := false }
def FnExactPatchSaid : Prop := fnExactPatchRow.holds Try.pinned (OpenSpec.ofChange fnExactPatchSpec)

/-- ITS FALSE NEIGHBOUR: 'it returns false'. Refute it at one input. -/
def fnExactPatchWrong : ChangeSpec := { name := "fnExactPatch", fn := fun _ => fun
  | [d1, d2] => { results := [.lit (.bool false)], args := [d1, d2] }
  | _ => none }
def FnExactPatchWrongFalsely : Prop := fnExactPatchRow.holds Try.pinned (OpenSpec.ofChange fnExactPatchWrong)

/-- 'laws.FnExactMergeNotes': WHATEVER THE INPUT: true; the input reads as it did. -/
def fnExactMergeNotesSpec : ChangeSpec := { name := "fnExactMergeNotes", fn := fun _ => fun
  | [d1, d2] => { results := [.lit (.bool true)], args := [d1, d2] }
  | _ => none }
def fnExactMergeNotesRow : OpenClaim := { program := "ytcalkgcnciobpaa", sum := "dc59de52d35d96dd2a11828add2b4301f0798eba4068c3356de00328c32a6b76", func := "loop.example/g00283/laws.FnExactMergeNotes", spec := "fnExactMergeNotes", apart := false }
def FnExactMergeNotesSaid : Prop := fnExactMergeNotesRow.holds Try.pinned (OpenSpec.ofChange fnExactMergeNotesSpec)

/-- ITS FALSE NEIGHBOUR: 'it returns false'. Refute it at one input. -/
def fnExactMergeNotesWrong : ChangeSpec := { name := "fnExactMergeNotes", fn := fun _ => fun
  | [d1, d2] => { results := [.lit (.bool false)], args := [d1, d2] }
  | _ => none }
def FnExactMergeNotesWrongFalsely : Prop := fnExactMergeNotesRow.holds Try.pinned (OpenSpec.ofChange fnExactMergeNotesWrong)

/-- 'laws.FnExactReadCopy': WHATEVER THE INPUT: true; the input reads as it did. -/
def fnExactReadCopySpec : ChangeSpec := { name := "fnExactReadCopy", fn := fun _ => fun
  | [d1, d2, d3] => { results := [.lit (.bool true)], args := [d1, d2, d3] }
  | _ => none }
def fnExactReadCopyRow : OpenClaim := { program := "ytcalkgcnciobpaa", sum := "dc59de52d35d96dd2a11828add2b4301f0798eba4068c3356de00328c32a6b76", func := "loop.example/g00283/laws.FnExactReadCopy", spec := "fnExactReadCopy", apart := false }
def FnExactReadCopySaid : Prop := fnExactReadCopyRow.holds Try.pinned (OpenSpec.ofChange fnExactReadCopySpec)

/-- ITS FALSE NEIGHBOUR: 'it returns false'. Refute it at one input. -/
def fnExactReadCopyWrong : ChangeSpec := { name := "fnExactReadCopy", fn := fun _ => fun
  | [d1, d2, d3] => { results := [.lit (.bool false)], args := [d1, d2, d3] }
  | _ => none }
def FnExactReadCopyWrongFalsely : Prop := fnExactReadCopyRow.holds Try.pinned (OpenSpec.ofChange fnExactReadCopyWrong)

/-- 'laws.FnExactAddNote': WHATEVER THE INPUT: true; the input reads as it did. -/
def fnExactAddNoteSpec : ChangeSpec := { name := "fnExactAddNote", fn := fun _ => fun
  | [d1, d2, d3] => { results := [.lit (.bool true)], args := [d1, d2, d3] }
  | _ => none }
def fnExactAddNoteRow : OpenClaim := { program := "ytcalkgcnciobpaa", sum := "dc59de52d35d96dd2a11828add2b4301f0798eba4068c3356de00328c32a6b76", func := "loop.example/g00283/laws.FnExactAddNote", spec := "fnExactAddNote", apart := false }
def FnExactAddNoteSaid : Prop := fnExactAddNoteRow.holds Try.pinned (OpenSpec.ofChange fnExactAddNoteSpec)

/-- ITS FALSE NEIGHBOUR: 'it returns false'. Refute it at one input. -/
def fnExactAddNoteWrong : ChangeSpec := { name := "fnExactAddNote", fn := fun _ => fun
  | [d1, d2, d3] => { results := [.lit (.bool false)], args := [d1, d2, d3] }
  | _ => none }
def FnExactAddNoteWrongFalsely : Prop := fnExactAddNoteRow.holds Try.pinned (OpenSpec.ofChange fnExactAddNoteWrong)

/- THE SECOND FORM. 'bulk': how many values and letters a reading holds, each counted each time it is reached (what is shared counts as often as it is met; a slice's spare places count too). A statement '..UptoSaid' is the law's where the arguments, and the package variables that the reading takes, are together of bulk at most 1048576: NARROWER than '..Said'. Prove '..Said' where nothing that the law and all that it calls make is longer than what came in: it says more and counts as full. Else prove '..UptoSaid'. A law counts once. -/
mutual
def uptoBulk {H : Type} : DataW H → Nat
  | .lit (.string bytes) => bytes.length + 1
  | .lit _ => 1
  | .nil => 1
  | .ptr d => uptoBulk d + 1
  | .slice elems spare => uptoBulkAll elems + uptoBulkAll spare + 1
  | .agg parts => uptoBulkAll parts + 1
  | .iface _ d => uptoBulk d + 1
  | .map entries => uptoBulkEntries entries + 1
  | .held _ => 1
def uptoBulkAll {H : Type} : List (DataW H) → Nat
  | [] => 0
  | d :: r => uptoBulk d + uptoBulkAll r
def uptoBulkEntries {H : Type} : List (Lit × DataW H) → Nat
  | [] => 0
  | x :: r => uptoBulkEntry x + uptoBulkEntries r
def uptoBulkEntry {H : Type} : Lit × DataW H → Nat
  | (.string bytes, d) => bytes.length + uptoBulk d + 1
  | (_, d) => uptoBulk d + 1
 end
def uptoSmall : (H : Type) → List (DataW H) → Bool := fun _ ds => decide (uptoBulkAll ds ≤ 1048576)
def OpenSpec.upto (s : _root_.Go.ChangeSpec) : _root_.Go.OpenSpec := { _root_.Go.OpenSpec.ofChange s with cond := some uptoSmall }

/-- 'laws.FnExactClash', WHERE WHAT IT READS IS OF BULK AT MOST 1048576: true; the input reads as it did. -/
def fnExactClashUptoRow : OpenClaim := { program := "ytcalkgcnciobpaa", sum := "dc59de52d35d96dd2a11828add2b4301f0798eba4068c3356de00328c32a6b76", func := "loop.example/g00283/laws.FnExactClash", spec := "fnExactClash", apart := false, narrowed := true }
def FnExactClashUptoSaid : Prop := fnExactClashUptoRow.holds Try.pinned (OpenSpec.upto fnExactClashSpec)

/-- 'laws.FnExactHomeOf', WHERE WHAT IT READS IS OF BULK AT MOST 1048576: true; the input reads as it did. -/
def fnExactHomeOfUptoRow : OpenClaim := { program := "ytcalkgcnciobpaa", sum := "dc59de52d35d96dd2a11828add2b4301f0798eba4068c3356de00328c32a6b76", func := "loop.example/g00283/laws.FnExactHomeOf", spec := "fnExactHomeOf", apart := false, narrowed := true }
def FnExactHomeOfUptoSaid : Prop := fnExactHomeOfUptoRow.holds Try.pinned (OpenSpec.upto fnExactHomeOfSpec)

/-- 'laws.FnExactNoteOf', WHERE WHAT IT READS IS OF BULK AT MOST 1048576: true; the input reads as it did. -/
def fnExactNoteOfUptoRow : OpenClaim := { program := "ytcalkgcnciobpaa", sum := "dc59de52d35d96dd2a11828add2b4301f0798eba4068c3356de00328c32a6b76", func := "loop.example/g00283/laws.FnExactNoteOf", spec := "fnExactNoteOf", apart := false, narrowed := true }
def FnExactNoteOfUptoSaid : Prop := fnExactNoteOfUptoRow.holds Try.pinned (OpenSpec.upto fnExactNoteOfSpec)

/-- 'laws.FnExactEventsOk', WHERE WHAT IT READS IS OF BULK AT MOST 1048576: true; the input reads as it did. -/
def fnExactEventsOkUptoRow : OpenClaim := { program := "ytcalkgcnciobpaa", sum := "dc59de52d35d96dd2a11828add2b4301f0798eba4068c3356de00328c32a6b76", func := "loop.example/g00283/laws.FnExactEventsOk", spec := "fnExactEventsOk", apart := false, narrowed := true }
def FnExactEventsOkUptoSaid : Prop := fnExactEventsOkUptoRow.holds Try.pinned (OpenSpec.upto fnExactEventsOkSpec)

/-- 'laws.FnExactApart', WHERE WHAT IT READS IS OF BULK AT MOST 1048576: true; the input reads as it did. -/
def fnExactApartUptoRow : OpenClaim := { program := "ytcalkgcnciobpaa", sum := "dc59de52d35d96dd2a11828add2b4301f0798eba4068c3356de00328c32a6b76", func := "loop.example/g00283/laws.FnExactApart", spec := "fnExactApart", apart := false, narrowed := true }
def FnExactApartUptoSaid : Prop := fnExactApartUptoRow.holds Try.pinned (OpenSpec.upto fnExactApartSpec)

/-- 'laws.FnExactCovers', WHERE WHAT IT READS IS OF BULK AT MOST 1048576: true; the input reads as it did. -/
def fnExactCoversUptoRow : OpenClaim := { program := "ytcalkgcnciobpaa", sum := "dc59de52d35d96dd2a11828add2b4301f0798eba4068c3356de00328c32a6b76", func := "loop.example/g00283/laws.FnExactCovers", spec := "fnExactCovers", apart := false, narrowed := true }
def FnExactCoversUptoSaid : Prop := fnExactCoversUptoRow.holds Try.pinned (OpenSpec.upto fnExactCoversSpec)

/-- 'laws.FnExactDiffOf', WHERE WHAT IT READS IS OF BULK AT MOST 1048576: true; the input reads as it did. -/
def fnExactDiffOfUptoRow : OpenClaim := { program := "ytcalkgcnciobpaa", sum := "dc59de52d35d96dd2a11828add2b4301f0798eba4068c3356de00328c32a6b76", func := "loop.example/g00283/laws.FnExactDiffOf", spec := "fnExactDiffOf", apart := false, narrowed := true }
def FnExactDiffOfUptoSaid : Prop := fnExactDiffOfUptoRow.holds Try.pinned (OpenSpec.upto fnExactDiffOfSpec)

/-- 'laws.FnKnowing', WHERE WHAT IT READS IS OF BULK AT MOST 1048576: true; the input reads as it did. -/
def fnKnowingUptoRow : OpenClaim := { program := "ytcalkgcnciobpaa", sum := "dc59de52d35d96dd2a11828add2b4301f0798eba4068c3356de00328c32a6b76", func := "loop.example/g00283/laws.FnKnowing", spec := "fnKnowing", unfollowed := true, recurses := true, apart := false, narrowed := true }
def FnKnowingUptoSaid : Prop := fnKnowingUptoRow.holds Try.pinned (OpenSpec.upto fnKnowingSpec)

/-- 'laws.FnExactPatch', WHERE WHAT IT READS IS OF BULK AT MOST 1048576: true; the input reads as it did. -/
def fnExactPatchUptoRow : OpenClaim := { program := "ytcalkgcnciobpaa", sum := "dc59de52d35d96dd2a11828add2b4301f0798eba4068c3356de00328c32a6b76", func := "loop.example/g00283/laws.FnExactPatch", spec := "fnExactPatch", apart := false, narrowed := true }
def FnExactPatchUptoSaid : Prop := fnExactPatchUptoRow.holds Try.pinned (OpenSpec.upto fnExactPatchSpec)

/-- 'laws.FnExactMergeNotes', WHERE WHAT IT READS IS OF BULK AT MOST 1048576: true; the input reads as it did. -/
def fnExactMergeNotesUptoRow : OpenClaim := { program := "ytcalkgcnciobpaa", sum := "dc59de52d35d96dd2a11828add2b4301f0798eba4068c3356de00328c32a6b76", func := "loop.example/g00283/laws.FnExactMergeNotes", spec := "fnExactMergeNotes", apart := false, narrowed := true }
def FnExactMergeNotesUptoSaid : Prop := fnExactMergeNotesUptoRow.holds Try.pinned (OpenSpec.upto fnExactMergeNotesSpec)

/-- 'laws.FnExactReadCopy', WHERE WHAT IT READS IS OF BULK AT MOST 1048576: true; the input reads as it did. -/
def fnExactReadCopyUptoRow : OpenClaim := { program := "ytcalkgcnciobpaa", sum := "dc59de52d35d96dd2a11828add2b4301f0798eba4068c3356de00328c32a6b76", func := "loop.example/g00283/laws.FnExactReadCopy", spec := "fnExactReadCopy", apart := false, narrowed := true }
def FnExactReadCopyUptoSaid : Prop := fnExactReadCopyUptoRow.holds Try.pinned (OpenSpec.upto fnExactReadCopySpec)

/-- 'laws.FnExactAddNote', WHERE WHAT IT READS IS OF BULK AT MOST 1048576: true; the input reads as it did. -/
def fnExactAddNoteUptoRow : OpenClaim := { program := "ytcalkgcnciobpaa", sum := "dc59de52d35d96dd2a11828add2b4301f0798eba4068c3356de00328c32a6b76", func := "loop.example/g00283/laws.FnExactAddNote", spec := "fnExactAddNote", apart := false, narrowed := true }
def FnExactAddNoteUptoSaid : Prop := fnExactAddNoteUptoRow.holds Try.pinned (OpenSpec.upto fnExactAddNoteSpec)

end Rows
end Go.Proofs.Ytcalkgcnciobpaa
