/-
  No cell of these rows narrows 'for every input' (looked for: loops, veiled, ifaces, maps, wideKeys, modest, calm, conditions, laid).
  DERIVED. THE GIVEN ROWS OF THIS SEAT. 12 by the template 'for every input the law returns true; each argument reads behind the call as it read before'; 0 by the template 'total and deterministic' (their statements: YtdmhdfdlljafbaaTotals.lean).
  GIVEN WITH THE SEED: the statements are not yours to turn. If you find one false, say at which input.
  Laid BY PROGRAM, IN A SANDBOX (cutbox-rows.mjs): the forced cells as the released guide's own fill.sh prints them over the translation 1679ab5d64eb3d7e… (all of the seat's roots in one cut). By AI agents, Wed Nov 11 2026. No macro, syntax, notation, axiom, sorry.
-/
import Derived.Test.YtdmhdfdlljafbaaChecked
import GoSem.Claim
import GoSem.ClaimJoined
import GoSem.ClaimMapViews
import Derived.JoinedTies
import Derived.KernelRfl
namespace Go.Proofs.Ytdmhdfdlljafbaa
/- THE CELL 'sum', in the pinned program and in every row, IS THE sha256 OF THE DUMP (.gsa) THAT YtdmhdfdlljafbaaProg.lean LOADS. Nothing in Lean hashes anything: it is a label: what it is worth is what the hold of that sum in a sandbox is worth. -/
noncomputable def Try.pinned : Pinned := { name := "ytdmhdfdlljafbaa", sum := "1679ab5d64eb3d7e118c23810cb7461ffe52182db0cdffeb1eab438e34282e70", checked := Try.checked }
namespace Rows
def none {H : Type} : Left H := { results := [], args := [] }

/-- 'laws.FnMergedThree': WHATEVER THE INPUT: true; the input reads as it did. -/
def fnMergedThreeSpec : ChangeSpec := { name := "fnMergedThree", fn := fun _ => fun
  | [d] => { results := [.lit (.bool true)], args := [d] }
  | _ => none }
def fnMergedThreeRow : OpenClaim := { program := "ytdmhdfdlljafbaa", sum := "1679ab5d64eb3d7e118c23810cb7461ffe52182db0cdffeb1eab438e34282e70", func := "loop.example/g00283/laws.FnMergedThree", spec := "fnMergedThree", apart := false }
def FnMergedThreeSaid : Prop := fnMergedThreeRow.holds Try.pinned (OpenSpec.ofChange fnMergedThreeSpec)

/-- ITS FALSE NEIGHBOUR: 'it returns false'. Refute it at one input. -/
def fnMergedThreeWrong : ChangeSpec := { name := "fnMergedThree", fn := fun _ => fun
  | [d] => { results := [.lit (.bool false)], args := [d] }
  | _ => none }
def FnMergedThreeWrongFalsely : Prop := fnMergedThreeRow.holds Try.pinned (OpenSpec.ofChange fnMergedThreeWrong)

/-- 'laws.FnDiffs': WHATEVER THE INPUT: true; the input reads as it did. -/
def fnDiffsSpec : ChangeSpec := { name := "fnDiffs", fn := fun _ => fun
  | [d] => { results := [.lit (.bool true)], args := [d] }
  | _ => none }
def fnDiffsRow : OpenClaim := { program := "ytdmhdfdlljafbaa", sum := "1679ab5d64eb3d7e118c23810cb7461ffe52182db0cdffeb1eab438e34282e70", func := "loop.example/g00283/laws.FnDiffs", spec := "fnDiffs", apart := false }
def FnDiffsSaid : Prop := fnDiffsRow.holds Try.pinned (OpenSpec.ofChange fnDiffsSpec)

/-- ITS FALSE NEIGHBOUR: 'it returns false'. Refute it at one input. -/
def fnDiffsWrong : ChangeSpec := { name := "fnDiffs", fn := fun _ => fun
  | [d] => { results := [.lit (.bool false)], args := [d] }
  | _ => none }
def FnDiffsWrongFalsely : Prop := fnDiffsRow.holds Try.pinned (OpenSpec.ofChange fnDiffsWrong)

/-- 'laws.FnExactTokensOk': WHATEVER THE INPUT: true; the input reads as it did. -/
def fnExactTokensOkSpec : ChangeSpec := { name := "fnExactTokensOk", fn := fun _ => fun
  | [d] => { results := [.lit (.bool true)], args := [d] }
  | _ => none }
def fnExactTokensOkRow : OpenClaim := { program := "ytdmhdfdlljafbaa", sum := "1679ab5d64eb3d7e118c23810cb7461ffe52182db0cdffeb1eab438e34282e70", func := "loop.example/g00283/laws.FnExactTokensOk", spec := "fnExactTokensOk", apart := false }
def FnExactTokensOkSaid : Prop := fnExactTokensOkRow.holds Try.pinned (OpenSpec.ofChange fnExactTokensOkSpec)

/-- ITS FALSE NEIGHBOUR: 'it returns false'. Refute it at one input. -/
def fnExactTokensOkWrong : ChangeSpec := { name := "fnExactTokensOk", fn := fun _ => fun
  | [d] => { results := [.lit (.bool false)], args := [d] }
  | _ => none }
def FnExactTokensOkWrongFalsely : Prop := fnExactTokensOkRow.holds Try.pinned (OpenSpec.ofChange fnExactTokensOkWrong)

/-- 'laws.FnExactDirtyOf': WHATEVER THE INPUT: true; the input reads as it did. -/
def fnExactDirtyOfSpec : ChangeSpec := { name := "fnExactDirtyOf", fn := fun _ => fun
  | [d] => { results := [.lit (.bool true)], args := [d] }
  | _ => none }
def fnExactDirtyOfRow : OpenClaim := { program := "ytdmhdfdlljafbaa", sum := "1679ab5d64eb3d7e118c23810cb7461ffe52182db0cdffeb1eab438e34282e70", func := "loop.example/g00283/laws.FnExactDirtyOf", spec := "fnExactDirtyOf", apart := false }
def FnExactDirtyOfSaid : Prop := fnExactDirtyOfRow.holds Try.pinned (OpenSpec.ofChange fnExactDirtyOfSpec)

/-- ITS FALSE NEIGHBOUR: 'it returns false'. Refute it at one input. -/
def fnExactDirtyOfWrong : ChangeSpec := { name := "fnExactDirtyOf", fn := fun _ => fun
  | [d] => { results := [.lit (.bool false)], args := [d] }
  | _ => none }
def FnExactDirtyOfWrongFalsely : Prop := fnExactDirtyOfRow.holds Try.pinned (OpenSpec.ofChange fnExactDirtyOfWrong)

/-- 'laws.FnFair': WHATEVER THE INPUT: true; the input reads as it did. -/
def fnFairSpec : ChangeSpec := { name := "fnFair", fn := fun _ => fun
  | [d] => { results := [.lit (.bool true)], args := [d] }
  | _ => none }
def fnFairRow : OpenClaim := { program := "ytdmhdfdlljafbaa", sum := "1679ab5d64eb3d7e118c23810cb7461ffe52182db0cdffeb1eab438e34282e70", func := "loop.example/g00283/laws.FnFair", spec := "fnFair", apart := false }
def FnFairSaid : Prop := fnFairRow.holds Try.pinned (OpenSpec.ofChange fnFairSpec)

/-- ITS FALSE NEIGHBOUR: 'it returns false'. Refute it at one input. -/
def fnFairWrong : ChangeSpec := { name := "fnFair", fn := fun _ => fun
  | [d] => { results := [.lit (.bool false)], args := [d] }
  | _ => none }
def FnFairWrongFalsely : Prop := fnFairRow.holds Try.pinned (OpenSpec.ofChange fnFairWrong)

/-- 'laws.FnExactMasterOf': WHATEVER THE INPUT: true; the input reads as it did. -/
def fnExactMasterOfSpec : ChangeSpec := { name := "fnExactMasterOf", fn := fun _ => fun
  | [d1, d2] => { results := [.lit (.bool true)], args := [d1, d2] }
  | _ => none }
def fnExactMasterOfRow : OpenClaim := { program := "ytdmhdfdlljafbaa", sum := "1679ab5d64eb3d7e118c23810cb7461ffe52182db0cdffeb1eab438e34282e70", func := "loop.example/g00283/laws.FnExactMasterOf", spec := "fnExactMasterOf", apart := false }
def FnExactMasterOfSaid : Prop := fnExactMasterOfRow.holds Try.pinned (OpenSpec.ofChange fnExactMasterOfSpec)

/-- ITS FALSE NEIGHBOUR: 'it returns false'. Refute it at one input. -/
def fnExactMasterOfWrong : ChangeSpec := { name := "fnExactMasterOf", fn := fun _ => fun
  | [d1, d2] => { results := [.lit (.bool false)], args := [d1, d2] }
  | _ => none }
def FnExactMasterOfWrongFalsely : Prop := fnExactMasterOfRow.holds Try.pinned (OpenSpec.ofChange fnExactMasterOfWrong)

/-- 'laws.FnClocks': WHATEVER THE INPUT: true; the input reads as it did. -/
def fnClocksSpec : ChangeSpec := { name := "fnClocks", fn := fun _ => fun
  | [d] => { results := [.lit (.bool true)], args := [d] }
  | _ => none }
def fnClocksRow : OpenClaim := { program := "ytdmhdfdlljafbaa", sum := "1679ab5d64eb3d7e118c23810cb7461ffe52182db0cdffeb1eab438e34282e70", func := "loop.example/g00283/laws.FnClocks", spec := "fnClocks", apart := false }
def FnClocksSaid : Prop := fnClocksRow.holds Try.pinned (OpenSpec.ofChange fnClocksSpec)

/-- ITS FALSE NEIGHBOUR: 'it returns false'. Refute it at one input. -/
def fnClocksWrong : ChangeSpec := { name := "fnClocks", fn := fun _ => fun
  | [d] => { results := [.lit (.bool false)], args := [d] }
  | _ => none }
def FnClocksWrongFalsely : Prop := fnClocksRow.holds Try.pinned (OpenSpec.ofChange fnClocksWrong)

/-- 'laws.FnExactCopyOf': WHATEVER THE INPUT: true; the input reads as it did. -/
def fnExactCopyOfSpec : ChangeSpec := { name := "fnExactCopyOf", fn := fun _ => fun
  | [d1, d2] => { results := [.lit (.bool true)], args := [d1, d2] }
  | _ => none }
def fnExactCopyOfRow : OpenClaim := { program := "ytdmhdfdlljafbaa", sum := "1679ab5d64eb3d7e118c23810cb7461ffe52182db0cdffeb1eab438e34282e70", func := "loop.example/g00283/laws.FnExactCopyOf", spec := "fnExactCopyOf", apart := false }
def FnExactCopyOfSaid : Prop := fnExactCopyOfRow.holds Try.pinned (OpenSpec.ofChange fnExactCopyOfSpec)

/-- ITS FALSE NEIGHBOUR: 'it returns false'. Refute it at one input. -/
def fnExactCopyOfWrong : ChangeSpec := { name := "fnExactCopyOf", fn := fun _ => fun
  | [d1, d2] => { results := [.lit (.bool false)], args := [d1, d2] }
  | _ => none }
def FnExactCopyOfWrongFalsely : Prop := fnExactCopyOfRow.holds Try.pinned (OpenSpec.ofChange fnExactCopyOfWrong)

/-- 'laws.FnExactPutMaster': WHATEVER THE INPUT: true; the input reads as it did. -/
def fnExactPutMasterSpec : ChangeSpec := { name := "fnExactPutMaster", fn := fun _ => fun
  | [d1, d2, d3, d4] => { results := [.lit (.bool true)], args := [d1, d2, d3, d4] }
  | _ => none }
def fnExactPutMasterRow : OpenClaim := { program := "ytdmhdfdlljafbaa", sum := "1679ab5d64eb3d7e118c23810cb7461ffe52182db0cdffeb1eab438e34282e70", func := "loop.example/g00283/laws.FnExactPutMaster", spec := "fnExactPutMaster", apart := false }
def FnExactPutMasterSaid : Prop := fnExactPutMasterRow.holds Try.pinned (OpenSpec.ofChange fnExactPutMasterSpec)

/-- ITS FALSE NEIGHBOUR: 'it returns false'. Refute it at one input. -/
def fnExactPutMasterWrong : ChangeSpec := { name := "fnExactPutMaster", fn := fun _ => fun
  | [d1, d2, d3, d4] => { results := [.lit (.bool false)], args := [d1, d2, d3, d4] }
  | _ => none }
def FnExactPutMasterWrongFalsely : Prop := fnExactPutMasterRow.holds Try.pinned (OpenSpec.ofChange fnExactPutMasterWrong)

/-- 'laws.FnNotes': WHATEVER THE INPUT: true; the input reads as it did. -/
def fnNotesSpec : ChangeSpec := { name := "fnNotes", fn := fun _ => fun
  | [d] => { results := [.lit (.bool true)], args := [d] }
  | _ => none }
def fnNotesRow : OpenClaim := { program := "ytdmhdfdlljafbaa", sum := "1679ab5d64eb3d7e118c23810cb7461ffe52182db0cdffeb1eab438e34282e70", func := "loop.example/g00283/laws.FnNotes", spec := "fnNotes", apart := false }
def FnNotesSaid : Prop := fnNotesRow.holds Try.pinned (OpenSpec.ofChange fnNotesSpec)

/-- ITS FALSE NEIGHBOUR: 'it returns false'. Refute it at one input. -/
def fnNotesWrong : ChangeSpec := { name := "fnNotes", fn := fun _ => fun
  | [d] => { results := [.lit (.bool false)], args := [d] }
  | _ => none }
def FnNotesWrongFalsely : Prop := fnNotesRow.holds Try.pinned (OpenSpec.ofChange fnNotesWrong)

/-- 'laws.FnExactObjectMsg': WHATEVER THE INPUT: true; the input reads as it did. -/
def fnExactObjectMsgSpec : ChangeSpec := { name := "fnExactObjectMsg", fn := fun _ => fun
  | [d] => { results := [.lit (.bool true)], args := [d] }
  | _ => none }
def fnExactObjectMsgRow : OpenClaim := { program := "ytdmhdfdlljafbaa", sum := "1679ab5d64eb3d7e118c23810cb7461ffe52182db0cdffeb1eab438e34282e70", func := "loop.example/g00283/laws.FnExactObjectMsg", spec := "fnExactObjectMsg", apart := false }
def FnExactObjectMsgSaid : Prop := fnExactObjectMsgRow.holds Try.pinned (OpenSpec.ofChange fnExactObjectMsgSpec)

/-- ITS FALSE NEIGHBOUR: 'it returns false'. Refute it at one input. -/
def fnExactObjectMsgWrong : ChangeSpec := { name := "fnExactObjectMsg", fn := fun _ => fun
  | [d] => { results := [.lit (.bool false)], args := [d] }
  | _ => none }
def FnExactObjectMsgWrongFalsely : Prop := fnExactObjectMsgRow.holds Try.pinned (OpenSpec.ofChange fnExactObjectMsgWrong)

/-- 'laws.FnExactCleanCopy': WHATEVER THE INPUT: true; the input reads as it did. -/
def fnExactCleanCopySpec : ChangeSpec := { name := "fnExactCleanCopy", fn := fun _ => fun
  | [d1, d2] => { results := [.lit (.bool true)], args := [d1, d2] }
  | _ => none }
def fnExactCleanCopyRow : OpenClaim := { program := "ytdmhdfdlljafbaa", sum := "1679ab5d64eb3d7e118c23810cb7461ffe52182db0cdffeb1eab438e34282e70", func := "loop.example/g00283/laws.FnExactCleanCopy", spec := "fnExactCleanCopy", apart := false }
def FnExactCleanCopySaid : Prop := fnExactCleanCopyRow.holds Try.pinned (OpenSpec.ofChange fnExactCleanCopySpec)

/-- ITS FALSE NEIGHBOUR: 'it returns false'. Refute it at one input. -/
def fnExactCleanCopyWrong : ChangeSpec := { name := "fnExactCleanCopy", fn := fun _ => fun
  | [d1, d2] => { results := [.lit (.bool false)], args := [d1, d2] }
  | _ => none }
def FnExactCleanCopyWrongFalsely : Prop := fnExactCleanCopyRow.holds Try.pinned (OpenSpec.ofChange fnExactCleanCopyWrong)

/- THE SECOND FORM. 'bulk': how many values and letters a reading holds, each counted each time it is reached (what is shared counts as often as it is met; a slice's spare places count too). A statement '..UptoSaid' is the law's where the arguments, and the package variables that the reading takes, are together of bulk at most 1048576: NARROWER than '..Said'. Prove '..Said' where nothing that the law and all that it calls make is longer than what came in: it says more and counts as full. Else prove '..UptoSaid'. A law counts once. -/
mutual
def uptoBulk {H : Type} : DataW H → Nat
  | .lit (.string bytes) => bytes.length + 1
  | .lit _ => 1
  | .nil => 1
  | .ptr d => uptoBulk d + 1
  | .slice elems spare => uptoBulkAll elems + uptoBulkAll spare + 1
  | .agg parts => uptoBulkAll parts + 1
  | .iface _ d => uptoBulk d + 1
  | .map entries => uptoBulkEntries entries + 1
  | .held _ => 1
def uptoBulkAll {H : Type} : List (DataW H) → Nat
  | [] => 0
  | d :: r => uptoBulk d + uptoBulkAll r
def uptoBulkEntries {H : Type} : List (Lit × DataW H) → Nat
  | [] => 0
  | x :: r => uptoBulkEntry x + uptoBulkEntries r
def uptoBulkEntry {H : Type} : Lit × DataW H → Nat
  | (.string bytes, d) => bytes.length + uptoBulk d + 1
  | (_, d) => uptoBulk d + 1
 end
def uptoSmall : (H : Type) → List (DataW H) → Bool := fun _ ds => decide (uptoBulkAll ds ≤ 1048576)
def OpenSpec.upto (s : _root_.Go.ChangeSpec) : _root_.Go.OpenSpec := { _root_.Go.OpenSpec.ofChange s with cond := some uptoSmall }

/-- 'laws.FnMergedThree', WHERE WHAT IT READS IS OF BULK AT MOST 1048576: true; the input reads as it did. -/
def fnMergedThreeUptoRow : OpenClaim := { program := "ytdmhdfdlljafbaa", sum := "1679ab5d64eb3d7e118c23810cb7461ffe52182db0cdffeb1eab438e34282e70", func := "loop.example/g00283/laws.FnMergedThree", spec := "fnMergedThree", apart := false, narrowed := true }
def FnMergedThreeUptoSaid : Prop := fnMergedThreeUptoRow.holds Try.pinned (OpenSpec.upto fnMergedThreeSpec)

/-- 'laws.FnDiffs', WHERE WHAT IT READS IS OF BULK AT MOST 1048576: true; the input reads as it did. -/
def fnDiffsUptoRow : OpenClaim := { program := "ytdmhdfdlljafbaa", sum := "1679ab5d64eb3d7e118c23810cb7461ffe52182db0cdffeb1eab438e34282e70", func := "loop.example/g00283/laws.FnDiffs", spec := "fnDiffs", apart := false, narrowed := true }
def FnDiffsUptoSaid : Prop := fnDiffsUptoRow.holds Try.pinned (OpenSpec.upto fnDiffsSpec)

/-- 'laws.FnExactTokensOk', WHERE WHAT IT READS IS OF BULK AT MOST 1048576: true; the input reads as it did. -/
def fnExactTokensOkUptoRow : OpenClaim := { program := "ytdmhdfdlljafbaa", sum := "1679ab5d64eb3d7e118c23810cb7461ffe52182db0cdffeb1eab438e34282e70", func := "loop.example/g00283/laws.FnExactTokensOk", spec := "fnExactTokensOk", apart := false, narrowed := true }
def FnExactTokensOkUptoSaid : Prop := fnExactTokensOkUptoRow.holds Try.pinned (OpenSpec.upto fnExactTokensOkSpec)

/-- 'laws.FnExactDirtyOf', WHERE WHAT IT READS IS OF BULK AT MOST 1048576: true; the input reads as it did. -/
def fnExactDirtyOfUptoRow : OpenClaim := { program := "ytdmhdfdlljafbaa", sum := "1679ab5d64eb3d7e118c23810cb7461ffe52182db0cdffeb1eab438e34282e70", func := "loop.example/g00283/laws.FnExactDirtyOf", spec := "fnExactDirtyOf", apart := false, narrowed := true }
def FnExactDirtyOfUptoSaid : Prop := fnExactDirtyOfUptoRow.holds Try.pinned (OpenSpec.upto fnExactDirtyOfSpec)

/-- 'laws.FnFair', WHERE WHAT IT READS IS OF BULK AT MOST 1048576: true; the input reads as it did. -/
def fnFairUptoRow : OpenClaim := { program := "ytdmhdfdlljafbaa", sum := "1679ab5d64eb3d7e118c23810cb7461ffe52182db0cdffeb1eab438e34282e70", func := "loop.example/g00283/laws.FnFair", spec := "fnFair", apart := false, narrowed := true }
def FnFairUptoSaid : Prop := fnFairUptoRow.holds Try.pinned (OpenSpec.upto fnFairSpec)

/-- 'laws.FnExactMasterOf', WHERE WHAT IT READS IS OF BULK AT MOST 1048576: true; the input reads as it did. -/
def fnExactMasterOfUptoRow : OpenClaim := { program := "ytdmhdfdlljafbaa", sum := "1679ab5d64eb3d7e118c23810cb7461ffe52182db0cdffeb1eab438e34282e70", func := "loop.example/g00283/laws.FnExactMasterOf", spec := "fnExactMasterOf", apart := false, narrowed := true }
def FnExactMasterOfUptoSaid : Prop := fnExactMasterOfUptoRow.holds Try.pinned (OpenSpec.upto fnExactMasterOfSpec)

/-- 'laws.FnClocks', WHERE WHAT IT READS IS OF BULK AT MOST 1048576: true; the input reads as it did. -/
def fnClocksUptoRow : OpenClaim := { program := "ytdmhdfdlljafbaa", sum := "1679ab5d64eb3d7e118c23810cb7461ffe52182db0cdffeb1eab438e34282e70", func := "loop.example/g00283/laws.FnClocks", spec := "fnClocks", apart := false, narrowed := true }
def FnClocksUptoSaid : Prop := fnClocksUptoRow.holds Try.pinned (OpenSpec.upto fnClocksSpec)

/-- 'laws.FnExactCopyOf', WHERE WHAT IT READS IS OF BULK AT MOST 1048576: true; the input reads as it did. -/
def fnExactCopyOfUptoRow : OpenClaim := { program := "ytdmhdfdlljafbaa", sum := "1679ab5d64eb3d7e118c23810cb7461ffe52182db0cdffeb1eab438e34282e70", func := "loop.example/g00283/laws.FnExactCopyOf", spec := "fnExactCopyOf", apart := false, narrowed := true }
def FnExactCopyOfUptoSaid : Prop := fnExactCopyOfUptoRow.holds Try.pinned (OpenSpec.upto fnExactCopyOfSpec)

/-- 'laws.FnExactPutMaster', WHERE WHAT IT READS IS OF BULK AT MOST 1048576: true; the input reads as it did. -/
def fnExactPutMasterUptoRow : OpenClaim := { program := "ytdmhdfdlljafbaa", sum := "1679ab5d64eb3d7e118c23810cb7461ffe52182db0cdffeb1eab438e34282e70", func := "loop.example/g00283/laws.FnExactPutMaster", spec := "fnExactPutMaster", apart := false, narrowed := true }
def FnExactPutMasterUptoSaid : Prop := fnExactPutMasterUptoRow.holds Try.pinned (OpenSpec.upto fnExactPutMasterSpec)

/-- 'laws.FnNotes', WHERE WHAT IT READS IS OF BULK AT MOST 1048576: true; the input reads as it did. -/
def fnNotesUptoRow : OpenClaim := { program := "ytdmhdfdlljafbaa", sum := "1679ab5d64eb3d7e118c23810cb7461ffe52182db0cdffeb1eab438e34282e70", func := "loop.example/g00283/laws.FnNotes", spec := "fnNotes", apart := false, narrowed := true }
def FnNotesUptoSaid : Prop := fnNotesUptoRow.holds Try.pinned (OpenSpec.upto fnNotesSpec)

/-- 'laws.FnExactObjectMsg', WHERE WHAT IT READS IS OF BULK AT MOST 1048576: true; the input reads as it did. -/
def fnExactObjectMsgUptoRow : OpenClaim := { program := "ytdmhdfdlljafbaa", sum := "1679ab5d64eb3d7e118c23810cb7461ffe52182db0cdffeb1eab438e34282e70", func := "loop.example/g00283/laws.FnExactObjectMsg", spec := "fnExactObjectMsg", apart := false, narrowed := true }
def FnExactObjectMsgUptoSaid : Prop := fnExactObjectMsgUptoRow.holds Try.pinned (OpenSpec.upto fnExactObjectMsgSpec)

/-- 'laws.FnExactCleanCopy', WHERE WHAT IT READS IS OF BULK AT MOST 1048576: true; the input reads as it did. -/
def fnExactCleanCopyUptoRow : OpenClaim := { program := "ytdmhdfdlljafbaa", sum := "1679ab5d64eb3d7e118c23810cb7461ffe52182db0cdffeb1eab438e34282e70", func := "loop.example/g00283/laws.FnExactCleanCopy", spec := "fnExactCleanCopy", apart := false, narrowed := true }
def FnExactCleanCopyUptoSaid : Prop := fnExactCleanCopyUptoRow.holds Try.pinned (OpenSpec.upto fnExactCleanCopySpec)

end Rows
end Go.Proofs.Ytdmhdfdlljafbaa
