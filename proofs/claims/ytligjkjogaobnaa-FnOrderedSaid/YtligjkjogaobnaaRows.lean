/-
  No cell of these rows narrows 'for every input' (looked for: loops, veiled, ifaces, maps, wideKeys, modest, calm, conditions, laid).
  DERIVED. THE GIVEN ROWS OF THIS SEAT. 12 by the template 'for every input the law returns true; each argument reads behind the call as it read before'; 0 by the template 'total and deterministic' (their statements: YtligjkjogaobnaaTotals.lean).
  GIVEN WITH THE SEED: the statements are not yours to turn. If you find one false, say at which input.
  Laid BY PROGRAM, IN A SANDBOX (cutbox-rows.mjs): the forced cells as the released guide's own fill.sh prints them over the translation e8edeb85cf371c85… (all of the seat's roots in one cut). By AI agents, Wed Nov 11 2026. No macro, syntax, notation, axiom, sorry.
-/
import Derived.Test.YtligjkjogaobnaaChecked
import GoSem.Claim
import GoSem.ClaimJoined
import GoSem.ClaimMapViews
import Derived.JoinedTies
import Derived.KernelRfl
namespace Go.Proofs.Ytligjkjogaobnaa
/- THE CELL 'sum', in the pinned program and in every row, IS THE sha256 OF THE DUMP (.gsa) THAT YtligjkjogaobnaaProg.lean LOADS. Nothing in Lean hashes anything: it is a label: what it is worth is what the hold of that sum in a sandbox is worth. -/
noncomputable def Try.pinned : Pinned := { name := "ytligjkjogaobnaa", sum := "e8edeb85cf371c85b9871e29f54053a465e355831ec7b1eb3223c46b937338db", checked := Try.checked }
namespace Rows
def none {H : Type} : Left H := { results := [], args := [] }

/-- 'laws.FnGuarded': WHATEVER THE INPUT: true; the input reads as it did. -/
def fnGuardedSpec : ChangeSpec := { name := "fnGuarded", fn := fun _ => fun
  | [d] => { results := [.lit (.bool true)], args := [d] }
  | _ => none }
def fnGuardedRow : OpenClaim := { program := "ytligjkjogaobnaa", sum := "e8edeb85cf371c85b9871e29f54053a465e355831ec7b1eb3223c46b937338db", func := "loop.example/g00283/laws.FnGuarded", spec := "fnGuarded", unfollowed := true, recurses := true, apart := false }
def FnGuardedSaid : Prop := fnGuardedRow.holds Try.pinned (OpenSpec.ofChange fnGuardedSpec)

/-- ITS FALSE NEIGHBOUR: 'it returns false'. Refute it at one input. -/
def fnGuardedWrong : ChangeSpec := { name := "fnGuarded", fn := fun _ => fun
  | [d] => { results := [.lit (.bool false)], args := [d] }
  | _ => none }
def FnGuardedWrongFalsely : Prop := fnGuardedRow.holds Try.pinned (OpenSpec.ofChange fnGuardedWrong)

/-- 'laws.FnExactTokenOf': WHATEVER THE INPUT: true; the input reads as it did. -/
def fnExactTokenOfSpec : ChangeSpec := { name := "fnExactTokenOf", fn := fun _ => fun
  | [d1, d2] => { results := [.lit (.bool true)], args := [d1, d2] }
  | _ => none }
def fnExactTokenOfRow : OpenClaim := { program := "ytligjkjogaobnaa", sum := "e8edeb85cf371c85b9871e29f54053a465e355831ec7b1eb3223c46b937338db", func := "loop.example/g00283/laws.FnExactTokenOf", spec := "fnExactTokenOf", apart := false }
def FnExactTokenOfSaid : Prop := fnExactTokenOfRow.holds Try.pinned (OpenSpec.ofChange fnExactTokenOfSpec)

/-- ITS FALSE NEIGHBOUR: 'it returns false'. Refute it at one input. -/
def fnExactTokenOfWrong : ChangeSpec := { name := "fnExactTokenOf", fn := fun _ => fun
  | [d1, d2] => { results := [.lit (.bool false)], args := [d1, d2] }
  | _ => none }
def FnExactTokenOfWrongFalsely : Prop := fnExactTokenOfRow.holds Try.pinned (OpenSpec.ofChange fnExactTokenOfWrong)

/-- 'laws.FnExactWriteCopy': WHATEVER THE INPUT: true; the input reads as it did. -/
def fnExactWriteCopySpec : ChangeSpec := { name := "fnExactWriteCopy", fn := fun _ => fun
  | [d1, d2, d3, d4] => { results := [.lit (.bool true)], args := [d1, d2, d3, d4] }
  | _ => none }
def fnExactWriteCopyRow : OpenClaim := { program := "ytligjkjogaobnaa", sum := "e8edeb85cf371c85b9871e29f54053a465e355831ec7b1eb3223c46b937338db", func := "loop.example/g00283/laws.FnExactWriteCopy", spec := "fnExactWriteCopy", apart := false }
def FnExactWriteCopySaid : Prop := fnExactWriteCopyRow.holds Try.pinned (OpenSpec.ofChange fnExactWriteCopySpec)

/-- ITS FALSE NEIGHBOUR: 'it returns false'. Refute it at one input. -/
def fnExactWriteCopyWrong : ChangeSpec := { name := "fnExactWriteCopy", fn := fun _ => fun
  | [d1, d2, d3, d4] => { results := [.lit (.bool false)], args := [d1, d2, d3, d4] }
  | _ => none }
def FnExactWriteCopyWrongFalsely : Prop := fnExactWriteCopyRow.holds Try.pinned (OpenSpec.ofChange fnExactWriteCopyWrong)

/-- 'laws.FnExactBefore': WHATEVER THE INPUT: true; the input reads as it did. -/
def fnExactBeforeSpec : ChangeSpec := { name := "fnExactBefore", fn := fun _ => fun
  | [d1, d2, d3] => { results := [.lit (.bool true)], args := [d1, d2, d3] }
  | _ => none }
def fnExactBeforeRow : OpenClaim := { program := "ytligjkjogaobnaa", sum := "e8edeb85cf371c85b9871e29f54053a465e355831ec7b1eb3223c46b937338db", func := "loop.example/g00283/laws.FnExactBefore", spec := "fnExactBefore", unfollowed := true, recurses := true, apart := false }
def FnExactBeforeSaid : Prop := fnExactBeforeRow.holds Try.pinned (OpenSpec.ofChange fnExactBeforeSpec)

/-- ITS FALSE NEIGHBOUR: 'it returns false'. Refute it at one input. -/
def fnExactBeforeWrong : ChangeSpec := { name := "fnExactBefore", fn := fun _ => fun
  | [d1, d2, d3] => { results := [.lit (.bool false)], args := [d1, d2, d3] }
  | _ => none }
def FnExactBeforeWrongFalsely : Prop := fnExactBeforeRow.holds Try.pinned (OpenSpec.ofChange fnExactBeforeWrong)

/-- 'laws.FnExactRaceAt': WHATEVER THE INPUT: true; the input reads as it did. -/
def fnExactRaceAtSpec : ChangeSpec := { name := "fnExactRaceAt", fn := fun _ => fun
  | [d] => { results := [.lit (.bool true)], args := [d] }
  | _ => none }
def fnExactRaceAtRow : OpenClaim := { program := "ytligjkjogaobnaa", sum := "e8edeb85cf371c85b9871e29f54053a465e355831ec7b1eb3223c46b937338db", func := "loop.example/g00283/laws.FnExactRaceAt", spec := "fnExactRaceAt", unfollowed := true, recurses := true, apart := false }
def FnExactRaceAtSaid : Prop := fnExactRaceAtRow.holds Try.pinned (OpenSpec.ofChange fnExactRaceAtSpec)

/-- ITS FALSE NEIGHBOUR: 'it returns false'. Refute it at one input. -/
def fnExactRaceAtWrong : ChangeSpec := { name := "fnExactRaceAt", fn := fun _ => fun
  | [d] => { results := [.lit (.bool false)], args := [d] }
  | _ => none }
def FnExactRaceAtWrongFalsely : Prop := fnExactRaceAtRow.holds Try.pinned (OpenSpec.ofChange fnExactRaceAtWrong)

/-- 'laws.FnExactPutCopy': WHATEVER THE INPUT: true; the input reads as it did. -/
def fnExactPutCopySpec : ChangeSpec := { name := "fnExactPutCopy", fn := fun _ => fun
  | [d1, d2, d3, d4, d5] => { results := [.lit (.bool true)], args := [d1, d2, d3, d4, d5] }
  | _ => none }
def fnExactPutCopyRow : OpenClaim := { program := "ytligjkjogaobnaa", sum := "e8edeb85cf371c85b9871e29f54053a465e355831ec7b1eb3223c46b937338db", func := "loop.example/g00283/laws.FnExactPutCopy", spec := "fnExactPutCopy", apart := false }
def FnExactPutCopySaid : Prop := fnExactPutCopyRow.holds Try.pinned (OpenSpec.ofChange fnExactPutCopySpec)

/-- ITS FALSE NEIGHBOUR: 'it returns false'. Refute it at one input. -/
def fnExactPutCopyWrong : ChangeSpec := { name := "fnExactPutCopy", fn := fun _ => fun
  | [d1, d2, d3, d4, d5] => { results := [.lit (.bool false)], args := [d1, d2, d3, d4, d5] }
  | _ => none }
def FnExactPutCopyWrongFalsely : Prop := fnExactPutCopyRow.holds Try.pinned (OpenSpec.ofChange fnExactPutCopyWrong)

/-- 'laws.FnOrdered': WHATEVER THE INPUT: true; the input reads as it did. -/
def fnOrderedSpec : ChangeSpec := { name := "fnOrdered", fn := fun _ => fun
  | [d] => { results := [.lit (.bool true)], args := [d] }
  | _ => none }
def fnOrderedRow : OpenClaim := { program := "ytligjkjogaobnaa", sum := "e8edeb85cf371c85b9871e29f54053a465e355831ec7b1eb3223c46b937338db", func := "loop.example/g00283/laws.FnOrdered", spec := "fnOrdered", unfollowed := true, recurses := true, apart := false }
def FnOrderedSaid : Prop := fnOrderedRow.holds Try.pinned (OpenSpec.ofChange fnOrderedSpec)

/-- ITS FALSE NEIGHBOUR: 'it returns false'. Refute it at one input. -/
def fnOrderedWrong : ChangeSpec := { name := "fnOrdered", fn := fun _ => fun
  | [d] => { results := [.lit (.bool false)], args := [d] }
  | _ => none }
def FnOrderedWrongFalsely : Prop := fnOrderedRow.holds Try.pinned (OpenSpec.ofChange fnOrderedWrong)

/-- 'laws.FnExactFreeToken': WHATEVER THE INPUT: true; the input reads as it did. -/
def fnExactFreeTokenSpec : ChangeSpec := { name := "fnExactFreeToken", fn := fun _ => fun
  | [d1, d2, d3, d4] => { results := [.lit (.bool true)], args := [d1, d2, d3, d4] }
  | _ => none }
def fnExactFreeTokenRow : OpenClaim := { program := "ytligjkjogaobnaa", sum := "e8edeb85cf371c85b9871e29f54053a465e355831ec7b1eb3223c46b937338db", func := "loop.example/g00283/laws.FnExactFreeToken", spec := "fnExactFreeToken", apart := false }
def FnExactFreeTokenSaid : Prop := fnExactFreeTokenRow.holds Try.pinned (OpenSpec.ofChange fnExactFreeTokenSpec)

/-- ITS FALSE NEIGHBOUR: 'it returns false'. Refute it at one input. -/
def fnExactFreeTokenWrong : ChangeSpec := { name := "fnExactFreeToken", fn := fun _ => fun
  | [d1, d2, d3, d4] => { results := [.lit (.bool false)], args := [d1, d2, d3, d4] }
  | _ => none }
def FnExactFreeTokenWrongFalsely : Prop := fnExactFreeTokenRow.holds Try.pinned (OpenSpec.ofChange fnExactFreeTokenWrong)

/-- 'laws.FnExactClocks': WHATEVER THE INPUT: true; the input reads as it did. -/
def fnExactClocksSpec : ChangeSpec := { name := "fnExactClocks", fn := fun _ => fun
  | [d] => { results := [.lit (.bool true)], args := [d] }
  | _ => none }
def fnExactClocksRow : OpenClaim := { program := "ytligjkjogaobnaa", sum := "e8edeb85cf371c85b9871e29f54053a465e355831ec7b1eb3223c46b937338db", func := "loop.example/g00283/laws.FnExactClocks", spec := "fnExactClocks", unfollowed := true, recurses := true, apart := false }
def FnExactClocksSaid : Prop := fnExactClocksRow.holds Try.pinned (OpenSpec.ofChange fnExactClocksSpec)

/-- ITS FALSE NEIGHBOUR: 'it returns false'. Refute it at one input. -/
def fnExactClocksWrong : ChangeSpec := { name := "fnExactClocks", fn := fun _ => fun
  | [d] => { results := [.lit (.bool false)], args := [d] }
  | _ => none }
def FnExactClocksWrongFalsely : Prop := fnExactClocksRow.holds Try.pinned (OpenSpec.ofChange fnExactClocksWrong)

/-- 'laws.FnExactMastersOk': WHATEVER THE INPUT: true; the input reads as it did. -/
def fnExactMastersOkSpec : ChangeSpec := { name := "fnExactMastersOk", fn := fun _ => fun
  | [d1, d2] => { results := [.lit (.bool true)], args := [d1, d2] }
  | _ => none }
def fnExactMastersOkRow : OpenClaim := { program := "ytligjkjogaobnaa", sum := "e8edeb85cf371c85b9871e29f54053a465e355831ec7b1eb3223c46b937338db", func := "loop.example/g00283/laws.FnExactMastersOk", spec := "fnExactMastersOk", apart := false }
def FnExactMastersOkSaid : Prop := fnExactMastersOkRow.holds Try.pinned (OpenSpec.ofChange fnExactMastersOkSpec)

/-- ITS FALSE NEIGHBOUR: 'it returns false'. Refute it at one input. -/
def fnExactMastersOkWrong : ChangeSpec := { name := "fnExactMastersOk", fn := fun _ => fun
  | [d1, d2] => { results := [.lit (.bool false)], args := [d1, d2] }
  | _ => none }
def FnExactMastersOkWrongFalsely : Prop := fnExactMastersOkRow.holds Try.pinned (OpenSpec.ofChange fnExactMastersOkWrong)

/-- 'laws.FnExactCopiesOk': WHATEVER THE INPUT: true; the input reads as it did. -/
def fnExactCopiesOkSpec : ChangeSpec := { name := "fnExactCopiesOk", fn := fun _ => fun
  | [d1, d2] => { results := [.lit (.bool true)], args := [d1, d2] }
  | _ => none }
def fnExactCopiesOkRow : OpenClaim := { program := "ytligjkjogaobnaa", sum := "e8edeb85cf371c85b9871e29f54053a465e355831ec7b1eb3223c46b937338db", func := "loop.example/g00283/laws.FnExactCopiesOk", spec := "fnExactCopiesOk", apart := false }
def FnExactCopiesOkSaid : Prop := fnExactCopiesOkRow.holds Try.pinned (OpenSpec.ofChange fnExactCopiesOkSpec)

/-- ITS FALSE NEIGHBOUR: 'it returns false'. Refute it at one input. -/
def fnExactCopiesOkWrong : ChangeSpec := { name := "fnExactCopiesOk", fn := fun _ => fun
  | [d1, d2] => { results := [.lit (.bool false)], args := [d1, d2] }
  | _ => none }
def FnExactCopiesOkWrongFalsely : Prop := fnExactCopiesOkRow.holds Try.pinned (OpenSpec.ofChange fnExactCopiesOkWrong)

/-- 'laws.FnExactFieldsOf': WHATEVER THE INPUT: true; the input reads as it did. -/
def fnExactFieldsOfSpec : ChangeSpec := { name := "fnExactFieldsOf", fn := fun _ => fun
  | [d1, d2] => { results := [.lit (.bool true)], args := [d1, d2] }
  | _ => none }
def fnExactFieldsOfRow : OpenClaim := { program := "ytligjkjogaobnaa", sum := "e8edeb85cf371c85b9871e29f54053a465e355831ec7b1eb3223c46b937338db", func := "loop.example/g00283/laws.FnExactFieldsOf", spec := "fnExactFieldsOf", apart := false }
def FnExactFieldsOfSaid : Prop := fnExactFieldsOfRow.holds Try.pinned (OpenSpec.ofChange fnExactFieldsOfSpec)

/-- ITS FALSE NEIGHBOUR: 'it returns false'. Refute it at one input. -/
def fnExactFieldsOfWrong : ChangeSpec := { name := "fnExactFieldsOf", fn := fun _ => fun
  | [d1, d2] => { results := [.lit (.bool false)], args := [d1, d2] }
  | _ => none }
def FnExactFieldsOfWrongFalsely : Prop := fnExactFieldsOfRow.holds Try.pinned (OpenSpec.ofChange fnExactFieldsOfWrong)

/- THE SECOND FORM. 'bulk': how many values and letters a reading holds, each counted each time it is reached (what is shared counts as often as it is met; a slice's spare places count too). A statement '..UptoSaid' is the law's where the arguments, and the package variables that the reading takes, are together of bulk at most 1048576: NARROWER than '..Said'. Prove '..Said' where nothing that the law and all that it calls make is longer than what came in: it says more and counts as full. Else prove '..UptoSaid'. A law counts once. -/
mutual
def uptoBulk {H : Type} : DataW H → Nat
  | .lit (.string bytes) => bytes.length + 1
  | .lit _ => 1
  | .nil => 1
  | .ptr d => uptoBulk d + 1
  | .slice elems spare => uptoBulkAll elems + uptoBulkAll spare + 1
  | .agg parts => uptoBulkAll parts + 1
  | .iface _ d => uptoBulk d + 1
  | .map entries => uptoBulkEntries entries + 1
  | .held _ => 1
def uptoBulkAll {H : Type} : List (DataW H) → Nat
  | [] => 0
  | d :: r => uptoBulk d + uptoBulkAll r
def uptoBulkEntries {H : Type} : List (Lit × DataW H) → Nat
  | [] => 0
  | x :: r => uptoBulkEntry x + uptoBulkEntries r
def uptoBulkEntry {H : Type} : Lit × DataW H → Nat
  | (.string bytes, d) => bytes.length + uptoBulk d + 1
  | (_, d) => uptoBulk d + 1
 end
def uptoSmall : (H : Type) → List (DataW H) → Bool := fun _ ds => decide (uptoBulkAll ds ≤ 1048576)
def OpenSpec.upto (s : _root_.Go.ChangeSpec) : _root_.Go.OpenSpec := { _root_.Go.OpenSpec.ofChange s with cond := some uptoSmall }

/-- 'laws.FnGuarded', WHERE WHAT IT READS IS OF BULK AT MOST 1048576: true; the input reads as it did. -/
def fnGuardedUptoRow : OpenClaim := { program := "ytligjkjogaobnaa", sum := "e8edeb85cf371c85b9871e29f54053a465e355831ec7b1eb3223c46b937338db", func := "loop.example/g00283/laws.FnGuarded", spec := "fnGuarded", unfollowed := true, recurses := true, apart := false, narrowed := true }
def FnGuardedUptoSaid : Prop := fnGuardedUptoRow.holds Try.pinned (OpenSpec.upto fnGuardedSpec)

/-- 'laws.FnExactTokenOf', WHERE WHAT IT READS IS OF BULK AT MOST 1048576: true; the input reads as it did. -/
def fnExactTokenOfUptoRow : OpenClaim := { program := "ytligjkjogaobnaa", sum := "e8edeb85cf371c85b9871e29f54053a465e355831ec7b1eb3223c46b937338db", func := "loop.example/g00283/laws.FnExactTokenOf", spec := "fnExactTokenOf", apart := false, narrowed := true }
def FnExactTokenOfUptoSaid : Prop := fnExactTokenOfUptoRow.holds Try.pinned (OpenSpec.upto fnExactTokenOfSpec)

/-- 'laws.FnExactWriteCopy', WHERE WHAT IT READS IS OF BULK AT MOST 1048576: true; the input reads as it did. -/
def fnExactWriteCopyUptoRow : OpenClaim := { program := "ytligjkjogaobnaa", sum := "e8edeb85cf371c85b9871e29f54053a465e355831ec7b1eb3223c46b937338db", func := "loop.example/g00283/laws.FnExactWriteCopy", spec := "fnExactWriteCopy", apart := false, narrowed := true }
def FnExactWriteCopyUptoSaid : Prop := fnExactWriteCopyUptoRow.holds Try.pinned (OpenSpec.upto fnExactWriteCopySpec)

/-- 'laws.FnExactBefore', WHERE WHAT IT READS IS OF BULK AT MOST 1048576: true; the input reads as it did. -/
def fnExactBeforeUptoRow : OpenClaim := { program := "ytligjkjogaobnaa", sum := "e8edeb85cf371c85b9871e29f54053a465e355831ec7b1eb3223c46b937338db", func := "loop.example/g00283/laws.FnExactBefore", spec := "fnExactBefore", unfollowed := true, recurses := true, apart := false, narrowed := true }
def FnExactBeforeUptoSaid : Prop := fnExactBeforeUptoRow.holds Try.pinned (OpenSpec.upto fnExactBeforeSpec)

/-- 'laws.FnExactRaceAt', WHERE WHAT IT READS IS OF BULK AT MOST 1048576: true; the input reads as it did. -/
def fnExactRaceAtUptoRow : OpenClaim := { program := "ytligjkjogaobnaa", sum := "e8edeb85cf371c85b9871e29f54053a465e355831ec7b1eb3223c46b937338db", func := "loop.example/g00283/laws.FnExactRaceAt", spec := "fnExactRaceAt", unfollowed := true, recurses := true, apart := false, narrowed := true }
def FnExactRaceAtUptoSaid : Prop := fnExactRaceAtUptoRow.holds Try.pinned (OpenSpec.upto fnExactRaceAtSpec)

/-- 'laws.FnExactPutCopy', WHERE WHAT IT READS IS OF BULK AT MOST 1048576: true; the input reads as it did. -/
def fnExactPutCopyUptoRow : OpenClaim := { program := "ytligjkjogaobnaa", sum := "e8edeb85cf371c85b9871e29f54053a465e355831ec7b1eb3223c46b937338db", func := "loop.example/g00283/laws.FnExactPutCopy", spec := "fnExactPutCopy", apart := false, narrowed := true }
def FnExactPutCopyUptoSaid : Prop := fnExactPutCopyUptoRow.holds Try.pinned (OpenSpec.upto fnExactPutCopySpec)

/-- 'laws.FnOrdered', WHERE WHAT IT READS IS OF BULK AT MOST 1048576: true; the input reads as it did. -/
def fnOrderedUptoRow : OpenClaim := { program := "ytligjkjogaobnaa", sum := "e8edeb85cf371c85b9871e29f54053a465e355831ec7b1eb3223c46b937338db", func := "loop.example/g00283/laws.FnOrdered", spec := "fnOrdered", unfollowed := true, recurses := true, apart := false, narrowed := true }
def FnOrderedUptoSaid : Prop := fnOrderedUptoRow.holds Try.pinned (OpenSpec.upto fnOrderedSpec)

/-- 'laws.FnExactFreeToken', WHERE WHAT IT READS IS OF BULK AT MOST 1048576: true; the input reads as it did. -/
def fnExactFreeTokenUptoRow : OpenClaim := { program := "ytligjkjogaobnaa", sum := "e8edeb85cf371c85b9871e29f54053a465e355831ec7b1eb3223c46b937338db", func := "loop.example/g00283/laws.FnExactFreeToken", spec := "fnExactFreeToken", apart := false, narrowed := true }
def FnExactFreeTokenUptoSaid : Prop := fnExactFreeTokenUptoRow.holds Try.pinned (OpenSpec.upto fnExactFreeTokenSpec)

/-- 'laws.FnExactClocks', WHERE WHAT IT READS IS OF BULK AT MOST 1048576: true; the input reads as it did. -/
def fnExactClocksUptoRow : OpenClaim := { program := "ytligjkjogaobnaa", sum := "e8edeb85cf371c85b9871e29f54053a465e355831ec7b1eb3223c46b937338db", func := "loop.example/g00283/laws.FnExactClocks", spec := "fnExactClocks", unfollowed := true, recurses := true, apart := false, narrowed := true }
def FnExactClocksUptoSaid : Prop := fnExactClocksUptoRow.holds Try.pinned (OpenSpec.upto fnExactClocksSpec)

/-- 'laws.FnExactMastersOk', WHERE WHAT IT READS IS OF BULK AT MOST 1048576: true; the input reads as it did. -/
def fnExactMastersOkUptoRow : OpenClaim := { program := "ytligjkjogaobnaa", sum := "e8edeb85cf371c85b9871e29f54053a465e355831ec7b1eb3223c46b937338db", func := "loop.example/g00283/laws.FnExactMastersOk", spec := "fnExactMastersOk", apart := false, narrowed := true }
def FnExactMastersOkUptoSaid : Prop := fnExactMastersOkUptoRow.holds Try.pinned (OpenSpec.upto fnExactMastersOkSpec)

/-- 'laws.FnExactCopiesOk', WHERE WHAT IT READS IS OF BULK AT MOST 1048576: true; the input reads as it did. -/
def fnExactCopiesOkUptoRow : OpenClaim := { program := "ytligjkjogaobnaa", sum := "e8edeb85cf371c85b9871e29f54053a465e355831ec7b1eb3223c46b937338db", func := "loop.example/g00283/laws.FnExactCopiesOk", spec := "fnExactCopiesOk", apart := false, narrowed := true }
def FnExactCopiesOkUptoSaid : Prop := fnExactCopiesOkUptoRow.holds Try.pinned (OpenSpec.upto fnExactCopiesOkSpec)

/-- 'laws.FnExactFieldsOf', WHERE WHAT IT READS IS OF BULK AT MOST 1048576: true; the input reads as it did. -/
def fnExactFieldsOfUptoRow : OpenClaim := { program := "ytligjkjogaobnaa", sum := "e8edeb85cf371c85b9871e29f54053a465e355831ec7b1eb3223c46b937338db", func := "loop.example/g00283/laws.FnExactFieldsOf", spec := "fnExactFieldsOf", apart := false, narrowed := true }
def FnExactFieldsOfUptoSaid : Prop := fnExactFieldsOfUptoRow.holds Try.pinned (OpenSpec.upto fnExactFieldsOfSpec)

end Rows
end Go.Proofs.Ytligjkjogaobnaa
