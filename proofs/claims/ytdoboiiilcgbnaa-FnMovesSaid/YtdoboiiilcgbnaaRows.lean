/-
  No cell of these rows narrows 'for every input' (looked for: loops, veiled, ifaces, maps, wideKeys, modest, calm, conditions, laid).
  DERIVED. THE GIVEN ROWS OF THIS SEAT. 9 by the template 'for every input the law returns true; each argument reads behind the call as it read before'; 0 by the template 'total and deterministic' (their statements: YtdoboiiilcgbnaaTotals.lean).
  GIVEN WITH THE SEED: the statements are not yours to turn. If you find one false, say at which input.
  Laid BY PROGRAM, IN A SANDBOX (cutbox-rows.mjs): the forced cells as the released guide's own fill.sh prints them over the translation c2a2fa41ead7d2dd… (all of the seat's roots in one cut). By AI agents, Wed Nov 11 2026. No macro, syntax, notation, axiom, sorry.
-/
import Derived.Test.YtdoboiiilcgbnaaChecked
import GoSem.Claim
import GoSem.ClaimJoined
import GoSem.ClaimMapViews
import Derived.JoinedTies
import Derived.KernelRfl
namespace Go.Proofs.Ytdoboiiilcgbnaa
/- THE CELL 'sum', in the pinned program and in every row, IS THE sha256 OF THE DUMP (.gsa) THAT YtdoboiiilcgbnaaProg.lean LOADS. Nothing in Lean hashes anything: it is a label: what it is worth is what the hold of that sum in a sandbox is worth. -/
noncomputable def Try.pinned : Pinned := { name := "ytdoboiiilcgbnaa", sum := "c2a2fa41ead7d2dda50c4d957ec7a42e84149ff3a9ecb28018f19408877e0428", checked := Try.checked }
namespace Rows
def none {H : Type} : Left H := { results := [], args := [] }

/-- 'laws.FnExactNested': WHATEVER THE INPUT: true; the input reads as it did. -/
def fnExactNestedSpec : ChangeSpec := { name := "fnExactNested", fn := fun _ => fun
  | [d1, d2] => { results := [.lit (.bool true)], args := [d1, d2] }
  | _ => none }
def fnExactNestedRow : OpenClaim := { program := "ytdoboiiilcgbnaa", sum := "c2a2fa41ead7d2dda50c4d957ec7a42e84149ff3a9ecb28018f19408877e0428", func := "loop.example/g00219/laws.FnExactNested", spec := "fnExactNested", apart := false }
def FnExactNestedSaid : Prop := fnExactNestedRow.holds Try.pinned (OpenSpec.ofChange fnExactNestedSpec)

/-- ITS FALSE NEIGHBOUR: 'it returns false'. Refute it at one input. -/
def fnExactNestedWrong : ChangeSpec := { name := "fnExactNested", fn := fun _ => fun
  | [d1, d2] => { results := [.lit (.bool false)], args := [d1, d2] }
  | _ => none }
def FnExactNestedWrongFalsely : Prop := fnExactNestedRow.holds Try.pinned (OpenSpec.ofChange fnExactNestedWrong)

/-- 'laws.FnExactPolicyRight': WHATEVER THE INPUT: true; the input reads as it did. -/
def fnExactPolicyRightSpec : ChangeSpec := { name := "fnExactPolicyRight", fn := fun _ => fun
  | [d] => { results := [.lit (.bool true)], args := [d] }
  | _ => none }
def fnExactPolicyRightRow : OpenClaim := { program := "ytdoboiiilcgbnaa", sum := "c2a2fa41ead7d2dda50c4d957ec7a42e84149ff3a9ecb28018f19408877e0428", func := "loop.example/g00219/laws.FnExactPolicyRight", spec := "fnExactPolicyRight", apart := false }
def FnExactPolicyRightSaid : Prop := fnExactPolicyRightRow.holds Try.pinned (OpenSpec.ofChange fnExactPolicyRightSpec)

/-- ITS FALSE NEIGHBOUR: 'it returns false'. Refute it at one input. -/
def fnExactPolicyRightWrong : ChangeSpec := { name := "fnExactPolicyRight", fn := fun _ => fun
  | [d] => { results := [.lit (.bool false)], args := [d] }
  | _ => none }
def FnExactPolicyRightWrongFalsely : Prop := fnExactPolicyRightRow.holds Try.pinned (OpenSpec.ofChange fnExactPolicyRightWrong)

/-- 'laws.FnExactMovesRight': WHATEVER THE INPUT: true; the input reads as it did. -/
def fnExactMovesRightSpec : ChangeSpec := { name := "fnExactMovesRight", fn := fun _ => fun
  | [d] => { results := [.lit (.bool true)], args := [d] }
  | _ => none }
def fnExactMovesRightRow : OpenClaim := { program := "ytdoboiiilcgbnaa", sum := "c2a2fa41ead7d2dda50c4d957ec7a42e84149ff3a9ecb28018f19408877e0428", func := "loop.example/g00219/laws.FnExactMovesRight", spec := "fnExactMovesRight", apart := false }
def FnExactMovesRightSaid : Prop := fnExactMovesRightRow.holds Try.pinned (OpenSpec.ofChange fnExactMovesRightSpec)

/-- ITS FALSE NEIGHBOUR: 'it returns false'. Refute it at one input. -/
def fnExactMovesRightWrong : ChangeSpec := { name := "fnExactMovesRight", fn := fun _ => fun
  | [d] => { results := [.lit (.bool false)], args := [d] }
  | _ => none }
def FnExactMovesRightWrongFalsely : Prop := fnExactMovesRightRow.holds Try.pinned (OpenSpec.ofChange fnExactMovesRightWrong)

/-- 'laws.FnExactMovesDone': WHATEVER THE INPUT: true; the input reads as it did. -/
def fnExactMovesDoneSpec : ChangeSpec := { name := "fnExactMovesDone", fn := fun _ => fun
  | [d1, d2] => { results := [.lit (.bool true)], args := [d1, d2] }
  | _ => none }
def fnExactMovesDoneRow : OpenClaim := { program := "ytdoboiiilcgbnaa", sum := "c2a2fa41ead7d2dda50c4d957ec7a42e84149ff3a9ecb28018f19408877e0428", func := "loop.example/g00219/laws.FnExactMovesDone", spec := "fnExactMovesDone", apart := false }
def FnExactMovesDoneSaid : Prop := fnExactMovesDoneRow.holds Try.pinned (OpenSpec.ofChange fnExactMovesDoneSpec)

/-- ITS FALSE NEIGHBOUR: 'it returns false'. Refute it at one input. -/
def fnExactMovesDoneWrong : ChangeSpec := { name := "fnExactMovesDone", fn := fun _ => fun
  | [d1, d2] => { results := [.lit (.bool false)], args := [d1, d2] }
  | _ => none }
def FnExactMovesDoneWrongFalsely : Prop := fnExactMovesDoneRow.holds Try.pinned (OpenSpec.ofChange fnExactMovesDoneWrong)

/-- 'laws.FnExactMovesAtOnce': WHATEVER THE INPUT: true; the input reads as it did. -/
def fnExactMovesAtOnceSpec : ChangeSpec := { name := "fnExactMovesAtOnce", fn := fun _ => fun
  | [d1, d2] => { results := [.lit (.bool true)], args := [d1, d2] }
  | _ => none }
def fnExactMovesAtOnceRow : OpenClaim := { program := "ytdoboiiilcgbnaa", sum := "c2a2fa41ead7d2dda50c4d957ec7a42e84149ff3a9ecb28018f19408877e0428", func := "loop.example/g00219/laws.FnExactMovesAtOnce", spec := "fnExactMovesAtOnce", apart := false }
def FnExactMovesAtOnceSaid : Prop := fnExactMovesAtOnceRow.holds Try.pinned (OpenSpec.ofChange fnExactMovesAtOnceSpec)

/-- ITS FALSE NEIGHBOUR: 'it returns false'. Refute it at one input. -/
def fnExactMovesAtOnceWrong : ChangeSpec := { name := "fnExactMovesAtOnce", fn := fun _ => fun
  | [d1, d2] => { results := [.lit (.bool false)], args := [d1, d2] }
  | _ => none }
def FnExactMovesAtOnceWrongFalsely : Prop := fnExactMovesAtOnceRow.holds Try.pinned (OpenSpec.ofChange fnExactMovesAtOnceWrong)

/-- 'laws.FnExactCycles': WHATEVER THE INPUT: true; the input reads as it did. -/
def fnExactCyclesSpec : ChangeSpec := { name := "fnExactCycles", fn := fun _ => fun
  | [d] => { results := [.lit (.bool true)], args := [d] }
  | _ => none }
def fnExactCyclesRow : OpenClaim := { program := "ytdoboiiilcgbnaa", sum := "c2a2fa41ead7d2dda50c4d957ec7a42e84149ff3a9ecb28018f19408877e0428", func := "loop.example/g00219/laws.FnExactCycles", spec := "fnExactCycles", unfollowed := true, recurses := true, apart := false }
def FnExactCyclesSaid : Prop := fnExactCyclesRow.holds Try.pinned (OpenSpec.ofChange fnExactCyclesSpec)

/-- ITS FALSE NEIGHBOUR: 'it returns false'. Refute it at one input. -/
def fnExactCyclesWrong : ChangeSpec := { name := "fnExactCycles", fn := fun _ => fun
  | [d] => { results := [.lit (.bool false)], args := [d] }
  | _ => none }
def FnExactCyclesWrongFalsely : Prop := fnExactCyclesRow.holds Try.pinned (OpenSpec.ofChange fnExactCyclesWrong)

/-- 'laws.FnExactSequence': WHATEVER THE INPUT: true; the input reads as it did. -/
def fnExactSequenceSpec : ChangeSpec := { name := "fnExactSequence", fn := fun _ => fun
  | [d1, d2] => { results := [.lit (.bool true)], args := [d1, d2] }
  | _ => none }
def fnExactSequenceRow : OpenClaim := { program := "ytdoboiiilcgbnaa", sum := "c2a2fa41ead7d2dda50c4d957ec7a42e84149ff3a9ecb28018f19408877e0428", func := "loop.example/g00219/laws.FnExactSequence", spec := "fnExactSequence", unfollowed := true, recurses := true, apart := false }
def FnExactSequenceSaid : Prop := fnExactSequenceRow.holds Try.pinned (OpenSpec.ofChange fnExactSequenceSpec)

/-- ITS FALSE NEIGHBOUR: 'it returns false'. Refute it at one input. -/
def fnExactSequenceWrong : ChangeSpec := { name := "fnExactSequence", fn := fun _ => fun
  | [d1, d2] => { results := [.lit (.bool false)], args := [d1, d2] }
  | _ => none }
def FnExactSequenceWrongFalsely : Prop := fnExactSequenceRow.holds Try.pinned (OpenSpec.ofChange fnExactSequenceWrong)

/-- 'laws.FnMoves': WHATEVER THE INPUT: true; the input reads as it did. -/
def fnMovesSpec : ChangeSpec := { name := "fnMoves", fn := fun _ => fun
  | [d1, d2] => { results := [.lit (.bool true)], args := [d1, d2] }
  | _ => none }
def fnMovesRow : OpenClaim := { program := "ytdoboiiilcgbnaa", sum := "c2a2fa41ead7d2dda50c4d957ec7a42e84149ff3a9ecb28018f19408877e0428", func := "loop.example/g00219/laws.FnMoves", spec := "fnMoves", unfollowed := true, recurses := true, apart := false }
def FnMovesSaid : Prop := fnMovesRow.holds Try.pinned (OpenSpec.ofChange fnMovesSpec)

/-- ITS FALSE NEIGHBOUR: 'it returns false'. Refute it at one input. -/
def fnMovesWrong : ChangeSpec := { name := "fnMoves", fn := fun _ => fun
  | [d1, d2] => { results := [.lit (.bool false)], args := [d1, d2] }
  | _ => none }
def FnMovesWrongFalsely : Prop := fnMovesRow.holds Try.pinned (OpenSpec.ofChange fnMovesWrong)

/-- 'laws.FnExactDeskWords': WHATEVER THE INPUT: true; the input reads as it did. -/
def fnExactDeskWordsSpec : ChangeSpec := { name := "fnExactDeskWords", fn := fun _ => fun
  | [] => { results := [.lit (.bool true)], args := [] }
  | _ => none }
def fnExactDeskWordsRow : OpenClaim := { program := "ytdoboiiilcgbnaa", sum := "c2a2fa41ead7d2dda50c4d957ec7a42e84149ff3a9ecb28018f19408877e0428", func := "loop.example/g00219/laws.FnExactDeskWords", spec := "fnExactDeskWords", recurses := true, apart := false }
def FnExactDeskWordsSaid : Prop := fnExactDeskWordsRow.holds Try.pinned (OpenSpec.ofChange fnExactDeskWordsSpec)

/-- ITS FALSE NEIGHBOUR: 'it returns false'. Refute it at one input. -/
def fnExactDeskWordsWrong : ChangeSpec := { name := "fnExactDeskWords", fn := fun _ => fun
  | [] => { results := [.lit (.bool false)], args := [] }
  | _ => none }
def FnExactDeskWordsWrongFalsely : Prop := fnExactDeskWordsRow.holds Try.pinned (OpenSpec.ofChange fnExactDeskWordsWrong)

/- THE SECOND FORM. 'bulk': how many values and letters a reading holds, each counted each time it is reached (what is shared counts as often as it is met; a slice's spare places count too). A statement '..UptoSaid' is the law's where the arguments, and the package variables that the reading takes, are together of bulk at most 1048576: NARROWER than '..Said'. Prove '..Said' where nothing that the law and all that it calls make is longer than what came in: it says more and counts as full. Else prove '..UptoSaid'. A law counts once. -/
mutual
def uptoBulk {H : Type} : DataW H → Nat
  | .lit (.string bytes) => bytes.length + 1
  | .lit _ => 1
  | .nil => 1
  | .ptr d => uptoBulk d + 1
  | .slice elems spare => uptoBulkAll elems + uptoBulkAll spare + 1
  | .agg parts => uptoBulkAll parts + 1
  | .iface _ d => uptoBulk d + 1
  | .map entries => uptoBulkEntries entries + 1
  | .held _ => 1
def uptoBulkAll {H : Type} : List (DataW H) → Nat
  | [] => 0
  | d :: r => uptoBulk d + uptoBulkAll r
def uptoBulkEntries {H : Type} : List (Lit × DataW H) → Nat
  | [] => 0
  | x :: r => uptoBulkEntry x + uptoBulkEntries r
def uptoBulkEntry {H : Type} : Lit × DataW H → Nat
  | (.string bytes, d) => bytes.length + uptoBulk d + 1
  | (_, d) => uptoBulk d + 1
 end
def uptoSmall : (H : Type) → List (DataW H) → Bool := fun _ ds => decide (uptoBulkAll ds ≤ 1048576)
def OpenSpec.upto (s : _root_.Go.ChangeSpec) : _root_.Go.OpenSpec := { _root_.Go.OpenSpec.ofChange s with cond := some uptoSmall }

/-- 'laws.FnExactNested', WHERE WHAT IT READS IS OF BULK AT MOST 1048576: true; the input reads as it did. -/
def fnExactNestedUptoRow : OpenClaim := { program := "ytdoboiiilcgbnaa", sum := "c2a2fa41ead7d2dda50c4d957ec7a42e84149ff3a9ecb28018f19408877e0428", func := "loop.example/g00219/laws.FnExactNested", spec := "fnExactNested", apart := false, narrowed := true }
def FnExactNestedUptoSaid : Prop := fnExactNestedUptoRow.holds Try.pinned (OpenSpec.upto fnExactNestedSpec)

/-- 'laws.FnExactPolicyRight', WHERE WHAT IT READS IS OF BULK AT MOST 1048576: true; the input reads as it did. -/
def fnExactPolicyRightUptoRow : OpenClaim := { program := "ytdoboiiilcgbnaa", sum := "c2a2fa41ead7d2dda50c4d957ec7a42e84149ff3a9ecb28018f19408877e0428", func := "loop.example/g00219/laws.FnExactPolicyRight", spec := "fnExactPolicyRight", apart := false, narrowed := true }
def FnExactPolicyRightUptoSaid : Prop := fnExactPolicyRightUptoRow.holds Try.pinned (OpenSpec.upto fnExactPolicyRightSpec)

/-- 'laws.FnExactMovesRight', WHERE WHAT IT READS IS OF BULK AT MOST 1048576: true; the input reads as it did. -/
def fnExactMovesRightUptoRow : OpenClaim := { program := "ytdoboiiilcgbnaa", sum := "c2a2fa41ead7d2dda50c4d957ec7a42e84149ff3a9ecb28018f19408877e0428", func := "loop.example/g00219/laws.FnExactMovesRight", spec := "fnExactMovesRight", apart := false, narrowed := true }
def FnExactMovesRightUptoSaid : Prop := fnExactMovesRightUptoRow.holds Try.pinned (OpenSpec.upto fnExactMovesRightSpec)

/-- 'laws.FnExactMovesDone', WHERE WHAT IT READS IS OF BULK AT MOST 1048576: true; the input reads as it did. -/
def fnExactMovesDoneUptoRow : OpenClaim := { program := "ytdoboiiilcgbnaa", sum := "c2a2fa41ead7d2dda50c4d957ec7a42e84149ff3a9ecb28018f19408877e0428", func := "loop.example/g00219/laws.FnExactMovesDone", spec := "fnExactMovesDone", apart := false, narrowed := true }
def FnExactMovesDoneUptoSaid : Prop := fnExactMovesDoneUptoRow.holds Try.pinned (OpenSpec.upto fnExactMovesDoneSpec)

/-- 'laws.FnExactMovesAtOnce', WHERE WHAT IT READS IS OF BULK AT MOST 1048576: true; the input reads as it did. -/
def fnExactMovesAtOnceUptoRow : OpenClaim := { program := "ytdoboiiilcgbnaa", sum := "c2a2fa41ead7d2dda50c4d957ec7a42e84149ff3a9ecb28018f19408877e0428", func := "loop.example/g00219/laws.FnExactMovesAtOnce", spec := "fnExactMovesAtOnce", apart := false, narrowed := true }
def FnExactMovesAtOnceUptoSaid : Prop := fnExactMovesAtOnceUptoRow.holds Try.pinned (OpenSpec.upto fnExactMovesAtOnceSpec)

/-- 'laws.FnExactCycles', WHERE WHAT IT READS IS OF BULK AT MOST 1048576: true; the input reads as it did. -/
def fnExactCyclesUptoRow : OpenClaim := { program := "ytdoboiiilcgbnaa", sum := "c2a2fa41ead7d2dda50c4d957ec7a42e84149ff3a9ecb28018f19408877e0428", func := "loop.example/g00219/laws.FnExactCycles", spec := "fnExactCycles", unfollowed := true, recurses := true, apart := false, narrowed := true }
def FnExactCyclesUptoSaid : Prop := fnExactCyclesUptoRow.holds Try.pinned (OpenSpec.upto fnExactCyclesSpec)

/-- 'laws.FnExactSequence', WHERE WHAT IT READS IS OF BULK AT MOST 1048576: true; the input reads as it did. -/
def fnExactSequenceUptoRow : OpenClaim := { program := "ytdoboiiilcgbnaa", sum := "c2a2fa41ead7d2dda50c4d957ec7a42e84149ff3a9ecb28018f19408877e0428", func := "loop.example/g00219/laws.FnExactSequence", spec := "fnExactSequence", unfollowed := true, recurses := true, apart := false, narrowed := true }
def FnExactSequenceUptoSaid : Prop := fnExactSequenceUptoRow.holds Try.pinned (OpenSpec.upto fnExactSequenceSpec)

/-- 'laws.FnMoves', WHERE WHAT IT READS IS OF BULK AT MOST 1048576: true; the input reads as it did. -/
def fnMovesUptoRow : OpenClaim := { program := "ytdoboiiilcgbnaa", sum := "c2a2fa41ead7d2dda50c4d957ec7a42e84149ff3a9ecb28018f19408877e0428", func := "loop.example/g00219/laws.FnMoves", spec := "fnMoves", unfollowed := true, recurses := true, apart := false, narrowed := true }
def FnMovesUptoSaid : Prop := fnMovesUptoRow.holds Try.pinned (OpenSpec.upto fnMovesSpec)

/-- 'laws.FnExactDeskWords', WHERE WHAT IT READS IS OF BULK AT MOST 1048576: true; the input reads as it did. -/
def fnExactDeskWordsUptoRow : OpenClaim := { program := "ytdoboiiilcgbnaa", sum := "c2a2fa41ead7d2dda50c4d957ec7a42e84149ff3a9ecb28018f19408877e0428", func := "loop.example/g00219/laws.FnExactDeskWords", spec := "fnExactDeskWords", recurses := true, apart := false, narrowed := true }
def FnExactDeskWordsUptoSaid : Prop := fnExactDeskWordsUptoRow.holds Try.pinned (OpenSpec.upto fnExactDeskWordsSpec)

end Rows
end Go.Proofs.Ytdoboiiilcgbnaa
