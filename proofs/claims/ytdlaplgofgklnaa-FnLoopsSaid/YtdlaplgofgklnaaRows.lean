/-
  No cell of these rows narrows 'for every input' (looked for: loops, veiled, ifaces, maps, wideKeys, modest, calm, conditions, laid).
  DERIVED. THE GIVEN ROWS OF THIS SEAT. 6 by the template 'for every input the law returns true; each argument reads behind the call as it read before'; 0 by the template 'total and deterministic' (their statements: YtdlaplgofgklnaaTotals.lean).
  GIVEN WITH THE SEED: the statements are not yours to turn. If you find one false, say at which input.
  Laid BY PROGRAM, IN A SANDBOX (cutbox-rows.mjs): the forced cells as the released guide's own fill.sh prints them over the translation 87f82da59d2c743f… (all of the seat's roots in one cut). By AI agents, Wed Nov 11 2026. No macro, syntax, notation, axiom, sorry.
-/
import Derived.Test.YtdlaplgofgklnaaChecked
import GoSem.Claim
import GoSem.ClaimJoined
import GoSem.ClaimMapViews
import Derived.JoinedTies
import Derived.KernelRfl
namespace Go.Proofs.Ytdlaplgofgklnaa
/- THE CELL 'sum', in the pinned program and in every row, IS THE sha256 OF THE DUMP (.gsa) THAT YtdlaplgofgklnaaProg.lean LOADS. Nothing in Lean hashes anything: it is a label: what it is worth is what the hold of that sum in a sandbox is worth. -/
noncomputable def Try.pinned : Pinned := { name := "ytdlaplgofgklnaa", sum := "87f82da59d2c743f5d21ea22916d58ce1dd67cada32f193cbac5b399cdfb168b", checked := Try.checked }
namespace Rows
def none {H : Type} : Left H := { results := [], args := [] }

/-- 'laws.FnExactPreds': WHATEVER THE INPUT: true; the input reads as it did. -/
def fnExactPredsSpec : ChangeSpec := { name := "fnExactPreds", fn := fun _ => fun
  | [d1, d2, d3] => { results := [.lit (.bool true)], args := [d1, d2, d3] }
  | _ => none }
def fnExactPredsRow : OpenClaim := { program := "ytdlaplgofgklnaa", sum := "87f82da59d2c743f5d21ea22916d58ce1dd67cada32f193cbac5b399cdfb168b", func := "loop.example/g00219/laws.FnExactPreds", spec := "fnExactPreds", apart := false }
def FnExactPredsSaid : Prop := fnExactPredsRow.holds Try.pinned (OpenSpec.ofChange fnExactPredsSpec)

/-- ITS FALSE NEIGHBOUR: 'it returns false'. Refute it at one input. -/
def fnExactPredsWrong : ChangeSpec := { name := "fnExactPreds", fn := fun _ => fun
  | [d1, d2, d3] => { results := [.lit (.bool false)], args := [d1, d2, d3] }
  | _ => none }
def FnExactPredsWrongFalsely : Prop := fnExactPredsRow.holds Try.pinned (OpenSpec.ofChange fnExactPredsWrong)

/-- 'laws.FnDoms': WHATEVER THE INPUT: true; the input reads as it did. -/
def fnDomsSpec : ChangeSpec := { name := "fnDoms", fn := fun _ => fun
  | [d] => { results := [.lit (.bool true)], args := [d] }
  | _ => none }
def fnDomsRow : OpenClaim := { program := "ytdlaplgofgklnaa", sum := "87f82da59d2c743f5d21ea22916d58ce1dd67cada32f193cbac5b399cdfb168b", func := "loop.example/g00219/laws.FnDoms", spec := "fnDoms", recurses := true, apart := false }
def FnDomsSaid : Prop := fnDomsRow.holds Try.pinned (OpenSpec.ofChange fnDomsSpec)

/-- ITS FALSE NEIGHBOUR: 'it returns false'. Refute it at one input. -/
def fnDomsWrong : ChangeSpec := { name := "fnDoms", fn := fun _ => fun
  | [d] => { results := [.lit (.bool false)], args := [d] }
  | _ => none }
def FnDomsWrongFalsely : Prop := fnDomsRow.holds Try.pinned (OpenSpec.ofChange fnDomsWrong)

/-- 'laws.FnExactDoms': WHATEVER THE INPUT: true; the input reads as it did. -/
def fnExactDomsSpec : ChangeSpec := { name := "fnExactDoms", fn := fun _ => fun
  | [d1, d2] => { results := [.lit (.bool true)], args := [d1, d2] }
  | _ => none }
def fnExactDomsRow : OpenClaim := { program := "ytdlaplgofgklnaa", sum := "87f82da59d2c743f5d21ea22916d58ce1dd67cada32f193cbac5b399cdfb168b", func := "loop.example/g00219/laws.FnExactDoms", spec := "fnExactDoms", apart := false }
def FnExactDomsSaid : Prop := fnExactDomsRow.holds Try.pinned (OpenSpec.ofChange fnExactDomsSpec)

/-- ITS FALSE NEIGHBOUR: 'it returns false'. Refute it at one input. -/
def fnExactDomsWrong : ChangeSpec := { name := "fnExactDoms", fn := fun _ => fun
  | [d1, d2] => { results := [.lit (.bool false)], args := [d1, d2] }
  | _ => none }
def FnExactDomsWrongFalsely : Prop := fnExactDomsRow.holds Try.pinned (OpenSpec.ofChange fnExactDomsWrong)

/-- 'laws.FnExactLoops': WHATEVER THE INPUT: true; the input reads as it did. -/
def fnExactLoopsSpec : ChangeSpec := { name := "fnExactLoops", fn := fun _ => fun
  | [d1, d2] => { results := [.lit (.bool true)], args := [d1, d2] }
  | _ => none }
def fnExactLoopsRow : OpenClaim := { program := "ytdlaplgofgklnaa", sum := "87f82da59d2c743f5d21ea22916d58ce1dd67cada32f193cbac5b399cdfb168b", func := "loop.example/g00219/laws.FnExactLoops", spec := "fnExactLoops", recurses := true, apart := false }
def FnExactLoopsSaid : Prop := fnExactLoopsRow.holds Try.pinned (OpenSpec.ofChange fnExactLoopsSpec)

/-- ITS FALSE NEIGHBOUR: 'it returns false'. Refute it at one input. -/
def fnExactLoopsWrong : ChangeSpec := { name := "fnExactLoops", fn := fun _ => fun
  | [d1, d2] => { results := [.lit (.bool false)], args := [d1, d2] }
  | _ => none }
def FnExactLoopsWrongFalsely : Prop := fnExactLoopsRow.holds Try.pinned (OpenSpec.ofChange fnExactLoopsWrong)

/-- 'laws.FnLoops': WHATEVER THE INPUT: true; the input reads as it did. -/
def fnLoopsSpec : ChangeSpec := { name := "fnLoops", fn := fun _ => fun
  | [d] => { results := [.lit (.bool true)], args := [d] }
  | _ => none }
def fnLoopsRow : OpenClaim := { program := "ytdlaplgofgklnaa", sum := "87f82da59d2c743f5d21ea22916d58ce1dd67cada32f193cbac5b399cdfb168b", func := "loop.example/g00219/laws.FnLoops", spec := "fnLoops", recurses := true, apart := false }
def FnLoopsSaid : Prop := fnLoopsRow.holds Try.pinned (OpenSpec.ofChange fnLoopsSpec)

/-- ITS FALSE NEIGHBOUR: 'it returns false'. Refute it at one input. -/
def fnLoopsWrong : ChangeSpec := { name := "fnLoops", fn := fun _ => fun
  | [d] => { results := [.lit (.bool false)], args := [d] }
  | _ => none }
def FnLoopsWrongFalsely : Prop := fnLoopsRow.holds Try.pinned (OpenSpec.ofChange fnLoopsWrong)

/-- 'laws.FnExactMixBegin': WHATEVER THE INPUT: true; the input reads as it did. -/
def fnExactMixBeginSpec : ChangeSpec := { name := "fnExactMixBegin", fn := fun _ => fun
  | [d1, d2, d3, d4] => { results := [.lit (.bool true)], args := [d1, d2, d3, d4] }
  | _ => none }
def fnExactMixBeginRow : OpenClaim := { program := "ytdlaplgofgklnaa", sum := "87f82da59d2c743f5d21ea22916d58ce1dd67cada32f193cbac5b399cdfb168b", func := "loop.example/g00219/laws.FnExactMixBegin", spec := "fnExactMixBegin", apart := false }
def FnExactMixBeginSaid : Prop := fnExactMixBeginRow.holds Try.pinned (OpenSpec.ofChange fnExactMixBeginSpec)

/-- ITS FALSE NEIGHBOUR: 'it returns false'. Refute it at one input. -/
def fnExactMixBeginWrong : ChangeSpec := { name := "fnExactMixBegin", fn := fun _ => fun
  | [d1, d2, d3, d4] => { results := [.lit (.bool false)], args := [d1, d2, d3, d4] }
  | _ => none }
def FnExactMixBeginWrongFalsely : Prop := fnExactMixBeginRow.holds Try.pinned (OpenSpec.ofChange fnExactMixBeginWrong)

/- THE SECOND FORM. 'bulk': how many values and letters a reading holds, each counted each time it is reached (what is shared counts as often as it is met; a slice's spare places count too). A statement '..UptoSaid' is the law's where the arguments, and the package variables that the reading takes, are together of bulk at most 1048576: NARROWER than '..Said'. Prove '..Said' where nothing that the law and all that it calls make is longer than what came in: it says more and counts as full. Else prove '..UptoSaid'. A law counts once. -/
mutual
def uptoBulk {H : Type} : DataW H → Nat
  | .lit (.string bytes) => bytes.length + 1
  | .lit _ => 1
  | .nil => 1
  | .ptr d => uptoBulk d + 1
  | .slice elems spare => uptoBulkAll elems + uptoBulkAll spare + 1
  | .agg parts => uptoBulkAll parts + 1
  | .iface _ d => uptoBulk d + 1
  | .map entries => uptoBulkEntries entries + 1
  | .held _ => 1
def uptoBulkAll {H : Type} : List (DataW H) → Nat
  | [] => 0
  | d :: r => uptoBulk d + uptoBulkAll r
def uptoBulkEntries {H : Type} : List (Lit × DataW H) → Nat
  | [] => 0
  | x :: r => uptoBulkEntry x + uptoBulkEntries r
def uptoBulkEntry {H : Type} : Lit × DataW H → Nat
  | (.string bytes, d) => bytes.length + uptoBulk d + 1
  | (_, d) => uptoBulk d + 1
 end
def uptoSmall : (H : Type) → List (DataW H) → Bool := fun _ ds => decide (uptoBulkAll ds ≤ 1048576)
def OpenSpec.upto (s : _root_.Go.ChangeSpec) : _root_.Go.OpenSpec := { _root_.Go.OpenSpec.ofChange s with cond := some uptoSmall }

/-- 'laws.FnExactPreds', WHERE WHAT IT READS IS OF BULK AT MOST 1048576: true; the input reads as it did. -/
def fnExactPredsUptoRow : OpenClaim := { program := "ytdlaplgofgklnaa", sum := "87f82da59d2c743f5d21ea22916d58ce1dd67cada32f193cbac5b399cdfb168b", func := "loop.example/g00219/laws.FnExactPreds", spec := "fnExactPreds", apart := false, narrowed := true }
def FnExactPredsUptoSaid : Prop := fnExactPredsUptoRow.holds Try.pinned (OpenSpec.upto fnExactPredsSpec)

/-- 'laws.FnDoms', WHERE WHAT IT READS IS OF BULK AT MOST 1048576: true; the input reads as it did. -/
def fnDomsUptoRow : OpenClaim := { program := "ytdlaplgofgklnaa", sum := "87f82da59d2c743f5d21ea22916d58ce1dd67cada32f193cbac5b399cdfb168b", func := "loop.example/g00219/laws.FnDoms", spec := "fnDoms", recurses := true, apart := false, narrowed := true }
def FnDomsUptoSaid : Prop := fnDomsUptoRow.holds Try.pinned (OpenSpec.upto fnDomsSpec)

/-- 'laws.FnExactDoms', WHERE WHAT IT READS IS OF BULK AT MOST 1048576: true; the input reads as it did. -/
def fnExactDomsUptoRow : OpenClaim := { program := "ytdlaplgofgklnaa", sum := "87f82da59d2c743f5d21ea22916d58ce1dd67cada32f193cbac5b399cdfb168b", func := "loop.example/g00219/laws.FnExactDoms", spec := "fnExactDoms", apart := false, narrowed := true }
def FnExactDomsUptoSaid : Prop := fnExactDomsUptoRow.holds Try.pinned (OpenSpec.upto fnExactDomsSpec)

/-- 'laws.FnExactLoops', WHERE WHAT IT READS IS OF BULK AT MOST 1048576: true; the input reads as it did. -/
def fnExactLoopsUptoRow : OpenClaim := { program := "ytdlaplgofgklnaa", sum := "87f82da59d2c743f5d21ea22916d58ce1dd67cada32f193cbac5b399cdfb168b", func := "loop.example/g00219/laws.FnExactLoops", spec := "fnExactLoops", recurses := true, apart := false, narrowed := true }
def FnExactLoopsUptoSaid : Prop := fnExactLoopsUptoRow.holds Try.pinned (OpenSpec.upto fnExactLoopsSpec)

/-- 'laws.FnLoops', WHERE WHAT IT READS IS OF BULK AT MOST 1048576: true; the input reads as it did. -/
def fnLoopsUptoRow : OpenClaim := { program := "ytdlaplgofgklnaa", sum := "87f82da59d2c743f5d21ea22916d58ce1dd67cada32f193cbac5b399cdfb168b", func := "loop.example/g00219/laws.FnLoops", spec := "fnLoops", recurses := true, apart := false, narrowed := true }
def FnLoopsUptoSaid : Prop := fnLoopsUptoRow.holds Try.pinned (OpenSpec.upto fnLoopsSpec)

/-- 'laws.FnExactMixBegin', WHERE WHAT IT READS IS OF BULK AT MOST 1048576: true; the input reads as it did. -/
def fnExactMixBeginUptoRow : OpenClaim := { program := "ytdlaplgofgklnaa", sum := "87f82da59d2c743f5d21ea22916d58ce1dd67cada32f193cbac5b399cdfb168b", func := "loop.example/g00219/laws.FnExactMixBegin", spec := "fnExactMixBegin", apart := false, narrowed := true }
def FnExactMixBeginUptoSaid : Prop := fnExactMixBeginUptoRow.holds Try.pinned (OpenSpec.upto fnExactMixBeginSpec)

end Rows
end Go.Proofs.Ytdlaplgofgklnaa
