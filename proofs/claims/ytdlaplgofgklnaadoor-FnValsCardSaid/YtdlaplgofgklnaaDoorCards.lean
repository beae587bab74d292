/-
  DERIVED. GIVEN WITH THE SEED: THE CARDS: each row of YtdlaplgofgklnaaDoorRows.lean that lists a variable, with what it lists TIED to the program's text (the seventh form; the later family's looks); each row that meets fmt, with fmt's text TOLD by the authors' own Lean function (tested against real Go, not proved from fmt's source: count such statements apart). THE CARD IS WHAT COUNTS. Prove the row's statement (the work); the ties are given (YtdlaplgofgklnaaDoorTie.lean); close each card by the builder's one call (the guide's Derived/Test/ToyasCard.lean, 'card_holds'). Laid BY PROGRAM, IN A SANDBOX (cutbox-door.mjs). By AI agents, Wed Nov 11 2026. No macro, syntax, notation, axiom, sorry.
-/
import Derived.Test.YtdlaplgofgklnaaDoorRows
import GoSem.ClaimSeven
namespace Go.Proofs.YtdlaplgofgklnaaDoor
namespace Rows

/-- THE TIED CARD OF 'laws.FnExactValText'. -/
def fnExactValTextCard : Claim7 := { stood := { row := fnExactValTextRow, standIns := [], harness := (true, "ccfea288ec2628e2e6b395eb90befe94d464afd1cb3538991a9c82d5f41d2c64"), looks := false }, kinds := [], alts := [], laidByText := true, laidKinds := [.data, .data, .data], laidTests := true, laidLooks := .later }
def FnExactValTextCardSaid : Prop := Claim7.holds Tryd.pinned (.plain (OpenSpec.ofChange fnExactValTextSpec)) fnExactValTextCard

/-- THE TIED CARD OF 'laws.FnVals'. -/
def fnValsCard : Claim7 := { stood := { row := fnValsRow, standIns := [], harness := (true, "ccfea288ec2628e2e6b395eb90befe94d464afd1cb3538991a9c82d5f41d2c64"), looks := false }, kinds := [], alts := [], laidByText := true, laidKinds := [.data, .data, .data], laidTests := true, laidLooks := .later }
def FnValsCardSaid : Prop := Claim7.holds Tryd.pinned (.plain (OpenSpec.ofChange fnValsSpec)) fnValsCard

/-- THE TIED CARD OF 'laws.FnExactProgramText'. -/
def fnExactProgramTextCard : Claim7 := { stood := { row := fnExactProgramTextRow, standIns := [], harness := (true, "ccfea288ec2628e2e6b395eb90befe94d464afd1cb3538991a9c82d5f41d2c64"), looks := false }, kinds := [], alts := [], laidByText := true, laidKinds := [.data, .data, .data], laidTests := true, laidLooks := .later }
def FnExactProgramTextCardSaid : Prop := Claim7.holds Tryd.pinned (.plain (OpenSpec.ofChange fnExactProgramTextSpec)) fnExactProgramTextCard

/-- THE SECOND FORM's CARD OF 'laws.FnExactValText'. -/
def fnExactValTextUptoCard : Claim7 := { stood := { row := fnExactValTextUptoRow, standIns := [], harness := (true, "ccfea288ec2628e2e6b395eb90befe94d464afd1cb3538991a9c82d5f41d2c64"), looks := false }, kinds := [], alts := [], laidByText := true, laidKinds := [.data, .data, .data], laidTests := true, laidLooks := .later }
def FnExactValTextUptoCardSaid : Prop := Claim7.holds Tryd.pinned (.plain (OpenSpec.upto fnExactValTextSpec)) fnExactValTextUptoCard

/-- THE SECOND FORM's CARD OF 'laws.FnVals'. -/
def fnValsUptoCard : Claim7 := { stood := { row := fnValsUptoRow, standIns := [], harness := (true, "ccfea288ec2628e2e6b395eb90befe94d464afd1cb3538991a9c82d5f41d2c64"), looks := false }, kinds := [], alts := [], laidByText := true, laidKinds := [.data, .data, .data], laidTests := true, laidLooks := .later }
def FnValsUptoCardSaid : Prop := Claim7.holds Tryd.pinned (.plain (OpenSpec.upto fnValsSpec)) fnValsUptoCard

/-- THE SECOND FORM's CARD OF 'laws.FnExactProgramText'. -/
def fnExactProgramTextUptoCard : Claim7 := { stood := { row := fnExactProgramTextUptoRow, standIns := [], harness := (true, "ccfea288ec2628e2e6b395eb90befe94d464afd1cb3538991a9c82d5f41d2c64"), looks := false }, kinds := [], alts := [], laidByText := true, laidKinds := [.data, .data, .data], laidTests := true, laidLooks := .later }
def FnExactProgramTextUptoCardSaid : Prop := Claim7.holds Tryd.pinned (.plain (OpenSpec.upto fnExactProgramTextSpec)) fnExactProgramTextUptoCard
end Rows
end Go.Proofs.YtdlaplgofgklnaaDoor
