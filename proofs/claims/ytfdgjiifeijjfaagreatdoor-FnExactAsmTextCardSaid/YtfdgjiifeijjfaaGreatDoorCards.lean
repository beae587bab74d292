/-
  DERIVED. GIVEN WITH THE SEED: THE CARDS: each row of YtfdgjiifeijjfaaGreatDoorRows.lean that lists a variable, with what it lists TIED to the program's text (the seventh form; the later family's looks); each row that meets fmt, with fmt's text TOLD by the authors' own Lean function (tested against real Go, not proved from fmt's source: count such statements apart). THE CARD IS WHAT COUNTS. Prove the row's statement (the work); the ties are given (YtfdgjiifeijjfaaGreatDoorTie.lean); close each card by the builder's one call (the guide's Derived/Test/ToyasCard.lean, 'card_holds'). Laid BY PROGRAM, IN A SANDBOX (cutbox-door.mjs). By AI agents, Wed Nov 11 2026. No macro, syntax, notation, axiom, sorry.
-/
import Derived.Test.YtfdgjiifeijjfaaGreatDoorRows
import GoSem.ClaimSeven
namespace Go.Proofs.YtfdgjiifeijjfaaGreatDoor
namespace Rows

/-- THE TIED CARD OF 'laws.FnExactAsmText'. -/
def fnExactAsmTextCard : Claim7 := { stood := { row := fnExactAsmTextRow, standIns := [], harness := (true, "149940af3f1e680c51ae1e452726ac79faab8db98cef81d585ddcfeced3a0d8e"), looks := false }, kinds := [], alts := [], laidByText := true, laidKinds := [.data, .data, .data], laidTests := true, laidLooks := .later }
def FnExactAsmTextCardSaid : Prop := Claim7.holds Tryz.pinned (.plain (OpenSpec.ofChange fnExactAsmTextSpec)) fnExactAsmTextCard

/-- THE SECOND FORM's CARD OF 'laws.FnExactAsmText'. -/
def fnExactAsmTextUptoCard : Claim7 := { stood := { row := fnExactAsmTextUptoRow, standIns := [], harness := (true, "149940af3f1e680c51ae1e452726ac79faab8db98cef81d585ddcfeced3a0d8e"), looks := false }, kinds := [], alts := [], laidByText := true, laidKinds := [.data, .data, .data], laidTests := true, laidLooks := .later }
def FnExactAsmTextUptoCardSaid : Prop := Claim7.holds Tryz.pinned (.plain (OpenSpec.upto fnExactAsmTextSpec)) fnExactAsmTextUptoCard
end Rows
end Go.Proofs.YtfdgjiifeijjfaaGreatDoor
