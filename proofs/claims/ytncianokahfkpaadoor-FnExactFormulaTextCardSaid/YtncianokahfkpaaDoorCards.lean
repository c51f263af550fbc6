/-
  DERIVED. GIVEN WITH THE SEED: THE CARDS: each row of YtncianokahfkpaaDoorRows.lean that lists a variable, with what it lists TIED to the program's text (the seventh form; the later family's looks); each row that meets fmt, with fmt's text TOLD by the authors' own Lean function (tested against real Go, not proved from fmt's source: count such statements apart). THE CARD IS WHAT COUNTS. Prove the row's statement (the work); the ties are given (YtncianokahfkpaaDoorTie.lean); close each card by the builder's one call (the guide's Derived/Test/ToyasCard.lean, 'card_holds'). Laid BY PROGRAM, IN A SANDBOX (cutbox-door.mjs). By AI agents, Wed Nov 11 2026. No macro, syntax, notation, axiom, sorry.
-/
import Derived.Test.YtncianokahfkpaaDoorRows
import GoSem.ClaimSeven
namespace Go.Proofs.YtncianokahfkpaaDoor
namespace Rows

/-- THE TIED CARD OF 'laws.FnExactProofText'. -/
def fnExactProofTextCard : Claim7 := { stood := { row := fnExactProofTextRow, standIns := [], harness := (true, "da118b1ec6639fda0c88c9c753ef35282501c302345b64bb72c04ba4e2c2625d"), looks := false }, kinds := [], alts := [], laidByText := true, laidKinds := [.data, .data, .data], laidTests := true, laidLooks := .later }
def FnExactProofTextCardSaid : Prop := Claim7.holds Tryd.pinned (.plain (OpenSpec.ofChange fnExactProofTextSpec)) fnExactProofTextCard

/-- THE TIED CARD OF 'laws.FnExactFormulaText'. -/
def fnExactFormulaTextCard : Claim7 := { stood := { row := fnExactFormulaTextRow, standIns := [], harness := (true, "da118b1ec6639fda0c88c9c753ef35282501c302345b64bb72c04ba4e2c2625d"), looks := false }, kinds := [], alts := [], laidByText := true, laidKinds := [.data, .data, .data], laidTests := true, laidLooks := .later }
def FnExactFormulaTextCardSaid : Prop := Claim7.holds Tryd.pinned (.plain (OpenSpec.ofChange fnExactFormulaTextSpec)) fnExactFormulaTextCard

/-- THE SECOND FORM's CARD OF 'laws.FnExactProofText'. -/
def fnExactProofTextUptoCard : Claim7 := { stood := { row := fnExactProofTextUptoRow, standIns := [], harness := (true, "da118b1ec6639fda0c88c9c753ef35282501c302345b64bb72c04ba4e2c2625d"), looks := false }, kinds := [], alts := [], laidByText := true, laidKinds := [.data, .data, .data], laidTests := true, laidLooks := .later }
def FnExactProofTextUptoCardSaid : Prop := Claim7.holds Tryd.pinned (.plain (OpenSpec.upto fnExactProofTextSpec)) fnExactProofTextUptoCard

/-- THE SECOND FORM's CARD OF 'laws.FnExactFormulaText'. -/
def fnExactFormulaTextUptoCard : Claim7 := { stood := { row := fnExactFormulaTextUptoRow, standIns := [], harness := (true, "da118b1ec6639fda0c88c9c753ef35282501c302345b64bb72c04ba4e2c2625d"), looks := false }, kinds := [], alts := [], laidByText := true, laidKinds := [.data, .data, .data], laidTests := true, laidLooks := .later }
def FnExactFormulaTextUptoCardSaid : Prop := Claim7.holds Tryd.pinned (.plain (OpenSpec.upto fnExactFormulaTextSpec)) fnExactFormulaTextUptoCard
end Rows
end Go.Proofs.YtncianokahfkpaaDoor
