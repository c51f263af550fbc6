/-
  DERIVED. GIVEN WITH THE SEED: THE CARDS: each row of YtcgnnfaemjjljaaDoorRows.lean that lists a variable, with what it lists TIED to the program's text (the seventh form; the later family's looks); each row that meets fmt, with fmt's text TOLD by the authors' own Lean function (tested against real Go, not proved from fmt's source: count such statements apart). THE CARD IS WHAT COUNTS. Prove the row's statement (the work); the ties are given (YtcgnnfaemjjljaaDoorTie.lean); close each card by the builder's one call (the guide's Derived/Test/ToyasCard.lean, 'card_holds'). Laid BY PROGRAM, IN A SANDBOX (cutbox-door.mjs). By AI agents, Wed Nov 11 2026. No macro, syntax, notation, axiom, sorry.
-/
import Derived.Test.YtcgnnfaemjjljaaDoorRows
import GoSem.ClaimSeven
namespace Go.Proofs.YtcgnnfaemjjljaaDoor
namespace Rows

/-- THE TIED CARD OF 'laws.FnExactTurnWord'. -/
def fnExactTurnWordCard : Claim7 := { stood := { row := fnExactTurnWordRow, standIns := [], harness := (true, "deb762926f56aab71b282a9da6e8af0844057d8e669f3dff3dc3fcd4f89e21c7"), looks := false }, kinds := [], alts := [], laidByText := true, laidKinds := [.data, .pinned], laidTests := true, laidLooks := .later }
def FnExactTurnWordCardSaid : Prop := Claim7.holds Tryd.pinned (.plain (OpenSpec.ofChange fnExactTurnWordSpec)) fnExactTurnWordCard

/-- THE TIED CARD OF 'laws.FnExactBackWord'. -/
def fnExactBackWordCard : Claim7 := { stood := { row := fnExactBackWordRow, standIns := [], harness := (true, "deb762926f56aab71b282a9da6e8af0844057d8e669f3dff3dc3fcd4f89e21c7"), looks := false }, kinds := [], alts := [], laidByText := true, laidKinds := [.data, .pinned], laidTests := true, laidLooks := .later }
def FnExactBackWordCardSaid : Prop := Claim7.holds Tryd.pinned (.plain (OpenSpec.ofChange fnExactBackWordSpec)) fnExactBackWordCard

/-- THE TIED CARD OF 'laws.FnExactIsClosed'. -/
def fnExactIsClosedCard : Claim7 := { stood := { row := fnExactIsClosedRow, standIns := [], harness := (true, "deb762926f56aab71b282a9da6e8af0844057d8e669f3dff3dc3fcd4f89e21c7"), looks := false }, kinds := [], alts := [], laidByText := true, laidKinds := [.data, .pinned], laidTests := true, laidLooks := .later }
def FnExactIsClosedCardSaid : Prop := Claim7.holds Tryd.pinned (.plain (OpenSpec.ofChange fnExactIsClosedSpec)) fnExactIsClosedCard

/-- THE TIED CARD OF 'laws.FnExactWordArea'. -/
def fnExactWordAreaCard : Claim7 := { stood := { row := fnExactWordAreaRow, standIns := [], harness := (true, "deb762926f56aab71b282a9da6e8af0844057d8e669f3dff3dc3fcd4f89e21c7"), looks := false }, kinds := [], alts := [], laidByText := true, laidKinds := [.data, .pinned], laidTests := true, laidLooks := .later }
def FnExactWordAreaCardSaid : Prop := Claim7.holds Tryd.pinned (.plain (OpenSpec.ofChange fnExactWordAreaSpec)) fnExactWordAreaCard

/-- THE TIED CARD OF 'laws.FnExactIsFactoring'. -/
def fnExactIsFactoringCard : Claim7 := { stood := { row := fnExactIsFactoringRow, standIns := [], harness := (true, "deb762926f56aab71b282a9da6e8af0844057d8e669f3dff3dc3fcd4f89e21c7"), looks := false }, kinds := [], alts := [], laidByText := true, laidKinds := [.data, .pinned], laidTests := true, laidLooks := .later }
def FnExactIsFactoringCardSaid : Prop := Claim7.holds Tryd.pinned (.plain (OpenSpec.ofChange fnExactIsFactoringSpec)) fnExactIsFactoringCard

/-- THE TIED CARD OF 'laws.FnExactFindFactoring'. -/
def fnExactFindFactoringCard : Claim7 := { stood := { row := fnExactFindFactoringRow, standIns := [], harness := (true, "deb762926f56aab71b282a9da6e8af0844057d8e669f3dff3dc3fcd4f89e21c7"), looks := false }, kinds := [], alts := [], laidByText := true, laidKinds := [.data, .pinned], laidTests := true, laidLooks := .later }
def FnExactFindFactoringCardSaid : Prop := Claim7.holds Tryd.pinned (.plain (OpenSpec.ofChange fnExactFindFactoringSpec)) fnExactFindFactoringCard

/-- THE TIED CARD OF 'laws.FnTurnedWords'. -/
def fnTurnedWordsCard : Claim7 := { stood := { row := fnTurnedWordsRow, standIns := [], harness := (true, "deb762926f56aab71b282a9da6e8af0844057d8e669f3dff3dc3fcd4f89e21c7"), looks := false }, kinds := [], alts := [], laidByText := true, laidKinds := [.data, .pinned], laidTests := true, laidLooks := .later }
def FnTurnedWordsCardSaid : Prop := Claim7.holds Tryd.pinned (.plain (OpenSpec.ofChange fnTurnedWordsSpec)) fnTurnedWordsCard

/-- THE TIED CARD OF 'laws.FnFactorings'. -/
def fnFactoringsCard : Claim7 := { stood := { row := fnFactoringsRow, standIns := [], harness := (true, "deb762926f56aab71b282a9da6e8af0844057d8e669f3dff3dc3fcd4f89e21c7"), looks := false }, kinds := [], alts := [], laidByText := true, laidKinds := [.data, .pinned], laidTests := true, laidLooks := .later }
def FnFactoringsCardSaid : Prop := Claim7.holds Tryd.pinned (.plain (OpenSpec.ofChange fnFactoringsSpec)) fnFactoringsCard

/-- THE SECOND FORM's CARD OF 'laws.FnExactTurnWord'. -/
def fnExactTurnWordUptoCard : Claim7 := { stood := { row := fnExactTurnWordUptoRow, standIns := [], harness := (true, "deb762926f56aab71b282a9da6e8af0844057d8e669f3dff3dc3fcd4f89e21c7"), looks := false }, kinds := [], alts := [], laidByText := true, laidKinds := [.data, .pinned], laidTests := true, laidLooks := .later }
def FnExactTurnWordUptoCardSaid : Prop := Claim7.holds Tryd.pinned (.plain (OpenSpec.upto fnExactTurnWordSpec)) fnExactTurnWordUptoCard

/-- THE SECOND FORM's CARD OF 'laws.FnExactBackWord'. -/
def fnExactBackWordUptoCard : Claim7 := { stood := { row := fnExactBackWordUptoRow, standIns := [], harness := (true, "deb762926f56aab71b282a9da6e8af0844057d8e669f3dff3dc3fcd4f89e21c7"), looks := false }, kinds := [], alts := [], laidByText := true, laidKinds := [.data, .pinned], laidTests := true, laidLooks := .later }
def FnExactBackWordUptoCardSaid : Prop := Claim7.holds Tryd.pinned (.plain (OpenSpec.upto fnExactBackWordSpec)) fnExactBackWordUptoCard

/-- THE SECOND FORM's CARD OF 'laws.FnExactIsClosed'. -/
def fnExactIsClosedUptoCard : Claim7 := { stood := { row := fnExactIsClosedUptoRow, standIns := [], harness := (true, "deb762926f56aab71b282a9da6e8af0844057d8e669f3dff3dc3fcd4f89e21c7"), looks := false }, kinds := [], alts := [], laidByText := true, laidKinds := [.data, .pinned], laidTests := true, laidLooks := .later }
def FnExactIsClosedUptoCardSaid : Prop := Claim7.holds Tryd.pinned (.plain (OpenSpec.upto fnExactIsClosedSpec)) fnExactIsClosedUptoCard

/-- THE SECOND FORM's CARD OF 'laws.FnExactWordArea'. -/
def fnExactWordAreaUptoCard : Claim7 := { stood := { row := fnExactWordAreaUptoRow, standIns := [], harness := (true, "deb762926f56aab71b282a9da6e8af0844057d8e669f3dff3dc3fcd4f89e21c7"), looks := false }, kinds := [], alts := [], laidByText := true, laidKinds := [.data, .pinned], laidTests := true, laidLooks := .later }
def FnExactWordAreaUptoCardSaid : Prop := Claim7.holds Tryd.pinned (.plain (OpenSpec.upto fnExactWordAreaSpec)) fnExactWordAreaUptoCard

/-- THE SECOND FORM's CARD OF 'laws.FnExactIsFactoring'. -/
def fnExactIsFactoringUptoCard : Claim7 := { stood := { row := fnExactIsFactoringUptoRow, standIns := [], harness := (true, "deb762926f56aab71b282a9da6e8af0844057d8e669f3dff3dc3fcd4f89e21c7"), looks := false }, kinds := [], alts := [], laidByText := true, laidKinds := [.data, .pinned], laidTests := true, laidLooks := .later }
def FnExactIsFactoringUptoCardSaid : Prop := Claim7.holds Tryd.pinned (.plain (OpenSpec.upto fnExactIsFactoringSpec)) fnExactIsFactoringUptoCard

/-- THE SECOND FORM's CARD OF 'laws.FnExactFindFactoring'. -/
def fnExactFindFactoringUptoCard : Claim7 := { stood := { row := fnExactFindFactoringUptoRow, standIns := [], harness := (true, "deb762926f56aab71b282a9da6e8af0844057d8e669f3dff3dc3fcd4f89e21c7"), looks := false }, kinds := [], alts := [], laidByText := true, laidKinds := [.data, .pinned], laidTests := true, laidLooks := .later }
def FnExactFindFactoringUptoCardSaid : Prop := Claim7.holds Tryd.pinned (.plain (OpenSpec.upto fnExactFindFactoringSpec)) fnExactFindFactoringUptoCard

/-- THE SECOND FORM's CARD OF 'laws.FnTurnedWords'. -/
def fnTurnedWordsUptoCard : Claim7 := { stood := { row := fnTurnedWordsUptoRow, standIns := [], harness := (true, "deb762926f56aab71b282a9da6e8af0844057d8e669f3dff3dc3fcd4f89e21c7"), looks := false }, kinds := [], alts := [], laidByText := true, laidKinds := [.data, .pinned], laidTests := true, laidLooks := .later }
def FnTurnedWordsUptoCardSaid : Prop := Claim7.holds Tryd.pinned (.plain (OpenSpec.upto fnTurnedWordsSpec)) fnTurnedWordsUptoCard

/-- THE SECOND FORM's CARD OF 'laws.FnFactorings'. -/
def fnFactoringsUptoCard : Claim7 := { stood := { row := fnFactoringsUptoRow, standIns := [], harness := (true, "deb762926f56aab71b282a9da6e8af0844057d8e669f3dff3dc3fcd4f89e21c7"), looks := false }, kinds := [], alts := [], laidByText := true, laidKinds := [.data, .pinned], laidTests := true, laidLooks := .later }
def FnFactoringsUptoCardSaid : Prop := Claim7.holds Tryd.pinned (.plain (OpenSpec.upto fnFactoringsSpec)) fnFactoringsUptoCard
end Rows
end Go.Proofs.YtcgnnfaemjjljaaDoor
