/-
  DERIVED. GIVEN WITH THE SEED: THE CARDS: each row of YtgchidlombijbaaDoorRows.lean that lists a variable, with what it lists TIED to the program's text (the seventh form; the later family's looks); each row that meets fmt, with fmt's text TOLD by the authors' own Lean function (tested against real Go, not proved from fmt's source: count such statements apart). THE CARD IS WHAT COUNTS. Prove the row's statement (the work); the ties are given (YtgchidlombijbaaDoorTie.lean); close each card by the builder's one call (the guide's Derived/Test/ToyasCard.lean, 'card_holds'). Laid BY PROGRAM, IN A SANDBOX (cutbox-door.mjs). By AI agents, Wed Nov 11 2026. No macro, syntax, notation, axiom, sorry.
-/
import Derived.Test.YtgchidlombijbaaDoorRows
import GoSem.ClaimSeven
namespace Go.Proofs.YtgchidlombijbaaDoor
namespace Rows

/-- THE TIED CARD OF 'arboristlaw15.GrammarRight'. -/
def grammarRightCard : Claim7 := { stood := { row := grammarRightRow, standIns := [], harness := (true, "d037e9e997175c81b12203cd1722279b208e9716b3359586d834d934b320b78c"), looks := false }, kinds := [], alts := [], laidByText := true, laidKinds := [.data, .data, .data], laidTests := true, laidLooks := .later }
def GrammarRightCardSaid : Prop := Claim7.holds Tryd.pinned (.plain (OpenSpec.ofChange grammarRightSpec)) grammarRightCard

/-- THE TIED CARD OF 'arboristlaw15.GrammarNames'. -/
def grammarNamesCard : Claim7 := { stood := { row := grammarNamesRow, standIns := [], harness := (true, "d037e9e997175c81b12203cd1722279b208e9716b3359586d834d934b320b78c"), looks := false }, kinds := [], alts := [], laidByText := true, laidKinds := [.data, .data, .data], laidTests := true, laidLooks := .later }
def GrammarNamesCardSaid : Prop := Claim7.holds Tryd.pinned (.plain (OpenSpec.ofChange grammarNamesSpec)) grammarNamesCard

/-- THE TIED CARD OF 'arboristlaw15.GrammarRules'. -/
def grammarRulesCard : Claim7 := { stood := { row := grammarRulesRow, standIns := [], harness := (true, "d037e9e997175c81b12203cd1722279b208e9716b3359586d834d934b320b78c"), looks := false }, kinds := [], alts := [], laidByText := true, laidKinds := [.data, .data, .data], laidTests := true, laidLooks := .later }
def GrammarRulesCardSaid : Prop := Claim7.holds Tryd.pinned (.plain (OpenSpec.ofChange grammarRulesSpec)) grammarRulesCard

/-- THE TIED CARD OF 'arboristlaw15.GrammarParts'. -/
def grammarPartsCard : Claim7 := { stood := { row := grammarPartsRow, standIns := [], harness := (true, "d037e9e997175c81b12203cd1722279b208e9716b3359586d834d934b320b78c"), looks := false }, kinds := [], alts := [], laidByText := true, laidKinds := [.data, .data, .data], laidTests := true, laidLooks := .later }
def GrammarPartsCardSaid : Prop := Claim7.holds Tryd.pinned (.plain (OpenSpec.ofChange grammarPartsSpec)) grammarPartsCard

/-- THE SECOND FORM's CARD OF 'arboristlaw15.GrammarRight'. -/
def grammarRightUptoCard : Claim7 := { stood := { row := grammarRightUptoRow, standIns := [], harness := (true, "d037e9e997175c81b12203cd1722279b208e9716b3359586d834d934b320b78c"), looks := false }, kinds := [], alts := [], laidByText := true, laidKinds := [.data, .data, .data], laidTests := true, laidLooks := .later }
def GrammarRightUptoCardSaid : Prop := Claim7.holds Tryd.pinned (.plain (OpenSpec.upto grammarRightSpec)) grammarRightUptoCard

/-- THE SECOND FORM's CARD OF 'arboristlaw15.GrammarNames'. -/
def grammarNamesUptoCard : Claim7 := { stood := { row := grammarNamesUptoRow, standIns := [], harness := (true, "d037e9e997175c81b12203cd1722279b208e9716b3359586d834d934b320b78c"), looks := false }, kinds := [], alts := [], laidByText := true, laidKinds := [.data, .data, .data], laidTests := true, laidLooks := .later }
def GrammarNamesUptoCardSaid : Prop := Claim7.holds Tryd.pinned (.plain (OpenSpec.upto grammarNamesSpec)) grammarNamesUptoCard

/-- THE SECOND FORM's CARD OF 'arboristlaw15.GrammarRules'. -/
def grammarRulesUptoCard : Claim7 := { stood := { row := grammarRulesUptoRow, standIns := [], harness := (true, "d037e9e997175c81b12203cd1722279b208e9716b3359586d834d934b320b78c"), looks := false }, kinds := [], alts := [], laidByText := true, laidKinds := [.data, .data, .data], laidTests := true, laidLooks := .later }
def GrammarRulesUptoCardSaid : Prop := Claim7.holds Tryd.pinned (.plain (OpenSpec.upto grammarRulesSpec)) grammarRulesUptoCard

/-- THE SECOND FORM's CARD OF 'arboristlaw15.GrammarParts'. -/
def grammarPartsUptoCard : Claim7 := { stood := { row := grammarPartsUptoRow, standIns := [], harness := (true, "d037e9e997175c81b12203cd1722279b208e9716b3359586d834d934b320b78c"), looks := false }, kinds := [], alts := [], laidByText := true, laidKinds := [.data, .data, .data], laidTests := true, laidLooks := .later }
def GrammarPartsUptoCardSaid : Prop := Claim7.holds Tryd.pinned (.plain (OpenSpec.upto grammarPartsSpec)) grammarPartsUptoCard
end Rows
end Go.Proofs.YtgchidlombijbaaDoor
