/-
  DERIVED. GIVEN WITH THE SEED: THE CARDS: each row of YtphmgaijkdflnaaDoorRows.lean that lists a variable, with what it lists TIED to the program's text (the seventh form; the later family's looks); each row that meets fmt, with fmt's text TOLD by the authors' own Lean function (tested against real Go, not proved from fmt's source: count such statements apart). THE CARD IS WHAT COUNTS. Prove the row's statement (the work); the ties are given (YtphmgaijkdflnaaDoorTie.lean); close each card by the builder's one call (the guide's Derived/Test/ToyasCard.lean, 'card_holds'). Laid BY PROGRAM, IN A SANDBOX (cutbox-door.mjs). By AI agents, Wed Nov 11 2026. No macro, syntax, notation, axiom, sorry.
-/
import Derived.Test.YtphmgaijkdflnaaDoorRows
import GoSem.ClaimSeven
namespace Go.Proofs.YtphmgaijkdflnaaDoor
namespace Rows

/-- THE TIED CARD OF 'arboristlaw42.CstTells'. -/
def cstTellsCard : Claim7 := { stood := { row := cstTellsRow, standIns := [], harness := (true, "d5cdaa30bb89ef6c8005c66b0274befb33d87d1f4327f431305be44b4451cda0"), looks := false }, kinds := [], alts := [], laidByText := true, laidKinds := [.data, .data, .data, .data, .pinned], laidTests := true, laidLooks := .later }
def CstTellsCardSaid : Prop := Claim7.holds Tryd.pinned (.plain (OpenSpec.ofChange cstTellsSpec)) cstTellsCard

/-- THE TIED CARD OF 'arboristlaw42.CstSame'. -/
def cstSameCard : Claim7 := { stood := { row := cstSameRow, standIns := [], harness := (true, "d5cdaa30bb89ef6c8005c66b0274befb33d87d1f4327f431305be44b4451cda0"), looks := false }, kinds := [], alts := [], laidByText := true, laidKinds := [.data, .data, .data, .data, .pinned], laidTests := true, laidLooks := .later }
def CstSameCardSaid : Prop := Claim7.holds Tryd.pinned (.plain (OpenSpec.ofChange cstSameSpec)) cstSameCard

/-- THE TIED CARD OF 'arboristlaw42.CstRight'. -/
def cstRightCard : Claim7 := { stood := { row := cstRightRow, standIns := [], harness := (true, "d5cdaa30bb89ef6c8005c66b0274befb33d87d1f4327f431305be44b4451cda0"), looks := false }, kinds := [], alts := [], laidByText := true, laidKinds := [.data, .data, .data, .data, .pinned], laidTests := true, laidLooks := .later }
def CstRightCardSaid : Prop := Claim7.holds Tryd.pinned (.plain (OpenSpec.ofChange cstRightSpec)) cstRightCard

/-- THE TIED CARD OF 'arboristlaw42.CstBytes'. -/
def cstBytesCard : Claim7 := { stood := { row := cstBytesRow, standIns := [], harness := (true, "d5cdaa30bb89ef6c8005c66b0274befb33d87d1f4327f431305be44b4451cda0"), looks := false }, kinds := [], alts := [], laidByText := true, laidKinds := [.data, .data, .data, .data, .pinned], laidTests := true, laidLooks := .later }
def CstBytesCardSaid : Prop := Claim7.holds Tryd.pinned (.plain (OpenSpec.ofChange cstBytesSpec)) cstBytesCard

/-- THE TIED CARD OF 'arboristlaw42.CstWithin'. -/
def cstWithinCard : Claim7 := { stood := { row := cstWithinRow, standIns := [], harness := (true, "d5cdaa30bb89ef6c8005c66b0274befb33d87d1f4327f431305be44b4451cda0"), looks := false }, kinds := [], alts := [], laidByText := true, laidKinds := [.data, .data, .data, .data, .pinned], laidTests := true, laidLooks := .later }
def CstWithinCardSaid : Prop := Claim7.holds Tryd.pinned (.plain (OpenSpec.ofChange cstWithinSpec)) cstWithinCard

/-- THE SECOND FORM's CARD OF 'arboristlaw42.CstTells'. -/
def cstTellsUptoCard : Claim7 := { stood := { row := cstTellsUptoRow, standIns := [], harness := (true, "d5cdaa30bb89ef6c8005c66b0274befb33d87d1f4327f431305be44b4451cda0"), looks := false }, kinds := [], alts := [], laidByText := true, laidKinds := [.data, .data, .data, .data, .pinned], laidTests := true, laidLooks := .later }
def CstTellsUptoCardSaid : Prop := Claim7.holds Tryd.pinned (.plain (OpenSpec.upto cstTellsSpec)) cstTellsUptoCard

/-- THE SECOND FORM's CARD OF 'arboristlaw42.CstSame'. -/
def cstSameUptoCard : Claim7 := { stood := { row := cstSameUptoRow, standIns := [], harness := (true, "d5cdaa30bb89ef6c8005c66b0274befb33d87d1f4327f431305be44b4451cda0"), looks := false }, kinds := [], alts := [], laidByText := true, laidKinds := [.data, .data, .data, .data, .pinned], laidTests := true, laidLooks := .later }
def CstSameUptoCardSaid : Prop := Claim7.holds Tryd.pinned (.plain (OpenSpec.upto cstSameSpec)) cstSameUptoCard

/-- THE SECOND FORM's CARD OF 'arboristlaw42.CstRight'. -/
def cstRightUptoCard : Claim7 := { stood := { row := cstRightUptoRow, standIns := [], harness := (true, "d5cdaa30bb89ef6c8005c66b0274befb33d87d1f4327f431305be44b4451cda0"), looks := false }, kinds := [], alts := [], laidByText := true, laidKinds := [.data, .data, .data, .data, .pinned], laidTests := true, laidLooks := .later }
def CstRightUptoCardSaid : Prop := Claim7.holds Tryd.pinned (.plain (OpenSpec.upto cstRightSpec)) cstRightUptoCard

/-- THE SECOND FORM's CARD OF 'arboristlaw42.CstBytes'. -/
def cstBytesUptoCard : Claim7 := { stood := { row := cstBytesUptoRow, standIns := [], harness := (true, "d5cdaa30bb89ef6c8005c66b0274befb33d87d1f4327f431305be44b4451cda0"), looks := false }, kinds := [], alts := [], laidByText := true, laidKinds := [.data, .data, .data, .data, .pinned], laidTests := true, laidLooks := .later }
def CstBytesUptoCardSaid : Prop := Claim7.holds Tryd.pinned (.plain (OpenSpec.upto cstBytesSpec)) cstBytesUptoCard

/-- THE SECOND FORM's CARD OF 'arboristlaw42.CstWithin'. -/
def cstWithinUptoCard : Claim7 := { stood := { row := cstWithinUptoRow, standIns := [], harness := (true, "d5cdaa30bb89ef6c8005c66b0274befb33d87d1f4327f431305be44b4451cda0"), looks := false }, kinds := [], alts := [], laidByText := true, laidKinds := [.data, .data, .data, .data, .pinned], laidTests := true, laidLooks := .later }
def CstWithinUptoCardSaid : Prop := Claim7.holds Tryd.pinned (.plain (OpenSpec.upto cstWithinSpec)) cstWithinUptoCard
end Rows
end Go.Proofs.YtphmgaijkdflnaaDoor
