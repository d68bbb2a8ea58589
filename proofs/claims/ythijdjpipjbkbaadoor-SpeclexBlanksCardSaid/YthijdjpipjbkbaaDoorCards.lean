/-
  DERIVED. GIVEN WITH THE SEED: THE CARDS: each row of YthijdjpipjbkbaaDoorRows.lean that lists a variable, with what it lists TIED to the program's text (the seventh form; the later family's looks); each row that meets fmt, with fmt's text TOLD by the authors' own Lean function (tested against real Go, not proved from fmt's source: count such statements apart). THE CARD IS WHAT COUNTS. Prove the row's statement (the work); the ties are given (YthijdjpipjbkbaaDoorTie.lean); close each card by the builder's one call (the guide's Derived/Test/ToyasCard.lean, 'card_holds'). Laid BY PROGRAM, IN A SANDBOX (cutbox-door.mjs). By AI agents, Wed Nov 11 2026. No macro, syntax, notation, axiom, sorry.
-/
import Derived.Test.YthijdjpipjbkbaaDoorRows
import GoSem.ClaimSeven
namespace Go.Proofs.YthijdjpipjbkbaaDoor
namespace Rows

/-- THE TIED CARD OF 'arboristlaw11.SpeclexScans'. -/
def speclexScansCard : Claim7 := { stood := { row := speclexScansRow, standIns := [], harness := (true, "b9848e23086db2b19e13492054286a997c9905366071f1e75882b886d57ef9ba"), looks := false }, kinds := [], alts := [], laidByText := true, laidKinds := [.data, .data, .data, .data, .data, .pinned], laidTests := true, laidLooks := .later }
def SpeclexScansCardSaid : Prop := Claim7.holds Tryd.pinned (.plain (OpenSpec.ofChange speclexScansSpec)) speclexScansCard

/-- THE TIED CARD OF 'arboristlaw11.SpeclexShows'. -/
def speclexShowsCard : Claim7 := { stood := { row := speclexShowsRow, standIns := [], harness := (true, "b9848e23086db2b19e13492054286a997c9905366071f1e75882b886d57ef9ba"), looks := false }, kinds := [], alts := [], laidByText := true, laidKinds := [.data, .data, .data, .data, .data, .pinned], laidTests := true, laidLooks := .later }
def SpeclexShowsCardSaid : Prop := Claim7.holds Tryd.pinned (.plain (OpenSpec.ofChange speclexShowsSpec)) speclexShowsCard

/-- THE TIED CARD OF 'arboristlaw11.SpeclexBack'. -/
def speclexBackCard : Claim7 := { stood := { row := speclexBackRow, standIns := [], harness := (true, "b9848e23086db2b19e13492054286a997c9905366071f1e75882b886d57ef9ba"), looks := false }, kinds := [], alts := [], laidByText := true, laidKinds := [.data, .data, .data, .data, .data, .pinned], laidTests := true, laidLooks := .later }
def SpeclexBackCardSaid : Prop := Claim7.holds Tryd.pinned (.plain (OpenSpec.ofChange speclexBackSpec)) speclexBackCard

/-- THE TIED CARD OF 'arboristlaw11.SpeclexPlaces'. -/
def speclexPlacesCard : Claim7 := { stood := { row := speclexPlacesRow, standIns := [], harness := (true, "b9848e23086db2b19e13492054286a997c9905366071f1e75882b886d57ef9ba"), looks := false }, kinds := [], alts := [], laidByText := true, laidKinds := [.data, .data, .data, .data, .data, .pinned], laidTests := true, laidLooks := .later }
def SpeclexPlacesCardSaid : Prop := Claim7.holds Tryd.pinned (.plain (OpenSpec.ofChange speclexPlacesSpec)) speclexPlacesCard

/-- THE TIED CARD OF 'arboristlaw11.SpeclexBlanks'. -/
def speclexBlanksCard : Claim7 := { stood := { row := speclexBlanksRow, standIns := [], harness := (true, "b9848e23086db2b19e13492054286a997c9905366071f1e75882b886d57ef9ba"), looks := false }, kinds := [], alts := [], laidByText := true, laidKinds := [.data, .data, .data, .data, .data, .pinned], laidTests := true, laidLooks := .later }
def SpeclexBlanksCardSaid : Prop := Claim7.holds Tryd.pinned (.plain (OpenSpec.ofChange speclexBlanksSpec)) speclexBlanksCard

/-- THE SECOND FORM's CARD OF 'arboristlaw11.SpeclexScans'. -/
def speclexScansUptoCard : Claim7 := { stood := { row := speclexScansUptoRow, standIns := [], harness := (true, "b9848e23086db2b19e13492054286a997c9905366071f1e75882b886d57ef9ba"), looks := false }, kinds := [], alts := [], laidByText := true, laidKinds := [.data, .data, .data, .data, .data, .pinned], laidTests := true, laidLooks := .later }
def SpeclexScansUptoCardSaid : Prop := Claim7.holds Tryd.pinned (.plain (OpenSpec.upto speclexScansSpec)) speclexScansUptoCard

/-- THE SECOND FORM's CARD OF 'arboristlaw11.SpeclexShows'. -/
def speclexShowsUptoCard : Claim7 := { stood := { row := speclexShowsUptoRow, standIns := [], harness := (true, "b9848e23086db2b19e13492054286a997c9905366071f1e75882b886d57ef9ba"), looks := false }, kinds := [], alts := [], laidByText := true, laidKinds := [.data, .data, .data, .data, .data, .pinned], laidTests := true, laidLooks := .later }
def SpeclexShowsUptoCardSaid : Prop := Claim7.holds Tryd.pinned (.plain (OpenSpec.upto speclexShowsSpec)) speclexShowsUptoCard

/-- THE SECOND FORM's CARD OF 'arboristlaw11.SpeclexBack'. -/
def speclexBackUptoCard : Claim7 := { stood := { row := speclexBackUptoRow, standIns := [], harness := (true, "b9848e23086db2b19e13492054286a997c9905366071f1e75882b886d57ef9ba"), looks := false }, kinds := [], alts := [], laidByText := true, laidKinds := [.data, .data, .data, .data, .data, .pinned], laidTests := true, laidLooks := .later }
def SpeclexBackUptoCardSaid : Prop := Claim7.holds Tryd.pinned (.plain (OpenSpec.upto speclexBackSpec)) speclexBackUptoCard

/-- THE SECOND FORM's CARD OF 'arboristlaw11.SpeclexPlaces'. -/
def speclexPlacesUptoCard : Claim7 := { stood := { row := speclexPlacesUptoRow, standIns := [], harness := (true, "b9848e23086db2b19e13492054286a997c9905366071f1e75882b886d57ef9ba"), looks := false }, kinds := [], alts := [], laidByText := true, laidKinds := [.data, .data, .data, .data, .data, .pinned], laidTests := true, laidLooks := .later }
def SpeclexPlacesUptoCardSaid : Prop := Claim7.holds Tryd.pinned (.plain (OpenSpec.upto speclexPlacesSpec)) speclexPlacesUptoCard

/-- THE SECOND FORM's CARD OF 'arboristlaw11.SpeclexBlanks'. -/
def speclexBlanksUptoCard : Claim7 := { stood := { row := speclexBlanksUptoRow, standIns := [], harness := (true, "b9848e23086db2b19e13492054286a997c9905366071f1e75882b886d57ef9ba"), looks := false }, kinds := [], alts := [], laidByText := true, laidKinds := [.data, .data, .data, .data, .data, .pinned], laidTests := true, laidLooks := .later }
def SpeclexBlanksUptoCardSaid : Prop := Claim7.holds Tryd.pinned (.plain (OpenSpec.upto speclexBlanksSpec)) speclexBlanksUptoCard
end Rows
end Go.Proofs.YthijdjpipjbkbaaDoor
