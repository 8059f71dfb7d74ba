/-
  DERIVED. GIVEN WITH THE SEED: THE CARDS: each row of YtmemcfipfeggaaaGreatDoorRows.lean that lists a variable, with what it lists TIED to the program's text (the seventh form; the later family's looks); each row that meets fmt, with fmt's text TOLD by the authors' own Lean function (tested against real Go, not proved from fmt's source: count such statements apart). THE CARD IS WHAT COUNTS. Prove the row's statement (the work); the ties are given (YtmemcfipfeggaaaGreatDoorTie.lean); close each card by the builder's one call (the guide's Derived/Test/ToyasCard.lean, 'card_holds'). Laid BY PROGRAM, IN A SANDBOX (cutbox-door.mjs). By AI agents, Wed Nov 11 2026. No macro, syntax, notation, axiom, sorry.
-/
import Derived.Test.YtmemcfipfeggaaaGreatDoorRows
import GoSem.ClaimSeven
namespace Go.Proofs.YtmemcfipfeggaaaGreatDoor
namespace Rows

/-- THE TIED CARD OF 'almonrylaw24.AmoRuns'. -/
def amoRunsCard : Claim7 := { stood := { row := amoRunsRow, standIns := [], harness := (true, "ba4ee1eb09c5660f553bd3f840d2b4e3c404a5f1b732f223a61b8a18d5474624"), looks := false }, kinds := [], alts := [], laidByText := true, laidKinds := [.data, .data, .data], laidTests := true, laidLooks := .later }
def AmoRunsCardSaid : Prop := Claim7.holds Tryz.pinned (.plain (OpenSpec.ofChange amoRunsSpec)) amoRunsCard

/-- THE TIED CARD OF 'almonrylaw22.BusApart'. -/
def busApartCard : Claim7 := { stood := { row := busApartRow, standIns := [], harness := (true, "ba4ee1eb09c5660f553bd3f840d2b4e3c404a5f1b732f223a61b8a18d5474624"), looks := false }, kinds := [], alts := [], laidByText := true, laidKinds := [.data, .data, .data], laidTests := true, laidLooks := .later }
def BusApartCardSaid : Prop := Claim7.holds Tryz.pinned (.plain (OpenSpec.ofChange busApartSpec)) busApartCard

/-- THE TIED CARD OF 'almonrylaw22.BusKnown'. -/
def busKnownCard : Claim7 := { stood := { row := busKnownRow, standIns := [], harness := (true, "ba4ee1eb09c5660f553bd3f840d2b4e3c404a5f1b732f223a61b8a18d5474624"), looks := false }, kinds := [], alts := [], laidByText := true, laidKinds := [.data, .data, .data], laidTests := true, laidLooks := .later }
def BusKnownCardSaid : Prop := Claim7.holds Tryz.pinned (.plain (OpenSpec.ofChange busKnownSpec)) busKnownCard

/-- THE TIED CARD OF 'almonrylaw22.BusWatches'. -/
def busWatchesCard : Claim7 := { stood := { row := busWatchesRow, standIns := [], harness := (true, "ba4ee1eb09c5660f553bd3f840d2b4e3c404a5f1b732f223a61b8a18d5474624"), looks := false }, kinds := [], alts := [], laidByText := true, laidKinds := [.data, .data, .data], laidTests := true, laidLooks := .later }
def BusWatchesCardSaid : Prop := Claim7.holds Tryz.pinned (.plain (OpenSpec.ofChange busWatchesSpec)) busWatchesCard

/-- THE SECOND FORM's CARD OF 'almonrylaw24.AmoRuns'. -/
def amoRunsUptoCard : Claim7 := { stood := { row := amoRunsUptoRow, standIns := [], harness := (true, "ba4ee1eb09c5660f553bd3f840d2b4e3c404a5f1b732f223a61b8a18d5474624"), looks := false }, kinds := [], alts := [], laidByText := true, laidKinds := [.data, .data, .data], laidTests := true, laidLooks := .later }
def AmoRunsUptoCardSaid : Prop := Claim7.holds Tryz.pinned (.plain (OpenSpec.upto amoRunsSpec)) amoRunsUptoCard

/-- THE SECOND FORM's CARD OF 'almonrylaw22.BusApart'. -/
def busApartUptoCard : Claim7 := { stood := { row := busApartUptoRow, standIns := [], harness := (true, "ba4ee1eb09c5660f553bd3f840d2b4e3c404a5f1b732f223a61b8a18d5474624"), looks := false }, kinds := [], alts := [], laidByText := true, laidKinds := [.data, .data, .data], laidTests := true, laidLooks := .later }
def BusApartUptoCardSaid : Prop := Claim7.holds Tryz.pinned (.plain (OpenSpec.upto busApartSpec)) busApartUptoCard

/-- THE SECOND FORM's CARD OF 'almonrylaw22.BusKnown'. -/
def busKnownUptoCard : Claim7 := { stood := { row := busKnownUptoRow, standIns := [], harness := (true, "ba4ee1eb09c5660f553bd3f840d2b4e3c404a5f1b732f223a61b8a18d5474624"), looks := false }, kinds := [], alts := [], laidByText := true, laidKinds := [.data, .data, .data], laidTests := true, laidLooks := .later }
def BusKnownUptoCardSaid : Prop := Claim7.holds Tryz.pinned (.plain (OpenSpec.upto busKnownSpec)) busKnownUptoCard

/-- THE SECOND FORM's CARD OF 'almonrylaw22.BusWatches'. -/
def busWatchesUptoCard : Claim7 := { stood := { row := busWatchesUptoRow, standIns := [], harness := (true, "ba4ee1eb09c5660f553bd3f840d2b4e3c404a5f1b732f223a61b8a18d5474624"), looks := false }, kinds := [], alts := [], laidByText := true, laidKinds := [.data, .data, .data], laidTests := true, laidLooks := .later }
def BusWatchesUptoCardSaid : Prop := Claim7.holds Tryz.pinned (.plain (OpenSpec.upto busWatchesSpec)) busWatchesUptoCard
end Rows
end Go.Proofs.YtmemcfipfeggaaaGreatDoor
