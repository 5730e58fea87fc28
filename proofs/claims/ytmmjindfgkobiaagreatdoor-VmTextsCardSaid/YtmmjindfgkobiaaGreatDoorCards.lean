/-
  DERIVED. GIVEN WITH THE SEED: THE CARDS: each row of YtmmjindfgkobiaaGreatDoorRows.lean that lists a variable, with what it lists TIED to the program's text (the seventh form; the later family's looks); each row that meets fmt, with fmt's text TOLD by the authors' own Lean function (tested against real Go, not proved from fmt's source: count such statements apart). THE CARD IS WHAT COUNTS. Prove the row's statement (the work); the ties are given (YtmmjindfgkobiaaGreatDoorTie.lean); close each card by the builder's one call (the guide's Derived/Test/ToyasCard.lean, 'card_holds'). Laid BY PROGRAM, IN A SANDBOX (cutbox-door.mjs). By AI agents, Wed Nov 11 2026. No macro, syntax, notation, axiom, sorry.
-/
import Derived.Test.YtmmjindfgkobiaaGreatDoorRows
import GoSem.ClaimSeven
namespace Go.Proofs.YtmmjindfgkobiaaGreatDoor
namespace Rows

/-- THE TIED CARD OF 'windlasslaw12.VmMore'. -/
def vmMoreCard : Claim7 := { stood := { row := vmMoreRow, standIns := [], harness := (true, "c25128d2897d085976396c9739f6bc1b9cdc792d71cd7cf8f9557a9a2283725a"), looks := false }, kinds := [], alts := [], laidByText := true, laidKinds := [.data, .data, .data], laidTests := true, laidLooks := .later }
def VmMoreCardSaid : Prop := Claim7.holds Tryz.pinned (.plain (OpenSpec.ofChange vmMoreSpec)) vmMoreCard

/-- THE TIED CARD OF 'windlasslaw12.VmReckons'. -/
def vmReckonsCard : Claim7 := { stood := { row := vmReckonsRow, standIns := [], harness := (true, "c25128d2897d085976396c9739f6bc1b9cdc792d71cd7cf8f9557a9a2283725a"), looks := false }, kinds := [], alts := [], laidByText := true, laidKinds := [.data, .data, .data], laidTests := true, laidLooks := .later }
def VmReckonsCardSaid : Prop := Claim7.holds Tryz.pinned (.plain (OpenSpec.ofChange vmReckonsSpec)) vmReckonsCard

/-- THE TIED CARD OF 'windlasslaw12.VmCharges'. -/
def vmChargesCard : Claim7 := { stood := { row := vmChargesRow, standIns := [], harness := (true, "c25128d2897d085976396c9739f6bc1b9cdc792d71cd7cf8f9557a9a2283725a"), looks := false }, kinds := [], alts := [], laidByText := true, laidKinds := [.data, .data, .data], laidTests := true, laidLooks := .later }
def VmChargesCardSaid : Prop := Claim7.holds Tryz.pinned (.plain (OpenSpec.ofChange vmChargesSpec)) vmChargesCard

/-- THE TIED CARD OF 'windlasslaw12.VmCounts'. -/
def vmCountsCard : Claim7 := { stood := { row := vmCountsRow, standIns := [], harness := (true, "c25128d2897d085976396c9739f6bc1b9cdc792d71cd7cf8f9557a9a2283725a"), looks := false }, kinds := [], alts := [], laidByText := true, laidKinds := [.data, .data, .data], laidTests := true, laidLooks := .later }
def VmCountsCardSaid : Prop := Claim7.holds Tryz.pinned (.plain (OpenSpec.ofChange vmCountsSpec)) vmCountsCard

/-- THE TIED CARD OF 'windlasslaw12.VmDelays'. -/
def vmDelaysCard : Claim7 := { stood := { row := vmDelaysRow, standIns := [], harness := (true, "c25128d2897d085976396c9739f6bc1b9cdc792d71cd7cf8f9557a9a2283725a"), looks := false }, kinds := [], alts := [], laidByText := true, laidKinds := [.data, .data, .data], laidTests := true, laidLooks := .later }
def VmDelaysCardSaid : Prop := Claim7.holds Tryz.pinned (.plain (OpenSpec.ofChange vmDelaysSpec)) vmDelaysCard

/-- THE TIED CARD OF 'windlasslaw12.VmTexts'. -/
def vmTextsCard : Claim7 := { stood := { row := vmTextsRow, standIns := [], harness := (true, "c25128d2897d085976396c9739f6bc1b9cdc792d71cd7cf8f9557a9a2283725a"), looks := false }, kinds := [], alts := [], laidByText := true, laidKinds := [.data, .data, .data], laidTests := true, laidLooks := .later }
def VmTextsCardSaid : Prop := Claim7.holds Tryz.pinned (.plain (OpenSpec.ofChange vmTextsSpec)) vmTextsCard

/-- THE TIED CARD OF 'windlasslaw12.VmWalks'. -/
def vmWalksCard : Claim7 := { stood := { row := vmWalksRow, standIns := [], harness := (true, "c25128d2897d085976396c9739f6bc1b9cdc792d71cd7cf8f9557a9a2283725a"), looks := false }, kinds := [], alts := [], laidByText := true, laidKinds := [.data, .data, .data], laidTests := true, laidLooks := .later }
def VmWalksCardSaid : Prop := Claim7.holds Tryz.pinned (.plain (OpenSpec.ofChange vmWalksSpec)) vmWalksCard

/-- THE TIED CARD OF 'windlasslaw12.VmFull'. -/
def vmFullCard : Claim7 := { stood := { row := vmFullRow, standIns := [], harness := (true, "c25128d2897d085976396c9739f6bc1b9cdc792d71cd7cf8f9557a9a2283725a"), looks := false }, kinds := [], alts := [], laidByText := true, laidKinds := [.data, .data, .data], laidTests := true, laidLooks := .later }
def VmFullCardSaid : Prop := Claim7.holds Tryz.pinned (.plain (OpenSpec.ofChange vmFullSpec)) vmFullCard

/-- THE SECOND FORM's CARD OF 'windlasslaw12.VmMore'. -/
def vmMoreUptoCard : Claim7 := { stood := { row := vmMoreUptoRow, standIns := [], harness := (true, "c25128d2897d085976396c9739f6bc1b9cdc792d71cd7cf8f9557a9a2283725a"), looks := false }, kinds := [], alts := [], laidByText := true, laidKinds := [.data, .data, .data], laidTests := true, laidLooks := .later }
def VmMoreUptoCardSaid : Prop := Claim7.holds Tryz.pinned (.plain (OpenSpec.upto vmMoreSpec)) vmMoreUptoCard

/-- THE SECOND FORM's CARD OF 'windlasslaw12.VmReckons'. -/
def vmReckonsUptoCard : Claim7 := { stood := { row := vmReckonsUptoRow, standIns := [], harness := (true, "c25128d2897d085976396c9739f6bc1b9cdc792d71cd7cf8f9557a9a2283725a"), looks := false }, kinds := [], alts := [], laidByText := true, laidKinds := [.data, .data, .data], laidTests := true, laidLooks := .later }
def VmReckonsUptoCardSaid : Prop := Claim7.holds Tryz.pinned (.plain (OpenSpec.upto vmReckonsSpec)) vmReckonsUptoCard

/-- THE SECOND FORM's CARD OF 'windlasslaw12.VmCharges'. -/
def vmChargesUptoCard : Claim7 := { stood := { row := vmChargesUptoRow, standIns := [], harness := (true, "c25128d2897d085976396c9739f6bc1b9cdc792d71cd7cf8f9557a9a2283725a"), looks := false }, kinds := [], alts := [], laidByText := true, laidKinds := [.data, .data, .data], laidTests := true, laidLooks := .later }
def VmChargesUptoCardSaid : Prop := Claim7.holds Tryz.pinned (.plain (OpenSpec.upto vmChargesSpec)) vmChargesUptoCard

/-- THE SECOND FORM's CARD OF 'windlasslaw12.VmCounts'. -/
def vmCountsUptoCard : Claim7 := { stood := { row := vmCountsUptoRow, standIns := [], harness := (true, "c25128d2897d085976396c9739f6bc1b9cdc792d71cd7cf8f9557a9a2283725a"), looks := false }, kinds := [], alts := [], laidByText := true, laidKinds := [.data, .data, .data], laidTests := true, laidLooks := .later }
def VmCountsUptoCardSaid : Prop := Claim7.holds Tryz.pinned (.plain (OpenSpec.upto vmCountsSpec)) vmCountsUptoCard

/-- THE SECOND FORM's CARD OF 'windlasslaw12.VmDelays'. -/
def vmDelaysUptoCard : Claim7 := { stood := { row := vmDelaysUptoRow, standIns := [], harness := (true, "c25128d2897d085976396c9739f6bc1b9cdc792d71cd7cf8f9557a9a2283725a"), looks := false }, kinds := [], alts := [], laidByText := true, laidKinds := [.data, .data, .data], laidTests := true, laidLooks := .later }
def VmDelaysUptoCardSaid : Prop := Claim7.holds Tryz.pinned (.plain (OpenSpec.upto vmDelaysSpec)) vmDelaysUptoCard

/-- THE SECOND FORM's CARD OF 'windlasslaw12.VmTexts'. -/
def vmTextsUptoCard : Claim7 := { stood := { row := vmTextsUptoRow, standIns := [], harness := (true, "c25128d2897d085976396c9739f6bc1b9cdc792d71cd7cf8f9557a9a2283725a"), looks := false }, kinds := [], alts := [], laidByText := true, laidKinds := [.data, .data, .data], laidTests := true, laidLooks := .later }
def VmTextsUptoCardSaid : Prop := Claim7.holds Tryz.pinned (.plain (OpenSpec.upto vmTextsSpec)) vmTextsUptoCard

/-- THE SECOND FORM's CARD OF 'windlasslaw12.VmWalks'. -/
def vmWalksUptoCard : Claim7 := { stood := { row := vmWalksUptoRow, standIns := [], harness := (true, "c25128d2897d085976396c9739f6bc1b9cdc792d71cd7cf8f9557a9a2283725a"), looks := false }, kinds := [], alts := [], laidByText := true, laidKinds := [.data, .data, .data], laidTests := true, laidLooks := .later }
def VmWalksUptoCardSaid : Prop := Claim7.holds Tryz.pinned (.plain (OpenSpec.upto vmWalksSpec)) vmWalksUptoCard

/-- THE SECOND FORM's CARD OF 'windlasslaw12.VmFull'. -/
def vmFullUptoCard : Claim7 := { stood := { row := vmFullUptoRow, standIns := [], harness := (true, "c25128d2897d085976396c9739f6bc1b9cdc792d71cd7cf8f9557a9a2283725a"), looks := false }, kinds := [], alts := [], laidByText := true, laidKinds := [.data, .data, .data], laidTests := true, laidLooks := .later }
def VmFullUptoCardSaid : Prop := Claim7.holds Tryz.pinned (.plain (OpenSpec.upto vmFullSpec)) vmFullUptoCard
end Rows
end Go.Proofs.YtmmjindfgkobiaaGreatDoor
