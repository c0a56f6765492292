/-
  DERIVED. GIVEN WITH THE SEED: THE CARDS: each row of YthdlaekahejdnaaGreatDoorRows.lean that lists a variable, with what it lists TIED to the program's text (the seventh form; the later family's looks); each row that meets fmt, with fmt's text TOLD by the authors' own Lean function (tested against real Go, not proved from fmt's source: count such statements apart). THE CARD IS WHAT COUNTS. Prove the row's statement (the work); the ties are given (YthdlaekahejdnaaGreatDoorTie.lean); close each card by the builder's one call (the guide's Derived/Test/ToyasCard.lean, 'card_holds'). Laid BY PROGRAM, IN A SANDBOX (cutbox-door.mjs). By AI agents, Wed Nov 11 2026. No macro, syntax, notation, axiom, sorry.
-/
import Derived.Test.YthdlaekahejdnaaGreatDoorRows
import GoSem.ClaimSeven
namespace Go.Proofs.YthdlaekahejdnaaGreatDoor
namespace Rows

/-- THE TIED CARD OF 'waystonelaw17.PlanRaw'. -/
def planRawCard : Claim7 := { stood := { row := planRawRow, standIns := [], harness := (true, "9ab1e6b89206218088606516278dbbf784185fe28152aad68ddcbbd1f7a9daa7"), looks := true }, kinds := [], alts := [], laidByText := true, laidKinds := [.data, .data, .data, .data, .sentinel, .sentinel, .pinned], laidTests := true, laidLooks := .later }
def PlanRawCardSaid : Prop := Claim7.holds Tryz.pinned (.plain (OpenSpec.ofChange planRawSpec)) planRawCard

/-- THE TIED CARD OF 'waystonelaw17.PlanMakes'. -/
def planMakesCard : Claim7 := { stood := { row := planMakesRow, standIns := [], harness := (true, "9ab1e6b89206218088606516278dbbf784185fe28152aad68ddcbbd1f7a9daa7"), looks := true }, kinds := [], alts := [], laidByText := true, laidKinds := [.data, .data, .data, .data, .sentinel, .sentinel, .pinned], laidTests := true, laidLooks := .later }
def PlanMakesCardSaid : Prop := Claim7.holds Tryz.pinned (.plain (OpenSpec.ofChange planMakesSpec)) planMakesCard

/-- THE TIED CARD OF 'waystonelaw15.AdvAll'. -/
def advAllCard : Claim7 := { stood := { row := advAllRow, standIns := [], harness := (true, "9ab1e6b89206218088606516278dbbf784185fe28152aad68ddcbbd1f7a9daa7"), looks := true }, kinds := [], alts := [], laidByText := true, laidKinds := [.data, .data, .data, .data, .sentinel, .sentinel, .pinned], laidTests := true, laidLooks := .later }
def AdvAllCardSaid : Prop := Claim7.holds Tryz.pinned (.plain (OpenSpec.ofChange advAllSpec)) advAllCard

/-- THE TIED CARD OF 'waystonelaw15.AdvSettings'. -/
def advSettingsCard : Claim7 := { stood := { row := advSettingsRow, standIns := [], harness := (true, "9ab1e6b89206218088606516278dbbf784185fe28152aad68ddcbbd1f7a9daa7"), looks := true }, kinds := [], alts := [], laidByText := true, laidKinds := [.data, .data, .data, .data, .sentinel, .sentinel, .pinned], laidTests := true, laidLooks := .later }
def AdvSettingsCardSaid : Prop := Claim7.holds Tryz.pinned (.plain (OpenSpec.ofChange advSettingsSpec)) advSettingsCard

/-- THE SECOND FORM's CARD OF 'waystonelaw17.PlanRaw'. -/
def planRawUptoCard : Claim7 := { stood := { row := planRawUptoRow, standIns := [], harness := (true, "9ab1e6b89206218088606516278dbbf784185fe28152aad68ddcbbd1f7a9daa7"), looks := true }, kinds := [], alts := [], laidByText := true, laidKinds := [.data, .data, .data, .data, .sentinel, .sentinel, .pinned], laidTests := true, laidLooks := .later }
def PlanRawUptoCardSaid : Prop := Claim7.holds Tryz.pinned (.plain (OpenSpec.upto planRawSpec)) planRawUptoCard

/-- THE SECOND FORM's CARD OF 'waystonelaw17.PlanMakes'. -/
def planMakesUptoCard : Claim7 := { stood := { row := planMakesUptoRow, standIns := [], harness := (true, "9ab1e6b89206218088606516278dbbf784185fe28152aad68ddcbbd1f7a9daa7"), looks := true }, kinds := [], alts := [], laidByText := true, laidKinds := [.data, .data, .data, .data, .sentinel, .sentinel, .pinned], laidTests := true, laidLooks := .later }
def PlanMakesUptoCardSaid : Prop := Claim7.holds Tryz.pinned (.plain (OpenSpec.upto planMakesSpec)) planMakesUptoCard

/-- THE SECOND FORM's CARD OF 'waystonelaw15.AdvAll'. -/
def advAllUptoCard : Claim7 := { stood := { row := advAllUptoRow, standIns := [], harness := (true, "9ab1e6b89206218088606516278dbbf784185fe28152aad68ddcbbd1f7a9daa7"), looks := true }, kinds := [], alts := [], laidByText := true, laidKinds := [.data, .data, .data, .data, .sentinel, .sentinel, .pinned], laidTests := true, laidLooks := .later }
def AdvAllUptoCardSaid : Prop := Claim7.holds Tryz.pinned (.plain (OpenSpec.upto advAllSpec)) advAllUptoCard

/-- THE SECOND FORM's CARD OF 'waystonelaw15.AdvSettings'. -/
def advSettingsUptoCard : Claim7 := { stood := { row := advSettingsUptoRow, standIns := [], harness := (true, "9ab1e6b89206218088606516278dbbf784185fe28152aad68ddcbbd1f7a9daa7"), looks := true }, kinds := [], alts := [], laidByText := true, laidKinds := [.data, .data, .data, .data, .sentinel, .sentinel, .pinned], laidTests := true, laidLooks := .later }
def AdvSettingsUptoCardSaid : Prop := Claim7.holds Tryz.pinned (.plain (OpenSpec.upto advSettingsSpec)) advSettingsUptoCard
end Rows
end Go.Proofs.YthdlaekahejdnaaGreatDoor
