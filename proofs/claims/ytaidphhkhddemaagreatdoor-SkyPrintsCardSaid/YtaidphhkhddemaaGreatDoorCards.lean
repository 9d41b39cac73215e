/-
  DERIVED. GIVEN WITH THE SEED: THE CARDS: each row of YtaidphhkhddemaaGreatDoorRows.lean that lists a variable, with what it lists TIED to the program's text (the seventh form; the later family's looks); each row that meets fmt, with fmt's text TOLD by the authors' own Lean function (tested against real Go, not proved from fmt's source: count such statements apart). THE CARD IS WHAT COUNTS. Prove the row's statement (the work); the ties are given (YtaidphhkhddemaaGreatDoorTie.lean); close each card by the builder's one call (the guide's Derived/Test/ToyasCard.lean, 'card_holds'). Laid BY PROGRAM, IN A SANDBOX (cutbox-door.mjs). By AI agents, Wed Nov 11 2026. No macro, syntax, notation, axiom, sorry.
-/
import Derived.Test.YtaidphhkhddemaaGreatDoorRows
import GoSem.ClaimSeven
namespace Go.Proofs.YtaidphhkhddemaaGreatDoor
namespace Rows

/-- THE TIED CARD OF 'tellurionlaw05.SkyMoons'. -/
def skyMoonsCard : Claim7 := { stood := { row := skyMoonsRow, standIns := [], harness := (true, "ae8561b830a8efd82ca02a70051042283555a1c68d5bb559c42579f66069f689"), looks := true }, kinds := [], alts := [], laidByText := true, laidKinds := [.data, .data, .data, .data, .pinned], laidTests := true, laidLooks := .later }
def SkyMoonsCardSaid : Prop := Claim7.holds Tryz.pinned (.plain (OpenSpec.ofChange skyMoonsSpec)) skyMoonsCard

/-- THE TIED CARD OF 'tellurionlaw05.SkyEclipses'. -/
def skyEclipsesCard : Claim7 := { stood := { row := skyEclipsesRow, standIns := [], harness := (true, "ae8561b830a8efd82ca02a70051042283555a1c68d5bb559c42579f66069f689"), looks := true }, kinds := [], alts := [], laidByText := true, laidKinds := [.data, .data, .data, .data, .pinned], laidTests := true, laidLooks := .later }
def SkyEclipsesCardSaid : Prop := Claim7.holds Tryz.pinned (.plain (OpenSpec.ofChange skyEclipsesSpec)) skyEclipsesCard

/-- THE TIED CARD OF 'tellurionlaw05.SkyShadows'. -/
def skyShadowsCard : Claim7 := { stood := { row := skyShadowsRow, standIns := [], harness := (true, "ae8561b830a8efd82ca02a70051042283555a1c68d5bb559c42579f66069f689"), looks := true }, kinds := [], alts := [], laidByText := true, laidKinds := [.data, .data, .data, .data, .pinned], laidTests := true, laidLooks := .later }
def SkyShadowsCardSaid : Prop := Claim7.holds Tryz.pinned (.plain (OpenSpec.ofChange skyShadowsSpec)) skyShadowsCard

/-- THE TIED CARD OF 'tellurionlaw05.SkySpeeds'. -/
def skySpeedsCard : Claim7 := { stood := { row := skySpeedsRow, standIns := [], harness := (true, "ae8561b830a8efd82ca02a70051042283555a1c68d5bb559c42579f66069f689"), looks := true }, kinds := [], alts := [], laidByText := true, laidKinds := [.data, .data, .data, .data, .pinned], laidTests := true, laidLooks := .later }
def SkySpeedsCardSaid : Prop := Claim7.holds Tryz.pinned (.plain (OpenSpec.ofChange skySpeedsSpec)) skySpeedsCard

/-- THE TIED CARD OF 'tellurionlaw05.SkyWatches'. -/
def skyWatchesCard : Claim7 := { stood := { row := skyWatchesRow, standIns := [], harness := (true, "ae8561b830a8efd82ca02a70051042283555a1c68d5bb559c42579f66069f689"), looks := true }, kinds := [], alts := [], laidByText := true, laidKinds := [.data, .data, .data, .data, .pinned], laidTests := true, laidLooks := .later }
def SkyWatchesCardSaid : Prop := Claim7.holds Tryz.pinned (.plain (OpenSpec.ofChange skyWatchesSpec)) skyWatchesCard

/-- THE TIED CARD OF 'tellurionlaw05.SkyEven'. -/
def skyEvenCard : Claim7 := { stood := { row := skyEvenRow, standIns := [], harness := (true, "ae8561b830a8efd82ca02a70051042283555a1c68d5bb559c42579f66069f689"), looks := true }, kinds := [], alts := [], laidByText := true, laidKinds := [.data, .data, .data, .data, .pinned], laidTests := true, laidLooks := .later }
def SkyEvenCardSaid : Prop := Claim7.holds Tryz.pinned (.plain (OpenSpec.ofChange skyEvenSpec)) skyEvenCard

/-- THE TIED CARD OF 'tellurionlaw05.SkyPrints'. -/
def skyPrintsCard : Claim7 := { stood := { row := skyPrintsRow, standIns := [], harness := (true, "ae8561b830a8efd82ca02a70051042283555a1c68d5bb559c42579f66069f689"), looks := true }, kinds := [], alts := [], laidByText := true, laidKinds := [.data, .data, .data, .data, .pinned], laidTests := true, laidLooks := .later }
def SkyPrintsCardSaid : Prop := Claim7.holds Tryz.pinned (.plain (OpenSpec.ofChange skyPrintsSpec)) skyPrintsCard

/-- THE SECOND FORM's CARD OF 'tellurionlaw05.SkyMoons'. -/
def skyMoonsUptoCard : Claim7 := { stood := { row := skyMoonsUptoRow, standIns := [], harness := (true, "ae8561b830a8efd82ca02a70051042283555a1c68d5bb559c42579f66069f689"), looks := true }, kinds := [], alts := [], laidByText := true, laidKinds := [.data, .data, .data, .data, .pinned], laidTests := true, laidLooks := .later }
def SkyMoonsUptoCardSaid : Prop := Claim7.holds Tryz.pinned (.plain (OpenSpec.upto skyMoonsSpec)) skyMoonsUptoCard

/-- THE SECOND FORM's CARD OF 'tellurionlaw05.SkyEclipses'. -/
def skyEclipsesUptoCard : Claim7 := { stood := { row := skyEclipsesUptoRow, standIns := [], harness := (true, "ae8561b830a8efd82ca02a70051042283555a1c68d5bb559c42579f66069f689"), looks := true }, kinds := [], alts := [], laidByText := true, laidKinds := [.data, .data, .data, .data, .pinned], laidTests := true, laidLooks := .later }
def SkyEclipsesUptoCardSaid : Prop := Claim7.holds Tryz.pinned (.plain (OpenSpec.upto skyEclipsesSpec)) skyEclipsesUptoCard

/-- THE SECOND FORM's CARD OF 'tellurionlaw05.SkyShadows'. -/
def skyShadowsUptoCard : Claim7 := { stood := { row := skyShadowsUptoRow, standIns := [], harness := (true, "ae8561b830a8efd82ca02a70051042283555a1c68d5bb559c42579f66069f689"), looks := true }, kinds := [], alts := [], laidByText := true, laidKinds := [.data, .data, .data, .data, .pinned], laidTests := true, laidLooks := .later }
def SkyShadowsUptoCardSaid : Prop := Claim7.holds Tryz.pinned (.plain (OpenSpec.upto skyShadowsSpec)) skyShadowsUptoCard

/-- THE SECOND FORM's CARD OF 'tellurionlaw05.SkySpeeds'. -/
def skySpeedsUptoCard : Claim7 := { stood := { row := skySpeedsUptoRow, standIns := [], harness := (true, "ae8561b830a8efd82ca02a70051042283555a1c68d5bb559c42579f66069f689"), looks := true }, kinds := [], alts := [], laidByText := true, laidKinds := [.data, .data, .data, .data, .pinned], laidTests := true, laidLooks := .later }
def SkySpeedsUptoCardSaid : Prop := Claim7.holds Tryz.pinned (.plain (OpenSpec.upto skySpeedsSpec)) skySpeedsUptoCard

/-- THE SECOND FORM's CARD OF 'tellurionlaw05.SkyWatches'. -/
def skyWatchesUptoCard : Claim7 := { stood := { row := skyWatchesUptoRow, standIns := [], harness := (true, "ae8561b830a8efd82ca02a70051042283555a1c68d5bb559c42579f66069f689"), looks := true }, kinds := [], alts := [], laidByText := true, laidKinds := [.data, .data, .data, .data, .pinned], laidTests := true, laidLooks := .later }
def SkyWatchesUptoCardSaid : Prop := Claim7.holds Tryz.pinned (.plain (OpenSpec.upto skyWatchesSpec)) skyWatchesUptoCard

/-- THE SECOND FORM's CARD OF 'tellurionlaw05.SkyEven'. -/
def skyEvenUptoCard : Claim7 := { stood := { row := skyEvenUptoRow, standIns := [], harness := (true, "ae8561b830a8efd82ca02a70051042283555a1c68d5bb559c42579f66069f689"), looks := true }, kinds := [], alts := [], laidByText := true, laidKinds := [.data, .data, .data, .data, .pinned], laidTests := true, laidLooks := .later }
def SkyEvenUptoCardSaid : Prop := Claim7.holds Tryz.pinned (.plain (OpenSpec.upto skyEvenSpec)) skyEvenUptoCard

/-- THE SECOND FORM's CARD OF 'tellurionlaw05.SkyPrints'. -/
def skyPrintsUptoCard : Claim7 := { stood := { row := skyPrintsUptoRow, standIns := [], harness := (true, "ae8561b830a8efd82ca02a70051042283555a1c68d5bb559c42579f66069f689"), looks := true }, kinds := [], alts := [], laidByText := true, laidKinds := [.data, .data, .data, .data, .pinned], laidTests := true, laidLooks := .later }
def SkyPrintsUptoCardSaid : Prop := Claim7.holds Tryz.pinned (.plain (OpenSpec.upto skyPrintsSpec)) skyPrintsUptoCard
end Rows
end Go.Proofs.YtaidphhkhddemaaGreatDoor
