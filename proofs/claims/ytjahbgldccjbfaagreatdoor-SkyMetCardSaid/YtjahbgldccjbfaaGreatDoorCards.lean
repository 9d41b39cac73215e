/-
  DERIVED. GIVEN WITH THE SEED: THE CARDS: each row of YtjahbgldccjbfaaGreatDoorRows.lean that lists a variable, with what it lists TIED to the program's text (the seventh form; the later family's looks); each row that meets fmt, with fmt's text TOLD by the authors' own Lean function (tested against real Go, not proved from fmt's source: count such statements apart). THE CARD IS WHAT COUNTS. Prove the row's statement (the work); the ties are given (YtjahbgldccjbfaaGreatDoorTie.lean); close each card by the builder's one call (the guide's Derived/Test/ToyasCard.lean, 'card_holds'). Laid BY PROGRAM, IN A SANDBOX (cutbox-door.mjs). By AI agents, Wed Nov 11 2026. No macro, syntax, notation, axiom, sorry.
-/
import Derived.Test.YtjahbgldccjbfaaGreatDoorRows
import GoSem.ClaimSeven
namespace Go.Proofs.YtjahbgldccjbfaaGreatDoor
namespace Rows

/-- THE TIED CARD OF 'tellurionlaw05.SkyReads'. -/
def skyReadsCard : Claim7 := { stood := { row := skyReadsRow, standIns := [], harness := (true, "0e8cf835ccc1a46dfdf35b16bac30e5d5a8e75dc3270141b9e5f80339f444405"), looks := true }, kinds := [], alts := [], laidByText := true, laidKinds := [.data, .data, .data, .data, .pinned], laidTests := true, laidLooks := .later }
def SkyReadsCardSaid : Prop := Claim7.holds Tryz.pinned (.plain (OpenSpec.ofChange skyReadsSpec)) skyReadsCard

/-- THE TIED CARD OF 'tellurionlaw05.SkyMeets'. -/
def skyMeetsCard : Claim7 := { stood := { row := skyMeetsRow, standIns := [], harness := (true, "0e8cf835ccc1a46dfdf35b16bac30e5d5a8e75dc3270141b9e5f80339f444405"), looks := true }, kinds := [], alts := [], laidByText := true, laidKinds := [.data, .data, .data, .data, .pinned], laidTests := true, laidLooks := .later }
def SkyMeetsCardSaid : Prop := Claim7.holds Tryz.pinned (.plain (OpenSpec.ofChange skyMeetsSpec)) skyMeetsCard

/-- THE TIED CARD OF 'tellurionlaw05.SkyMet'. -/
def skyMetCard : Claim7 := { stood := { row := skyMetRow, standIns := [], harness := (true, "0e8cf835ccc1a46dfdf35b16bac30e5d5a8e75dc3270141b9e5f80339f444405"), looks := true }, kinds := [], alts := [], laidByText := true, laidKinds := [.data, .data, .data, .data, .pinned], laidTests := true, laidLooks := .later }
def SkyMetCardSaid : Prop := Claim7.holds Tryz.pinned (.plain (OpenSpec.ofChange skyMetSpec)) skyMetCard

/-- THE TIED CARD OF 'tellurionlaw05.SkyMonths'. -/
def skyMonthsCard : Claim7 := { stood := { row := skyMonthsRow, standIns := [], harness := (true, "0e8cf835ccc1a46dfdf35b16bac30e5d5a8e75dc3270141b9e5f80339f444405"), looks := true }, kinds := [], alts := [], laidByText := true, laidKinds := [.data, .data, .data, .data, .pinned], laidTests := true, laidLooks := .later }
def SkyMonthsCardSaid : Prop := Claim7.holds Tryz.pinned (.plain (OpenSpec.ofChange skyMonthsSpec)) skyMonthsCard

/-- THE TIED CARD OF 'tellurionlaw05.SkyCycles'. -/
def skyCyclesCard : Claim7 := { stood := { row := skyCyclesRow, standIns := [], harness := (true, "0e8cf835ccc1a46dfdf35b16bac30e5d5a8e75dc3270141b9e5f80339f444405"), looks := true }, kinds := [], alts := [], laidByText := true, laidKinds := [.data, .data, .data, .data, .pinned], laidTests := true, laidLooks := .later }
def SkyCyclesCardSaid : Prop := Claim7.holds Tryz.pinned (.plain (OpenSpec.ofChange skyCyclesSpec)) skyCyclesCard

/-- THE TIED CARD OF 'tellurionlaw05.SkyPlaces'. -/
def skyPlacesCard : Claim7 := { stood := { row := skyPlacesRow, standIns := [], harness := (true, "0e8cf835ccc1a46dfdf35b16bac30e5d5a8e75dc3270141b9e5f80339f444405"), looks := true }, kinds := [], alts := [], laidByText := true, laidKinds := [.data, .data, .data, .data, .pinned], laidTests := true, laidLooks := .later }
def SkyPlacesCardSaid : Prop := Claim7.holds Tryz.pinned (.plain (OpenSpec.ofChange skyPlacesSpec)) skyPlacesCard

/-- THE TIED CARD OF 'tellurionlaw05.SkyNexts'. -/
def skyNextsCard : Claim7 := { stood := { row := skyNextsRow, standIns := [], harness := (true, "0e8cf835ccc1a46dfdf35b16bac30e5d5a8e75dc3270141b9e5f80339f444405"), looks := true }, kinds := [], alts := [], laidByText := true, laidKinds := [.data, .data, .data, .data, .pinned], laidTests := true, laidLooks := .later }
def SkyNextsCardSaid : Prop := Claim7.holds Tryz.pinned (.plain (OpenSpec.ofChange skyNextsSpec)) skyNextsCard

/-- THE TIED CARD OF 'tellurionlaw05.SkyFirst'. -/
def skyFirstCard : Claim7 := { stood := { row := skyFirstRow, standIns := [], harness := (true, "0e8cf835ccc1a46dfdf35b16bac30e5d5a8e75dc3270141b9e5f80339f444405"), looks := true }, kinds := [], alts := [], laidByText := true, laidKinds := [.data, .data, .data, .data, .pinned], laidTests := true, laidLooks := .later }
def SkyFirstCardSaid : Prop := Claim7.holds Tryz.pinned (.plain (OpenSpec.ofChange skyFirstSpec)) skyFirstCard

/-- THE SECOND FORM's CARD OF 'tellurionlaw05.SkyReads'. -/
def skyReadsUptoCard : Claim7 := { stood := { row := skyReadsUptoRow, standIns := [], harness := (true, "0e8cf835ccc1a46dfdf35b16bac30e5d5a8e75dc3270141b9e5f80339f444405"), looks := true }, kinds := [], alts := [], laidByText := true, laidKinds := [.data, .data, .data, .data, .pinned], laidTests := true, laidLooks := .later }
def SkyReadsUptoCardSaid : Prop := Claim7.holds Tryz.pinned (.plain (OpenSpec.upto skyReadsSpec)) skyReadsUptoCard

/-- THE SECOND FORM's CARD OF 'tellurionlaw05.SkyMeets'. -/
def skyMeetsUptoCard : Claim7 := { stood := { row := skyMeetsUptoRow, standIns := [], harness := (true, "0e8cf835ccc1a46dfdf35b16bac30e5d5a8e75dc3270141b9e5f80339f444405"), looks := true }, kinds := [], alts := [], laidByText := true, laidKinds := [.data, .data, .data, .data, .pinned], laidTests := true, laidLooks := .later }
def SkyMeetsUptoCardSaid : Prop := Claim7.holds Tryz.pinned (.plain (OpenSpec.upto skyMeetsSpec)) skyMeetsUptoCard

/-- THE SECOND FORM's CARD OF 'tellurionlaw05.SkyMet'. -/
def skyMetUptoCard : Claim7 := { stood := { row := skyMetUptoRow, standIns := [], harness := (true, "0e8cf835ccc1a46dfdf35b16bac30e5d5a8e75dc3270141b9e5f80339f444405"), looks := true }, kinds := [], alts := [], laidByText := true, laidKinds := [.data, .data, .data, .data, .pinned], laidTests := true, laidLooks := .later }
def SkyMetUptoCardSaid : Prop := Claim7.holds Tryz.pinned (.plain (OpenSpec.upto skyMetSpec)) skyMetUptoCard

/-- THE SECOND FORM's CARD OF 'tellurionlaw05.SkyMonths'. -/
def skyMonthsUptoCard : Claim7 := { stood := { row := skyMonthsUptoRow, standIns := [], harness := (true, "0e8cf835ccc1a46dfdf35b16bac30e5d5a8e75dc3270141b9e5f80339f444405"), looks := true }, kinds := [], alts := [], laidByText := true, laidKinds := [.data, .data, .data, .data, .pinned], laidTests := true, laidLooks := .later }
def SkyMonthsUptoCardSaid : Prop := Claim7.holds Tryz.pinned (.plain (OpenSpec.upto skyMonthsSpec)) skyMonthsUptoCard

/-- THE SECOND FORM's CARD OF 'tellurionlaw05.SkyCycles'. -/
def skyCyclesUptoCard : Claim7 := { stood := { row := skyCyclesUptoRow, standIns := [], harness := (true, "0e8cf835ccc1a46dfdf35b16bac30e5d5a8e75dc3270141b9e5f80339f444405"), looks := true }, kinds := [], alts := [], laidByText := true, laidKinds := [.data, .data, .data, .data, .pinned], laidTests := true, laidLooks := .later }
def SkyCyclesUptoCardSaid : Prop := Claim7.holds Tryz.pinned (.plain (OpenSpec.upto skyCyclesSpec)) skyCyclesUptoCard

/-- THE SECOND FORM's CARD OF 'tellurionlaw05.SkyPlaces'. -/
def skyPlacesUptoCard : Claim7 := { stood := { row := skyPlacesUptoRow, standIns := [], harness := (true, "0e8cf835ccc1a46dfdf35b16bac30e5d5a8e75dc3270141b9e5f80339f444405"), looks := true }, kinds := [], alts := [], laidByText := true, laidKinds := [.data, .data, .data, .data, .pinned], laidTests := true, laidLooks := .later }
def SkyPlacesUptoCardSaid : Prop := Claim7.holds Tryz.pinned (.plain (OpenSpec.upto skyPlacesSpec)) skyPlacesUptoCard

/-- THE SECOND FORM's CARD OF 'tellurionlaw05.SkyNexts'. -/
def skyNextsUptoCard : Claim7 := { stood := { row := skyNextsUptoRow, standIns := [], harness := (true, "0e8cf835ccc1a46dfdf35b16bac30e5d5a8e75dc3270141b9e5f80339f444405"), looks := true }, kinds := [], alts := [], laidByText := true, laidKinds := [.data, .data, .data, .data, .pinned], laidTests := true, laidLooks := .later }
def SkyNextsUptoCardSaid : Prop := Claim7.holds Tryz.pinned (.plain (OpenSpec.upto skyNextsSpec)) skyNextsUptoCard

/-- THE SECOND FORM's CARD OF 'tellurionlaw05.SkyFirst'. -/
def skyFirstUptoCard : Claim7 := { stood := { row := skyFirstUptoRow, standIns := [], harness := (true, "0e8cf835ccc1a46dfdf35b16bac30e5d5a8e75dc3270141b9e5f80339f444405"), looks := true }, kinds := [], alts := [], laidByText := true, laidKinds := [.data, .data, .data, .data, .pinned], laidTests := true, laidLooks := .later }
def SkyFirstUptoCardSaid : Prop := Claim7.holds Tryz.pinned (.plain (OpenSpec.upto skyFirstSpec)) skyFirstUptoCard
end Rows
end Go.Proofs.YtjahbgldccjbfaaGreatDoor
