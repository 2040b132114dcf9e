/-
  DERIVED. GIVEN WITH THE SEED: THE CARDS: each row of YtckdapbopihofaaGreatDoorRows.lean that lists a variable, with what it lists TIED to the program's text (the seventh form; the later family's looks); each row that meets fmt, with fmt's text TOLD by the authors' own Lean function (tested against real Go, not proved from fmt's source: count such statements apart). THE CARD IS WHAT COUNTS. Prove the row's statement (the work); the ties are given (YtckdapbopihofaaGreatDoorTie.lean); close each card by the builder's one call (the guide's Derived/Test/ToyasCard.lean, 'card_holds'). Laid BY PROGRAM, IN A SANDBOX (cutbox-door.mjs). By AI agents, Wed Nov 11 2026. No macro, syntax, notation, axiom, sorry.
-/
import Derived.Test.YtckdapbopihofaaGreatDoorRows
import GoSem.ClaimSeven
namespace Go.Proofs.YtckdapbopihofaaGreatDoor
namespace Rows

/-- THE TIED CARD OF 'caltroplaw26.DfaCounts'. -/
def dfaCountsCard : Claim7 := { stood := { row := dfaCountsRow, standIns := [], harness := (true, "bf061497674f5c9e0058950e3c7d8e7d77f7ad4288a6580e84279b8b9138b589"), looks := false }, kinds := [], alts := [], laidByText := true, laidKinds := [.data, .data, .data], laidTests := true, laidLooks := .later }
def DfaCountsCardSaid : Prop := Claim7.holds Tryz.pinned (.plain (OpenSpec.ofChange dfaCountsSpec)) dfaCountsCard

/-- THE TIED CARD OF 'caltroplaw26.DfaMeans'. -/
def dfaMeansCard : Claim7 := { stood := { row := dfaMeansRow, standIns := [], harness := (true, "bf061497674f5c9e0058950e3c7d8e7d77f7ad4288a6580e84279b8b9138b589"), looks := false }, kinds := [], alts := [], laidByText := true, laidKinds := [.data, .data, .data], laidTests := true, laidLooks := .later }
def DfaMeansCardSaid : Prop := Claim7.holds Tryz.pinned (.plain (OpenSpec.ofChange dfaMeansSpec)) dfaMeansCard

/-- THE TIED CARD OF 'caltroplaw26.DfaStates'. -/
def dfaStatesCard : Claim7 := { stood := { row := dfaStatesRow, standIns := [], harness := (true, "bf061497674f5c9e0058950e3c7d8e7d77f7ad4288a6580e84279b8b9138b589"), looks := false }, kinds := [], alts := [], laidByText := true, laidKinds := [.data, .data, .data], laidTests := true, laidLooks := .later }
def DfaStatesCardSaid : Prop := Claim7.holds Tryz.pinned (.plain (OpenSpec.ofChange dfaStatesSpec)) dfaStatesCard

/-- THE TIED CARD OF 'caltroplaw26.DfaNone'. -/
def dfaNoneCard : Claim7 := { stood := { row := dfaNoneRow, standIns := [], harness := (true, "bf061497674f5c9e0058950e3c7d8e7d77f7ad4288a6580e84279b8b9138b589"), looks := false }, kinds := [], alts := [], laidByText := true, laidKinds := [.data, .data, .data], laidTests := true, laidLooks := .later }
def DfaNoneCardSaid : Prop := Claim7.holds Tryz.pinned (.plain (OpenSpec.ofChange dfaNoneSpec)) dfaNoneCard

/-- THE TIED CARD OF 'caltroplaw31.WordsList'. -/
def wordsListCard : Claim7 := { stood := { row := wordsListRow, standIns := [], harness := (true, "bf061497674f5c9e0058950e3c7d8e7d77f7ad4288a6580e84279b8b9138b589"), looks := false }, kinds := [], alts := [], laidByText := true, laidKinds := [.data, .data, .data], laidTests := true, laidLooks := .later }
def WordsListCardSaid : Prop := Claim7.holds Tryz.pinned (.plain (OpenSpec.ofChange wordsListSpec)) wordsListCard

/-- THE TIED CARD OF 'caltroplaw31.WordsMeant'. -/
def wordsMeantCard : Claim7 := { stood := { row := wordsMeantRow, standIns := [], harness := (true, "bf061497674f5c9e0058950e3c7d8e7d77f7ad4288a6580e84279b8b9138b589"), looks := false }, kinds := [], alts := [], laidByText := true, laidKinds := [.data, .data, .data], laidTests := true, laidLooks := .later }
def WordsMeantCardSaid : Prop := Claim7.holds Tryz.pinned (.plain (OpenSpec.ofChange wordsMeantSpec)) wordsMeantCard

/-- THE TIED CARD OF 'caltroplaw31.WordsPlaces'. -/
def wordsPlacesCard : Claim7 := { stood := { row := wordsPlacesRow, standIns := [], harness := (true, "bf061497674f5c9e0058950e3c7d8e7d77f7ad4288a6580e84279b8b9138b589"), looks := false }, kinds := [], alts := [], laidByText := true, laidKinds := [.data, .data, .data], laidTests := true, laidLooks := .later }
def WordsPlacesCardSaid : Prop := Claim7.holds Tryz.pinned (.plain (OpenSpec.ofChange wordsPlacesSpec)) wordsPlacesCard

/-- THE TIED CARD OF 'caltroplaw31.WordsNone'. -/
def wordsNoneCard : Claim7 := { stood := { row := wordsNoneRow, standIns := [], harness := (true, "bf061497674f5c9e0058950e3c7d8e7d77f7ad4288a6580e84279b8b9138b589"), looks := false }, kinds := [], alts := [], laidByText := true, laidKinds := [.data, .data, .data], laidTests := true, laidLooks := .later }
def WordsNoneCardSaid : Prop := Claim7.holds Tryz.pinned (.plain (OpenSpec.ofChange wordsNoneSpec)) wordsNoneCard

/-- THE SECOND FORM's CARD OF 'caltroplaw26.DfaCounts'. -/
def dfaCountsUptoCard : Claim7 := { stood := { row := dfaCountsUptoRow, standIns := [], harness := (true, "bf061497674f5c9e0058950e3c7d8e7d77f7ad4288a6580e84279b8b9138b589"), looks := false }, kinds := [], alts := [], laidByText := true, laidKinds := [.data, .data, .data], laidTests := true, laidLooks := .later }
def DfaCountsUptoCardSaid : Prop := Claim7.holds Tryz.pinned (.plain (OpenSpec.upto dfaCountsSpec)) dfaCountsUptoCard

/-- THE SECOND FORM's CARD OF 'caltroplaw26.DfaMeans'. -/
def dfaMeansUptoCard : Claim7 := { stood := { row := dfaMeansUptoRow, standIns := [], harness := (true, "bf061497674f5c9e0058950e3c7d8e7d77f7ad4288a6580e84279b8b9138b589"), looks := false }, kinds := [], alts := [], laidByText := true, laidKinds := [.data, .data, .data], laidTests := true, laidLooks := .later }
def DfaMeansUptoCardSaid : Prop := Claim7.holds Tryz.pinned (.plain (OpenSpec.upto dfaMeansSpec)) dfaMeansUptoCard

/-- THE SECOND FORM's CARD OF 'caltroplaw26.DfaStates'. -/
def dfaStatesUptoCard : Claim7 := { stood := { row := dfaStatesUptoRow, standIns := [], harness := (true, "bf061497674f5c9e0058950e3c7d8e7d77f7ad4288a6580e84279b8b9138b589"), looks := false }, kinds := [], alts := [], laidByText := true, laidKinds := [.data, .data, .data], laidTests := true, laidLooks := .later }
def DfaStatesUptoCardSaid : Prop := Claim7.holds Tryz.pinned (.plain (OpenSpec.upto dfaStatesSpec)) dfaStatesUptoCard

/-- THE SECOND FORM's CARD OF 'caltroplaw26.DfaNone'. -/
def dfaNoneUptoCard : Claim7 := { stood := { row := dfaNoneUptoRow, standIns := [], harness := (true, "bf061497674f5c9e0058950e3c7d8e7d77f7ad4288a6580e84279b8b9138b589"), looks := false }, kinds := [], alts := [], laidByText := true, laidKinds := [.data, .data, .data], laidTests := true, laidLooks := .later }
def DfaNoneUptoCardSaid : Prop := Claim7.holds Tryz.pinned (.plain (OpenSpec.upto dfaNoneSpec)) dfaNoneUptoCard

/-- THE SECOND FORM's CARD OF 'caltroplaw31.WordsList'. -/
def wordsListUptoCard : Claim7 := { stood := { row := wordsListUptoRow, standIns := [], harness := (true, "bf061497674f5c9e0058950e3c7d8e7d77f7ad4288a6580e84279b8b9138b589"), looks := false }, kinds := [], alts := [], laidByText := true, laidKinds := [.data, .data, .data], laidTests := true, laidLooks := .later }
def WordsListUptoCardSaid : Prop := Claim7.holds Tryz.pinned (.plain (OpenSpec.upto wordsListSpec)) wordsListUptoCard

/-- THE SECOND FORM's CARD OF 'caltroplaw31.WordsMeant'. -/
def wordsMeantUptoCard : Claim7 := { stood := { row := wordsMeantUptoRow, standIns := [], harness := (true, "bf061497674f5c9e0058950e3c7d8e7d77f7ad4288a6580e84279b8b9138b589"), looks := false }, kinds := [], alts := [], laidByText := true, laidKinds := [.data, .data, .data], laidTests := true, laidLooks := .later }
def WordsMeantUptoCardSaid : Prop := Claim7.holds Tryz.pinned (.plain (OpenSpec.upto wordsMeantSpec)) wordsMeantUptoCard

/-- THE SECOND FORM's CARD OF 'caltroplaw31.WordsPlaces'. -/
def wordsPlacesUptoCard : Claim7 := { stood := { row := wordsPlacesUptoRow, standIns := [], harness := (true, "bf061497674f5c9e0058950e3c7d8e7d77f7ad4288a6580e84279b8b9138b589"), looks := false }, kinds := [], alts := [], laidByText := true, laidKinds := [.data, .data, .data], laidTests := true, laidLooks := .later }
def WordsPlacesUptoCardSaid : Prop := Claim7.holds Tryz.pinned (.plain (OpenSpec.upto wordsPlacesSpec)) wordsPlacesUptoCard

/-- THE SECOND FORM's CARD OF 'caltroplaw31.WordsNone'. -/
def wordsNoneUptoCard : Claim7 := { stood := { row := wordsNoneUptoRow, standIns := [], harness := (true, "bf061497674f5c9e0058950e3c7d8e7d77f7ad4288a6580e84279b8b9138b589"), looks := false }, kinds := [], alts := [], laidByText := true, laidKinds := [.data, .data, .data], laidTests := true, laidLooks := .later }
def WordsNoneUptoCardSaid : Prop := Claim7.holds Tryz.pinned (.plain (OpenSpec.upto wordsNoneSpec)) wordsNoneUptoCard
end Rows
end Go.Proofs.YtckdapbopihofaaGreatDoor
