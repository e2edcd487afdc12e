/-
  DERIVED. GIVEN WITH THE SEED: THE CARDS: each row of YtehnikhicnnnhaaGreatDoorRows.lean that lists a variable, with what it lists TIED to the program's text (the seventh form; the later family's looks); each row that meets fmt, with fmt's text TOLD by the authors' own Lean function (tested against real Go, not proved from fmt's source: count such statements apart). THE CARD IS WHAT COUNTS. Prove the row's statement (the work); the ties are given (YtehnikhicnnnhaaGreatDoorTie.lean); close each card by the builder's one call (the guide's Derived/Test/ToyasCard.lean, 'card_holds'). Laid BY PROGRAM, IN A SANDBOX (cutbox-door.mjs). By AI agents, Wed Nov 11 2026. No macro, syntax, notation, axiom, sorry.
-/
import Derived.Test.YtehnikhicnnnhaaGreatDoorRows
import GoSem.ClaimSeven
namespace Go.Proofs.YtehnikhicnnnhaaGreatDoor
namespace Rows

/-- THE TIED CARD OF 'spillagelaw06.BeamWays'. -/
def beamWaysCard : Claim7 := { stood := { row := beamWaysRow, standIns := [], harness := (true, "30c7da792f84540bb41646402ea87db8d7fa51145eabfc0ada3350d587b88c49"), looks := false }, kinds := [], alts := [], laidByText := true, laidKinds := [.data, .data, .data, .widerDeep], laidTests := true, laidLooks := .later }
def BeamWaysCardSaid : Prop := Claim7.holds Tryz.pinned (.plain (OpenSpec.ofChange beamWaysSpec)) beamWaysCard

/-- THE TIED CARD OF 'spillagelaw06.BeamBarriers'. -/
def beamBarriersCard : Claim7 := { stood := { row := beamBarriersRow, standIns := [], harness := (true, "30c7da792f84540bb41646402ea87db8d7fa51145eabfc0ada3350d587b88c49"), looks := false }, kinds := [], alts := [], laidByText := true, laidKinds := [.data, .data, .data, .widerDeep], laidTests := true, laidLooks := .later }
def BeamBarriersCardSaid : Prop := Claim7.holds Tryz.pinned (.plain (OpenSpec.ofChange beamBarriersSpec)) beamBarriersCard

/-- THE TIED CARD OF 'spillagelaw06.BeamFields'. -/
def beamFieldsCard : Claim7 := { stood := { row := beamFieldsRow, standIns := [], harness := (true, "30c7da792f84540bb41646402ea87db8d7fa51145eabfc0ada3350d587b88c49"), looks := false }, kinds := [], alts := [], laidByText := true, laidKinds := [.data, .data, .data, .widerDeep], laidTests := true, laidLooks := .later }
def BeamFieldsCardSaid : Prop := Claim7.holds Tryz.pinned (.plain (OpenSpec.ofChange beamFieldsSpec)) beamFieldsCard

/-- THE TIED CARD OF 'spillagelaw06.BeamRuns'. -/
def beamRunsCard : Claim7 := { stood := { row := beamRunsRow, standIns := [], harness := (true, "30c7da792f84540bb41646402ea87db8d7fa51145eabfc0ada3350d587b88c49"), looks := false }, kinds := [], alts := [], laidByText := true, laidKinds := [.data, .data, .data, .widerDeep], laidTests := true, laidLooks := .later }
def BeamRunsCardSaid : Prop := Claim7.holds Tryz.pinned (.plain (OpenSpec.ofChange beamRunsSpec)) beamRunsCard

/-- THE TIED CARD OF 'spillagelaw06.BeamLeast'. -/
def beamLeastCard : Claim7 := { stood := { row := beamLeastRow, standIns := [], harness := (true, "30c7da792f84540bb41646402ea87db8d7fa51145eabfc0ada3350d587b88c49"), looks := false }, kinds := [], alts := [], laidByText := true, laidKinds := [.data, .data, .data, .widerDeep], laidTests := true, laidLooks := .later }
def BeamLeastCardSaid : Prop := Claim7.holds Tryz.pinned (.plain (OpenSpec.ofChange beamLeastSpec)) beamLeastCard

/-- THE TIED CARD OF 'spillagelaw06.BeamSafe'. -/
def beamSafeCard : Claim7 := { stood := { row := beamSafeRow, standIns := [], harness := (true, "30c7da792f84540bb41646402ea87db8d7fa51145eabfc0ada3350d587b88c49"), looks := false }, kinds := [], alts := [], laidByText := true, laidKinds := [.data, .data, .data, .widerDeep], laidTests := true, laidLooks := .later }
def BeamSafeCardSaid : Prop := Claim7.holds Tryz.pinned (.plain (OpenSpec.ofChange beamSafeSpec)) beamSafeCard

/-- THE TIED CARD OF 'spillagelaw06.BeamGrids'. -/
def beamGridsCard : Claim7 := { stood := { row := beamGridsRow, standIns := [], harness := (true, "30c7da792f84540bb41646402ea87db8d7fa51145eabfc0ada3350d587b88c49"), looks := false }, kinds := [], alts := [], laidByText := true, laidKinds := [.data, .data, .data, .widerDeep], laidTests := true, laidLooks := .later }
def BeamGridsCardSaid : Prop := Claim7.holds Tryz.pinned (.plain (OpenSpec.ofChange beamGridsSpec)) beamGridsCard

/-- THE TIED CARD OF 'spillagelaw06.BeamDeadlines'. -/
def beamDeadlinesCard : Claim7 := { stood := { row := beamDeadlinesRow, standIns := [], harness := (true, "30c7da792f84540bb41646402ea87db8d7fa51145eabfc0ada3350d587b88c49"), looks := false }, kinds := [], alts := [], laidByText := true, laidKinds := [.data, .data, .data, .widerDeep], laidTests := true, laidLooks := .later }
def BeamDeadlinesCardSaid : Prop := Claim7.holds Tryz.pinned (.plain (OpenSpec.ofChange beamDeadlinesSpec)) beamDeadlinesCard

/-- THE TIED CARD OF 'spillagelaw06.BeamDark'. -/
def beamDarkCard : Claim7 := { stood := { row := beamDarkRow, standIns := [], harness := (true, "30c7da792f84540bb41646402ea87db8d7fa51145eabfc0ada3350d587b88c49"), looks := false }, kinds := [], alts := [], laidByText := true, laidKinds := [.data, .data, .data, .widerDeep], laidTests := true, laidLooks := .later }
def BeamDarkCardSaid : Prop := Claim7.holds Tryz.pinned (.plain (OpenSpec.ofChange beamDarkSpec)) beamDarkCard

/-- THE TIED CARD OF 'spillagelaw06.BeamSectors'. -/
def beamSectorsCard : Claim7 := { stood := { row := beamSectorsRow, standIns := [], harness := (true, "30c7da792f84540bb41646402ea87db8d7fa51145eabfc0ada3350d587b88c49"), looks := false }, kinds := [], alts := [], laidByText := true, laidKinds := [.data, .data, .data, .widerDeep], laidTests := true, laidLooks := .later }
def BeamSectorsCardSaid : Prop := Claim7.holds Tryz.pinned (.plain (OpenSpec.ofChange beamSectorsSpec)) beamSectorsCard

/-- THE TIED CARD OF 'spillagelaw06.BeamTexts'. -/
def beamTextsCard : Claim7 := { stood := { row := beamTextsRow, standIns := [], harness := (true, "30c7da792f84540bb41646402ea87db8d7fa51145eabfc0ada3350d587b88c49"), looks := false }, kinds := [], alts := [], laidByText := true, laidKinds := [.data, .data, .data, .data, .widerDeep, .pinned], laidTests := true, laidLooks := .later }
def BeamTextsCardSaid : Prop := Claim7.holds Tryz.pinned (.plain (OpenSpec.ofChange beamTextsSpec)) beamTextsCard

/-- THE TIED CARD OF 'spillagelaw06.BeamBack'. -/
def beamBackCard : Claim7 := { stood := { row := beamBackRow, standIns := [], harness := (true, "30c7da792f84540bb41646402ea87db8d7fa51145eabfc0ada3350d587b88c49"), looks := false }, kinds := [], alts := [], laidByText := true, laidKinds := [.data, .data, .data, .data, .widerDeep, .pinned], laidTests := true, laidLooks := .later }
def BeamBackCardSaid : Prop := Claim7.holds Tryz.pinned (.plain (OpenSpec.ofChange beamBackSpec)) beamBackCard

/-- THE SECOND FORM's CARD OF 'spillagelaw06.BeamWays'. -/
def beamWaysUptoCard : Claim7 := { stood := { row := beamWaysUptoRow, standIns := [], harness := (true, "30c7da792f84540bb41646402ea87db8d7fa51145eabfc0ada3350d587b88c49"), looks := false }, kinds := [], alts := [], laidByText := true, laidKinds := [.data, .data, .data, .widerDeep], laidTests := true, laidLooks := .later }
def BeamWaysUptoCardSaid : Prop := Claim7.holds Tryz.pinned (.plain (OpenSpec.upto beamWaysSpec)) beamWaysUptoCard

/-- THE SECOND FORM's CARD OF 'spillagelaw06.BeamBarriers'. -/
def beamBarriersUptoCard : Claim7 := { stood := { row := beamBarriersUptoRow, standIns := [], harness := (true, "30c7da792f84540bb41646402ea87db8d7fa51145eabfc0ada3350d587b88c49"), looks := false }, kinds := [], alts := [], laidByText := true, laidKinds := [.data, .data, .data, .widerDeep], laidTests := true, laidLooks := .later }
def BeamBarriersUptoCardSaid : Prop := Claim7.holds Tryz.pinned (.plain (OpenSpec.upto beamBarriersSpec)) beamBarriersUptoCard

/-- THE SECOND FORM's CARD OF 'spillagelaw06.BeamFields'. -/
def beamFieldsUptoCard : Claim7 := { stood := { row := beamFieldsUptoRow, standIns := [], harness := (true, "30c7da792f84540bb41646402ea87db8d7fa51145eabfc0ada3350d587b88c49"), looks := false }, kinds := [], alts := [], laidByText := true, laidKinds := [.data, .data, .data, .widerDeep], laidTests := true, laidLooks := .later }
def BeamFieldsUptoCardSaid : Prop := Claim7.holds Tryz.pinned (.plain (OpenSpec.upto beamFieldsSpec)) beamFieldsUptoCard

/-- THE SECOND FORM's CARD OF 'spillagelaw06.BeamRuns'. -/
def beamRunsUptoCard : Claim7 := { stood := { row := beamRunsUptoRow, standIns := [], harness := (true, "30c7da792f84540bb41646402ea87db8d7fa51145eabfc0ada3350d587b88c49"), looks := false }, kinds := [], alts := [], laidByText := true, laidKinds := [.data, .data, .data, .widerDeep], laidTests := true, laidLooks := .later }
def BeamRunsUptoCardSaid : Prop := Claim7.holds Tryz.pinned (.plain (OpenSpec.upto beamRunsSpec)) beamRunsUptoCard

/-- THE SECOND FORM's CARD OF 'spillagelaw06.BeamLeast'. -/
def beamLeastUptoCard : Claim7 := { stood := { row := beamLeastUptoRow, standIns := [], harness := (true, "30c7da792f84540bb41646402ea87db8d7fa51145eabfc0ada3350d587b88c49"), looks := false }, kinds := [], alts := [], laidByText := true, laidKinds := [.data, .data, .data, .widerDeep], laidTests := true, laidLooks := .later }
def BeamLeastUptoCardSaid : Prop := Claim7.holds Tryz.pinned (.plain (OpenSpec.upto beamLeastSpec)) beamLeastUptoCard

/-- THE SECOND FORM's CARD OF 'spillagelaw06.BeamSafe'. -/
def beamSafeUptoCard : Claim7 := { stood := { row := beamSafeUptoRow, standIns := [], harness := (true, "30c7da792f84540bb41646402ea87db8d7fa51145eabfc0ada3350d587b88c49"), looks := false }, kinds := [], alts := [], laidByText := true, laidKinds := [.data, .data, .data, .widerDeep], laidTests := true, laidLooks := .later }
def BeamSafeUptoCardSaid : Prop := Claim7.holds Tryz.pinned (.plain (OpenSpec.upto beamSafeSpec)) beamSafeUptoCard

/-- THE SECOND FORM's CARD OF 'spillagelaw06.BeamGrids'. -/
def beamGridsUptoCard : Claim7 := { stood := { row := beamGridsUptoRow, standIns := [], harness := (true, "30c7da792f84540bb41646402ea87db8d7fa51145eabfc0ada3350d587b88c49"), looks := false }, kinds := [], alts := [], laidByText := true, laidKinds := [.data, .data, .data, .widerDeep], laidTests := true, laidLooks := .later }
def BeamGridsUptoCardSaid : Prop := Claim7.holds Tryz.pinned (.plain (OpenSpec.upto beamGridsSpec)) beamGridsUptoCard

/-- THE SECOND FORM's CARD OF 'spillagelaw06.BeamDeadlines'. -/
def beamDeadlinesUptoCard : Claim7 := { stood := { row := beamDeadlinesUptoRow, standIns := [], harness := (true, "30c7da792f84540bb41646402ea87db8d7fa51145eabfc0ada3350d587b88c49"), looks := false }, kinds := [], alts := [], laidByText := true, laidKinds := [.data, .data, .data, .widerDeep], laidTests := true, laidLooks := .later }
def BeamDeadlinesUptoCardSaid : Prop := Claim7.holds Tryz.pinned (.plain (OpenSpec.upto beamDeadlinesSpec)) beamDeadlinesUptoCard

/-- THE SECOND FORM's CARD OF 'spillagelaw06.BeamDark'. -/
def beamDarkUptoCard : Claim7 := { stood := { row := beamDarkUptoRow, standIns := [], harness := (true, "30c7da792f84540bb41646402ea87db8d7fa51145eabfc0ada3350d587b88c49"), looks := false }, kinds := [], alts := [], laidByText := true, laidKinds := [.data, .data, .data, .widerDeep], laidTests := true, laidLooks := .later }
def BeamDarkUptoCardSaid : Prop := Claim7.holds Tryz.pinned (.plain (OpenSpec.upto beamDarkSpec)) beamDarkUptoCard

/-- THE SECOND FORM's CARD OF 'spillagelaw06.BeamSectors'. -/
def beamSectorsUptoCard : Claim7 := { stood := { row := beamSectorsUptoRow, standIns := [], harness := (true, "30c7da792f84540bb41646402ea87db8d7fa51145eabfc0ada3350d587b88c49"), looks := false }, kinds := [], alts := [], laidByText := true, laidKinds := [.data, .data, .data, .widerDeep], laidTests := true, laidLooks := .later }
def BeamSectorsUptoCardSaid : Prop := Claim7.holds Tryz.pinned (.plain (OpenSpec.upto beamSectorsSpec)) beamSectorsUptoCard

/-- THE SECOND FORM's CARD OF 'spillagelaw06.BeamTexts'. -/
def beamTextsUptoCard : Claim7 := { stood := { row := beamTextsUptoRow, standIns := [], harness := (true, "30c7da792f84540bb41646402ea87db8d7fa51145eabfc0ada3350d587b88c49"), looks := false }, kinds := [], alts := [], laidByText := true, laidKinds := [.data, .data, .data, .data, .widerDeep, .pinned], laidTests := true, laidLooks := .later }
def BeamTextsUptoCardSaid : Prop := Claim7.holds Tryz.pinned (.plain (OpenSpec.upto beamTextsSpec)) beamTextsUptoCard

/-- THE SECOND FORM's CARD OF 'spillagelaw06.BeamBack'. -/
def beamBackUptoCard : Claim7 := { stood := { row := beamBackUptoRow, standIns := [], harness := (true, "30c7da792f84540bb41646402ea87db8d7fa51145eabfc0ada3350d587b88c49"), looks := false }, kinds := [], alts := [], laidByText := true, laidKinds := [.data, .data, .data, .data, .widerDeep, .pinned], laidTests := true, laidLooks := .later }
def BeamBackUptoCardSaid : Prop := Claim7.holds Tryz.pinned (.plain (OpenSpec.upto beamBackSpec)) beamBackUptoCard
end Rows
end Go.Proofs.YtehnikhicnnnhaaGreatDoor
