/-
  DERIVED. GIVEN WITH THE SEED: THE CARDS: each row of YtfjifhkgifefeaaGreatDoorRows.lean that lists a variable, with what it lists TIED to the program's text (the seventh form; the later family's looks); each row that meets fmt, with fmt's text TOLD by the authors' own Lean function (tested against real Go, not proved from fmt's source: count such statements apart). THE CARD IS WHAT COUNTS. Prove the row's statement (the work); the ties are given (YtfjifhkgifefeaaGreatDoorTie.lean); close each card by the builder's one call (the guide's Derived/Test/ToyasCard.lean, 'card_holds'). Laid BY PROGRAM, IN A SANDBOX (cutbox-door.mjs). By AI agents, Wed Nov 11 2026. No macro, syntax, notation, axiom, sorry.
-/
import Derived.Test.YtfjifhkgifefeaaGreatDoorRows
import GoSem.ClaimSeven
namespace Go.Proofs.YtfjifhkgifefeaaGreatDoor
namespace Rows

/-- THE TIED CARD OF 'fuseelaw07.CivilDays'. -/
def civilDaysCard : Claim7 := { stood := { row := civilDaysRow, standIns := [], harness := (true, "7a11dc150cbb8d51f29ed26daabc62ddac39a2ca79c7f2e257ecfa8766375817"), looks := true }, kinds := [], alts := [], laidByText := true, laidKinds := [.data, .data, .data, .data, .handle, .sentinel, .sentinel, .pinned], laidTests := true, laidLooks := .later }
def CivilDaysCardSaid : Prop := Claim7.holds Tryz.pinned (.plain (OpenSpec.ofChange civilDaysSpec)) civilDaysCard

/-- THE TIED CARD OF 'fuseelaw07.CivilTexts'. -/
def civilTextsCard : Claim7 := { stood := { row := civilTextsRow, standIns := [], harness := (true, "7a11dc150cbb8d51f29ed26daabc62ddac39a2ca79c7f2e257ecfa8766375817"), looks := true }, kinds := [], alts := [], laidByText := true, laidKinds := [.data, .data, .data, .data, .handle, .sentinel, .sentinel, .pinned], laidTests := true, laidLooks := .later }
def CivilTextsCardSaid : Prop := Claim7.holds Tryz.pinned (.plain (OpenSpec.ofChange civilTextsSpec)) civilTextsCard

/-- THE TIED CARD OF 'fuseelaw07.CivilBack'. -/
def civilBackCard : Claim7 := { stood := { row := civilBackRow, standIns := [], harness := (true, "7a11dc150cbb8d51f29ed26daabc62ddac39a2ca79c7f2e257ecfa8766375817"), looks := true }, kinds := [], alts := [], laidByText := true, laidKinds := [.data, .data, .data, .data, .handle, .sentinel, .sentinel, .pinned], laidTests := true, laidLooks := .later }
def CivilBackCardSaid : Prop := Claim7.holds Tryz.pinned (.plain (OpenSpec.ofChange civilBackSpec)) civilBackCard

/-- THE TIED CARD OF 'fuseelaw08.DaytimeSeconds'. -/
def daytimeSecondsCard : Claim7 := { stood := { row := daytimeSecondsRow, standIns := [], harness := (true, "7a11dc150cbb8d51f29ed26daabc62ddac39a2ca79c7f2e257ecfa8766375817"), looks := true }, kinds := [], alts := [], laidByText := true, laidKinds := [.data, .data, .data, .data, .handle, .sentinel, .sentinel, .pinned], laidTests := true, laidLooks := .later }
def DaytimeSecondsCardSaid : Prop := Claim7.holds Tryz.pinned (.plain (OpenSpec.ofChange daytimeSecondsSpec)) daytimeSecondsCard

/-- THE TIED CARD OF 'fuseelaw08.DaytimeStamps'. -/
def daytimeStampsCard : Claim7 := { stood := { row := daytimeStampsRow, standIns := [], harness := (true, "7a11dc150cbb8d51f29ed26daabc62ddac39a2ca79c7f2e257ecfa8766375817"), looks := true }, kinds := [], alts := [], laidByText := true, laidKinds := [.data, .data, .data, .data, .handle, .sentinel, .sentinel, .pinned], laidTests := true, laidLooks := .later }
def DaytimeStampsCardSaid : Prop := Claim7.holds Tryz.pinned (.plain (OpenSpec.ofChange daytimeStampsSpec)) daytimeStampsCard

/-- THE TIED CARD OF 'fuseelaw08.DaytimeBack'. -/
def daytimeBackCard : Claim7 := { stood := { row := daytimeBackRow, standIns := [], harness := (true, "7a11dc150cbb8d51f29ed26daabc62ddac39a2ca79c7f2e257ecfa8766375817"), looks := true }, kinds := [], alts := [], laidByText := true, laidKinds := [.data, .data, .data, .data, .handle, .sentinel, .sentinel, .pinned], laidTests := true, laidLooks := .later }
def DaytimeBackCardSaid : Prop := Claim7.holds Tryz.pinned (.plain (OpenSpec.ofChange daytimeBackSpec)) daytimeBackCard

/-- THE TIED CARD OF 'fuseelaw39.ScriptTexts'. -/
def scriptTextsCard : Claim7 := { stood := { row := scriptTextsRow, standIns := [], harness := (true, "7a11dc150cbb8d51f29ed26daabc62ddac39a2ca79c7f2e257ecfa8766375817"), looks := true }, kinds := [], alts := [], laidByText := true, laidKinds := [.data, .data, .data, .data, .handle, .sentinel, .sentinel, .pinned], laidTests := true, laidLooks := .later }
def ScriptTextsCardSaid : Prop := Claim7.holds Tryz.pinned (.plain (OpenSpec.ofChange scriptTextsSpec)) scriptTextsCard

/-- THE TIED CARD OF 'fuseelaw42.YearlyTells'. -/
def yearlyTellsCard : Claim7 := { stood := { row := yearlyTellsRow, standIns := [], harness := (true, "7a11dc150cbb8d51f29ed26daabc62ddac39a2ca79c7f2e257ecfa8766375817"), looks := true }, kinds := [], alts := [], laidByText := true, laidKinds := [.data, .data, .data, .data, .handle, .sentinel, .sentinel, .pinned], laidTests := true, laidLooks := .later }
def YearlyTellsCardSaid : Prop := Claim7.holds Tryz.pinned (.plain (OpenSpec.ofChange yearlyTellsSpec)) yearlyTellsCard

/-- THE TIED CARD OF 'fuseelaw42.YearlyDays'. -/
def yearlyDaysCard : Claim7 := { stood := { row := yearlyDaysRow, standIns := [], harness := (true, "7a11dc150cbb8d51f29ed26daabc62ddac39a2ca79c7f2e257ecfa8766375817"), looks := true }, kinds := [], alts := [], laidByText := true, laidKinds := [.data, .data, .data, .data, .handle, .sentinel, .sentinel, .pinned], laidTests := true, laidLooks := .later }
def YearlyDaysCardSaid : Prop := Claim7.holds Tryz.pinned (.plain (OpenSpec.ofChange yearlyDaysSpec)) yearlyDaysCard

/-- THE TIED CARD OF 'fuseelaw43.ToldTexts'. -/
def toldTextsCard : Claim7 := { stood := { row := toldTextsRow, standIns := [], harness := (true, "7a11dc150cbb8d51f29ed26daabc62ddac39a2ca79c7f2e257ecfa8766375817"), looks := true }, kinds := [], alts := [], laidByText := true, laidKinds := [.data, .data, .data, .data, .handle, .sentinel, .sentinel, .pinned], laidTests := true, laidLooks := .later }
def ToldTextsCardSaid : Prop := Claim7.holds Tryz.pinned (.plain (OpenSpec.ofChange toldTextsSpec)) toldTextsCard

/-- THE TIED CARD OF 'fuseelaw43.ToldBack'. -/
def toldBackCard : Claim7 := { stood := { row := toldBackRow, standIns := [], harness := (true, "7a11dc150cbb8d51f29ed26daabc62ddac39a2ca79c7f2e257ecfa8766375817"), looks := true }, kinds := [], alts := [], laidByText := true, laidKinds := [.data, .data, .data, .data, .handle, .sentinel, .sentinel, .pinned], laidTests := true, laidLooks := .later }
def ToldBackCardSaid : Prop := Claim7.holds Tryz.pinned (.plain (OpenSpec.ofChange toldBackSpec)) toldBackCard

/-- THE SECOND FORM's CARD OF 'fuseelaw07.CivilDays'. -/
def civilDaysUptoCard : Claim7 := { stood := { row := civilDaysUptoRow, standIns := [], harness := (true, "7a11dc150cbb8d51f29ed26daabc62ddac39a2ca79c7f2e257ecfa8766375817"), looks := true }, kinds := [], alts := [], laidByText := true, laidKinds := [.data, .data, .data, .data, .handle, .sentinel, .sentinel, .pinned], laidTests := true, laidLooks := .later }
def CivilDaysUptoCardSaid : Prop := Claim7.holds Tryz.pinned (.plain (OpenSpec.upto civilDaysSpec)) civilDaysUptoCard

/-- THE SECOND FORM's CARD OF 'fuseelaw07.CivilTexts'. -/
def civilTextsUptoCard : Claim7 := { stood := { row := civilTextsUptoRow, standIns := [], harness := (true, "7a11dc150cbb8d51f29ed26daabc62ddac39a2ca79c7f2e257ecfa8766375817"), looks := true }, kinds := [], alts := [], laidByText := true, laidKinds := [.data, .data, .data, .data, .handle, .sentinel, .sentinel, .pinned], laidTests := true, laidLooks := .later }
def CivilTextsUptoCardSaid : Prop := Claim7.holds Tryz.pinned (.plain (OpenSpec.upto civilTextsSpec)) civilTextsUptoCard

/-- THE SECOND FORM's CARD OF 'fuseelaw07.CivilBack'. -/
def civilBackUptoCard : Claim7 := { stood := { row := civilBackUptoRow, standIns := [], harness := (true, "7a11dc150cbb8d51f29ed26daabc62ddac39a2ca79c7f2e257ecfa8766375817"), looks := true }, kinds := [], alts := [], laidByText := true, laidKinds := [.data, .data, .data, .data, .handle, .sentinel, .sentinel, .pinned], laidTests := true, laidLooks := .later }
def CivilBackUptoCardSaid : Prop := Claim7.holds Tryz.pinned (.plain (OpenSpec.upto civilBackSpec)) civilBackUptoCard

/-- THE SECOND FORM's CARD OF 'fuseelaw08.DaytimeSeconds'. -/
def daytimeSecondsUptoCard : Claim7 := { stood := { row := daytimeSecondsUptoRow, standIns := [], harness := (true, "7a11dc150cbb8d51f29ed26daabc62ddac39a2ca79c7f2e257ecfa8766375817"), looks := true }, kinds := [], alts := [], laidByText := true, laidKinds := [.data, .data, .data, .data, .handle, .sentinel, .sentinel, .pinned], laidTests := true, laidLooks := .later }
def DaytimeSecondsUptoCardSaid : Prop := Claim7.holds Tryz.pinned (.plain (OpenSpec.upto daytimeSecondsSpec)) daytimeSecondsUptoCard

/-- THE SECOND FORM's CARD OF 'fuseelaw08.DaytimeStamps'. -/
def daytimeStampsUptoCard : Claim7 := { stood := { row := daytimeStampsUptoRow, standIns := [], harness := (true, "7a11dc150cbb8d51f29ed26daabc62ddac39a2ca79c7f2e257ecfa8766375817"), looks := true }, kinds := [], alts := [], laidByText := true, laidKinds := [.data, .data, .data, .data, .handle, .sentinel, .sentinel, .pinned], laidTests := true, laidLooks := .later }
def DaytimeStampsUptoCardSaid : Prop := Claim7.holds Tryz.pinned (.plain (OpenSpec.upto daytimeStampsSpec)) daytimeStampsUptoCard

/-- THE SECOND FORM's CARD OF 'fuseelaw08.DaytimeBack'. -/
def daytimeBackUptoCard : Claim7 := { stood := { row := daytimeBackUptoRow, standIns := [], harness := (true, "7a11dc150cbb8d51f29ed26daabc62ddac39a2ca79c7f2e257ecfa8766375817"), looks := true }, kinds := [], alts := [], laidByText := true, laidKinds := [.data, .data, .data, .data, .handle, .sentinel, .sentinel, .pinned], laidTests := true, laidLooks := .later }
def DaytimeBackUptoCardSaid : Prop := Claim7.holds Tryz.pinned (.plain (OpenSpec.upto daytimeBackSpec)) daytimeBackUptoCard

/-- THE SECOND FORM's CARD OF 'fuseelaw39.ScriptTexts'. -/
def scriptTextsUptoCard : Claim7 := { stood := { row := scriptTextsUptoRow, standIns := [], harness := (true, "7a11dc150cbb8d51f29ed26daabc62ddac39a2ca79c7f2e257ecfa8766375817"), looks := true }, kinds := [], alts := [], laidByText := true, laidKinds := [.data, .data, .data, .data, .handle, .sentinel, .sentinel, .pinned], laidTests := true, laidLooks := .later }
def ScriptTextsUptoCardSaid : Prop := Claim7.holds Tryz.pinned (.plain (OpenSpec.upto scriptTextsSpec)) scriptTextsUptoCard

/-- THE SECOND FORM's CARD OF 'fuseelaw42.YearlyTells'. -/
def yearlyTellsUptoCard : Claim7 := { stood := { row := yearlyTellsUptoRow, standIns := [], harness := (true, "7a11dc150cbb8d51f29ed26daabc62ddac39a2ca79c7f2e257ecfa8766375817"), looks := true }, kinds := [], alts := [], laidByText := true, laidKinds := [.data, .data, .data, .data, .handle, .sentinel, .sentinel, .pinned], laidTests := true, laidLooks := .later }
def YearlyTellsUptoCardSaid : Prop := Claim7.holds Tryz.pinned (.plain (OpenSpec.upto yearlyTellsSpec)) yearlyTellsUptoCard

/-- THE SECOND FORM's CARD OF 'fuseelaw42.YearlyDays'. -/
def yearlyDaysUptoCard : Claim7 := { stood := { row := yearlyDaysUptoRow, standIns := [], harness := (true, "7a11dc150cbb8d51f29ed26daabc62ddac39a2ca79c7f2e257ecfa8766375817"), looks := true }, kinds := [], alts := [], laidByText := true, laidKinds := [.data, .data, .data, .data, .handle, .sentinel, .sentinel, .pinned], laidTests := true, laidLooks := .later }
def YearlyDaysUptoCardSaid : Prop := Claim7.holds Tryz.pinned (.plain (OpenSpec.upto yearlyDaysSpec)) yearlyDaysUptoCard

/-- THE SECOND FORM's CARD OF 'fuseelaw43.ToldTexts'. -/
def toldTextsUptoCard : Claim7 := { stood := { row := toldTextsUptoRow, standIns := [], harness := (true, "7a11dc150cbb8d51f29ed26daabc62ddac39a2ca79c7f2e257ecfa8766375817"), looks := true }, kinds := [], alts := [], laidByText := true, laidKinds := [.data, .data, .data, .data, .handle, .sentinel, .sentinel, .pinned], laidTests := true, laidLooks := .later }
def ToldTextsUptoCardSaid : Prop := Claim7.holds Tryz.pinned (.plain (OpenSpec.upto toldTextsSpec)) toldTextsUptoCard

/-- THE SECOND FORM's CARD OF 'fuseelaw43.ToldBack'. -/
def toldBackUptoCard : Claim7 := { stood := { row := toldBackUptoRow, standIns := [], harness := (true, "7a11dc150cbb8d51f29ed26daabc62ddac39a2ca79c7f2e257ecfa8766375817"), looks := true }, kinds := [], alts := [], laidByText := true, laidKinds := [.data, .data, .data, .data, .handle, .sentinel, .sentinel, .pinned], laidTests := true, laidLooks := .later }
def ToldBackUptoCardSaid : Prop := Claim7.holds Tryz.pinned (.plain (OpenSpec.upto toldBackSpec)) toldBackUptoCard
end Rows
end Go.Proofs.YtfjifhkgifefeaaGreatDoor
