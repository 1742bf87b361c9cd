/-
  DERIVED. GIVEN WITH THE SEED: THE CARDS: each row of YtpkgjjdalliggaaGreatDoorRows.lean that lists a variable, with what it lists TIED to the program's text (the seventh form; the later family's looks); each row that meets fmt, with fmt's text TOLD by the authors' own Lean function (tested against real Go, not proved from fmt's source: count such statements apart). THE CARD IS WHAT COUNTS. Prove the row's statement (the work); the ties are given (YtpkgjjdalliggaaGreatDoorTie.lean); close each card by the builder's one call (the guide's Derived/Test/ToyasCard.lean, 'card_holds'). Laid BY PROGRAM, IN A SANDBOX (cutbox-door.mjs). By AI agents, Wed Nov 11 2026. No macro, syntax, notation, axiom, sorry.
-/
import Derived.Test.YtpkgjjdalliggaaGreatDoorRows
import GoSem.ClaimSeven
namespace Go.Proofs.YtpkgjjdalliggaaGreatDoor
namespace Rows

/-- THE TIED CARD OF 'rabbetlaw7.DictAll'. -/
def dictAllCard : Claim7 := { stood := { row := dictAllRow, standIns := [], harness := (true, "29378834b4a12b795c6ef6c89a59be7e2ceda101b8def5c7b40239596717662f"), looks := true }, kinds := [], alts := [], laidByText := true, laidKinds := [.sentinel, .sentinel, .sentinel], laidTests := true, laidLooks := .later }
def DictAllCardSaid : Prop := Claim7.holds Tryz.pinned (.plain (OpenSpec.ofChange dictAllSpec)) dictAllCard

/-- THE TIED CARD OF 'rabbetlaw7.DictTurned'. -/
def dictTurnedCard : Claim7 := { stood := { row := dictTurnedRow, standIns := [], harness := (true, "29378834b4a12b795c6ef6c89a59be7e2ceda101b8def5c7b40239596717662f"), looks := true }, kinds := [], alts := [], laidByText := true, laidKinds := [.sentinel, .sentinel, .sentinel], laidTests := true, laidLooks := .later }
def DictTurnedCardSaid : Prop := Claim7.holds Tryz.pinned (.plain (OpenSpec.ofChange dictTurnedSpec)) dictTurnedCard

/-- THE TIED CARD OF 'rabbetlaw10.ColumnAll'. -/
def columnAllCard : Claim7 := { stood := { row := columnAllRow, standIns := [], harness := (true, "29378834b4a12b795c6ef6c89a59be7e2ceda101b8def5c7b40239596717662f"), looks := true }, kinds := [], alts := [], laidByText := true, laidKinds := [.sentinel, .sentinel, .sentinel, .sentinel, .sentinel, .sentinel, .sentinel, .sentinel], laidTests := true, laidLooks := .later }
def ColumnAllCardSaid : Prop := Claim7.holds Tryz.pinned (.plain (OpenSpec.ofChange columnAllSpec)) columnAllCard

/-- THE TIED CARD OF 'rabbetlaw10.ColumnBack'. -/
def columnBackCard : Claim7 := { stood := { row := columnBackRow, standIns := [], harness := (true, "29378834b4a12b795c6ef6c89a59be7e2ceda101b8def5c7b40239596717662f"), looks := true }, kinds := [], alts := [], laidByText := true, laidKinds := [.sentinel, .sentinel, .sentinel, .sentinel, .sentinel, .sentinel, .sentinel, .sentinel], laidTests := true, laidLooks := .later }
def ColumnBackCardSaid : Prop := Claim7.holds Tryz.pinned (.plain (OpenSpec.ofChange columnBackSpec)) columnBackCard

/-- THE TIED CARD OF 'rabbetlaw10.ColumnTurned'. -/
def columnTurnedCard : Claim7 := { stood := { row := columnTurnedRow, standIns := [], harness := (true, "29378834b4a12b795c6ef6c89a59be7e2ceda101b8def5c7b40239596717662f"), looks := true }, kinds := [], alts := [], laidByText := true, laidKinds := [.sentinel, .sentinel, .sentinel, .sentinel, .sentinel, .sentinel, .sentinel, .sentinel], laidTests := true, laidLooks := .later }
def ColumnTurnedCardSaid : Prop := Claim7.holds Tryz.pinned (.plain (OpenSpec.ofChange columnTurnedSpec)) columnTurnedCard

/-- THE TIED CARD OF 'rabbetlaw10.ColumnForms'. -/
def columnFormsCard : Claim7 := { stood := { row := columnFormsRow, standIns := [], harness := (true, "29378834b4a12b795c6ef6c89a59be7e2ceda101b8def5c7b40239596717662f"), looks := true }, kinds := [], alts := [], laidByText := true, laidKinds := [.sentinel, .sentinel, .sentinel, .sentinel, .sentinel, .sentinel, .sentinel, .sentinel], laidTests := true, laidLooks := .later }
def ColumnFormsCardSaid : Prop := Claim7.holds Tryz.pinned (.plain (OpenSpec.ofChange columnFormsSpec)) columnFormsCard

/-- THE SECOND FORM's CARD OF 'rabbetlaw7.DictAll'. -/
def dictAllUptoCard : Claim7 := { stood := { row := dictAllUptoRow, standIns := [], harness := (true, "29378834b4a12b795c6ef6c89a59be7e2ceda101b8def5c7b40239596717662f"), looks := true }, kinds := [], alts := [], laidByText := true, laidKinds := [.sentinel, .sentinel, .sentinel], laidTests := true, laidLooks := .later }
def DictAllUptoCardSaid : Prop := Claim7.holds Tryz.pinned (.plain (OpenSpec.upto dictAllSpec)) dictAllUptoCard

/-- THE SECOND FORM's CARD OF 'rabbetlaw7.DictTurned'. -/
def dictTurnedUptoCard : Claim7 := { stood := { row := dictTurnedUptoRow, standIns := [], harness := (true, "29378834b4a12b795c6ef6c89a59be7e2ceda101b8def5c7b40239596717662f"), looks := true }, kinds := [], alts := [], laidByText := true, laidKinds := [.sentinel, .sentinel, .sentinel], laidTests := true, laidLooks := .later }
def DictTurnedUptoCardSaid : Prop := Claim7.holds Tryz.pinned (.plain (OpenSpec.upto dictTurnedSpec)) dictTurnedUptoCard

/-- THE SECOND FORM's CARD OF 'rabbetlaw10.ColumnAll'. -/
def columnAllUptoCard : Claim7 := { stood := { row := columnAllUptoRow, standIns := [], harness := (true, "29378834b4a12b795c6ef6c89a59be7e2ceda101b8def5c7b40239596717662f"), looks := true }, kinds := [], alts := [], laidByText := true, laidKinds := [.sentinel, .sentinel, .sentinel, .sentinel, .sentinel, .sentinel, .sentinel, .sentinel], laidTests := true, laidLooks := .later }
def ColumnAllUptoCardSaid : Prop := Claim7.holds Tryz.pinned (.plain (OpenSpec.upto columnAllSpec)) columnAllUptoCard

/-- THE SECOND FORM's CARD OF 'rabbetlaw10.ColumnBack'. -/
def columnBackUptoCard : Claim7 := { stood := { row := columnBackUptoRow, standIns := [], harness := (true, "29378834b4a12b795c6ef6c89a59be7e2ceda101b8def5c7b40239596717662f"), looks := true }, kinds := [], alts := [], laidByText := true, laidKinds := [.sentinel, .sentinel, .sentinel, .sentinel, .sentinel, .sentinel, .sentinel, .sentinel], laidTests := true, laidLooks := .later }
def ColumnBackUptoCardSaid : Prop := Claim7.holds Tryz.pinned (.plain (OpenSpec.upto columnBackSpec)) columnBackUptoCard

/-- THE SECOND FORM's CARD OF 'rabbetlaw10.ColumnTurned'. -/
def columnTurnedUptoCard : Claim7 := { stood := { row := columnTurnedUptoRow, standIns := [], harness := (true, "29378834b4a12b795c6ef6c89a59be7e2ceda101b8def5c7b40239596717662f"), looks := true }, kinds := [], alts := [], laidByText := true, laidKinds := [.sentinel, .sentinel, .sentinel, .sentinel, .sentinel, .sentinel, .sentinel, .sentinel], laidTests := true, laidLooks := .later }
def ColumnTurnedUptoCardSaid : Prop := Claim7.holds Tryz.pinned (.plain (OpenSpec.upto columnTurnedSpec)) columnTurnedUptoCard

/-- THE SECOND FORM's CARD OF 'rabbetlaw10.ColumnForms'. -/
def columnFormsUptoCard : Claim7 := { stood := { row := columnFormsUptoRow, standIns := [], harness := (true, "29378834b4a12b795c6ef6c89a59be7e2ceda101b8def5c7b40239596717662f"), looks := true }, kinds := [], alts := [], laidByText := true, laidKinds := [.sentinel, .sentinel, .sentinel, .sentinel, .sentinel, .sentinel, .sentinel, .sentinel], laidTests := true, laidLooks := .later }
def ColumnFormsUptoCardSaid : Prop := Claim7.holds Tryz.pinned (.plain (OpenSpec.upto columnFormsSpec)) columnFormsUptoCard
end Rows
end Go.Proofs.YtpkgjjdalliggaaGreatDoor
