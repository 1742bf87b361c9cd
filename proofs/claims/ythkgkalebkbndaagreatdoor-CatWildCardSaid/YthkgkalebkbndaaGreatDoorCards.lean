/-
  DERIVED. GIVEN WITH THE SEED: THE CARDS: each row of YthkgkalebkbndaaGreatDoorRows.lean that lists a variable, with what it lists TIED to the program's text (the seventh form; the later family's looks); each row that meets fmt, with fmt's text TOLD by the authors' own Lean function (tested against real Go, not proved from fmt's source: count such statements apart). THE CARD IS WHAT COUNTS. Prove the row's statement (the work); the ties are given (YthkgkalebkbndaaGreatDoorTie.lean); close each card by the builder's one call (the guide's Derived/Test/ToyasCard.lean, 'card_holds'). Laid BY PROGRAM, IN A SANDBOX (cutbox-door.mjs). By AI agents, Wed Nov 11 2026. No macro, syntax, notation, axiom, sorry.
-/
import Derived.Test.YthkgkalebkbndaaGreatDoorRows
import GoSem.ClaimSeven
namespace Go.Proofs.YthkgkalebkbndaaGreatDoor
namespace Rows

/-- THE TIED CARD OF 'rabbetlaw22.CatAll'. -/
def catAllCard : Claim7 := { stood := { row := catAllRow, standIns := [], harness := (true, "25001fc4f88fc3990f4a5ec61b57aab70e4f2d2b102a66536a9f88c6346e4765"), looks := true }, kinds := [], alts := [], laidByText := true, laidKinds := [.sentinel, .sentinel, .sentinel, .sentinel, .sentinel, .sentinel, .sentinel, .sentinel], laidTests := true, laidLooks := .later }
def CatAllCardSaid : Prop := Claim7.holds Tryz.pinned (.plain (OpenSpec.ofChange catAllSpec)) catAllCard

/-- THE TIED CARD OF 'rabbetlaw22.CatTake'. -/
def catTakeCard : Claim7 := { stood := { row := catTakeRow, standIns := [], harness := (true, "25001fc4f88fc3990f4a5ec61b57aab70e4f2d2b102a66536a9f88c6346e4765"), looks := true }, kinds := [], alts := [], laidByText := true, laidKinds := [.sentinel, .sentinel, .sentinel, .sentinel, .sentinel, .sentinel, .sentinel, .sentinel], laidTests := true, laidLooks := .later }
def CatTakeCardSaid : Prop := Claim7.holds Tryz.pinned (.plain (OpenSpec.ofChange catTakeSpec)) catTakeCard

/-- THE TIED CARD OF 'rabbetlaw22.CatWild'. -/
def catWildCard : Claim7 := { stood := { row := catWildRow, standIns := [], harness := (true, "25001fc4f88fc3990f4a5ec61b57aab70e4f2d2b102a66536a9f88c6346e4765"), looks := true }, kinds := [], alts := [], laidByText := true, laidKinds := [.sentinel, .sentinel, .sentinel, .sentinel, .sentinel, .sentinel, .sentinel, .sentinel], laidTests := true, laidLooks := .later }
def CatWildCardSaid : Prop := Claim7.holds Tryz.pinned (.plain (OpenSpec.ofChange catWildSpec)) catWildCard

/-- THE TIED CARD OF 'rabbetlaw22.CatOnce'. -/
def catOnceCard : Claim7 := { stood := { row := catOnceRow, standIns := [], harness := (true, "25001fc4f88fc3990f4a5ec61b57aab70e4f2d2b102a66536a9f88c6346e4765"), looks := true }, kinds := [], alts := [], laidByText := true, laidKinds := [.sentinel, .sentinel, .sentinel, .sentinel, .sentinel, .sentinel, .sentinel, .sentinel], laidTests := true, laidLooks := .later }
def CatOnceCardSaid : Prop := Claim7.holds Tryz.pinned (.plain (OpenSpec.ofChange catOnceSpec)) catOnceCard

/-- THE TIED CARD OF 'rabbetlaw17.SegAll'. -/
def segAllCard : Claim7 := { stood := { row := segAllRow, standIns := [], harness := (true, "25001fc4f88fc3990f4a5ec61b57aab70e4f2d2b102a66536a9f88c6346e4765"), looks := true }, kinds := [], alts := [], laidByText := true, laidKinds := [.handle, .sentinel, .sentinel, .sentinel, .sentinel, .sentinel, .sentinel, .sentinel, .sentinel, .sentinel], laidTests := true, laidLooks := .later }
def SegAllCardSaid : Prop := Claim7.holds Tryz.pinned (.plain (OpenSpec.ofChange segAllSpec)) segAllCard

/-- THE TIED CARD OF 'rabbetlaw17.SegBack'. -/
def segBackCard : Claim7 := { stood := { row := segBackRow, standIns := [], harness := (true, "25001fc4f88fc3990f4a5ec61b57aab70e4f2d2b102a66536a9f88c6346e4765"), looks := true }, kinds := [], alts := [], laidByText := true, laidKinds := [.handle, .sentinel, .sentinel, .sentinel, .sentinel, .sentinel, .sentinel, .sentinel, .sentinel, .sentinel], laidTests := true, laidLooks := .later }
def SegBackCardSaid : Prop := Claim7.holds Tryz.pinned (.plain (OpenSpec.ofChange segBackSpec)) segBackCard

/-- THE TIED CARD OF 'rabbetlaw17.SegTurned'. -/
def segTurnedCard : Claim7 := { stood := { row := segTurnedRow, standIns := [], harness := (true, "25001fc4f88fc3990f4a5ec61b57aab70e4f2d2b102a66536a9f88c6346e4765"), looks := true }, kinds := [], alts := [], laidByText := true, laidKinds := [.handle, .sentinel, .sentinel, .sentinel, .sentinel, .sentinel, .sentinel, .sentinel, .sentinel, .sentinel], laidTests := true, laidLooks := .later }
def SegTurnedCardSaid : Prop := Claim7.holds Tryz.pinned (.plain (OpenSpec.ofChange segTurnedSpec)) segTurnedCard

/-- THE TIED CARD OF 'rabbetlaw17.SegTrue'. -/
def segTrueCard : Claim7 := { stood := { row := segTrueRow, standIns := [], harness := (true, "25001fc4f88fc3990f4a5ec61b57aab70e4f2d2b102a66536a9f88c6346e4765"), looks := true }, kinds := [], alts := [], laidByText := true, laidKinds := [.handle, .sentinel, .sentinel, .sentinel, .sentinel, .sentinel, .sentinel, .sentinel, .sentinel, .sentinel], laidTests := true, laidLooks := .later }
def SegTrueCardSaid : Prop := Claim7.holds Tryz.pinned (.plain (OpenSpec.ofChange segTrueSpec)) segTrueCard

/-- THE TIED CARD OF 'rabbetlaw17.SegForms'. -/
def segFormsCard : Claim7 := { stood := { row := segFormsRow, standIns := [], harness := (true, "25001fc4f88fc3990f4a5ec61b57aab70e4f2d2b102a66536a9f88c6346e4765"), looks := true }, kinds := [], alts := [], laidByText := true, laidKinds := [.handle, .sentinel, .sentinel, .sentinel, .sentinel, .sentinel, .sentinel, .sentinel, .sentinel, .sentinel], laidTests := true, laidLooks := .later }
def SegFormsCardSaid : Prop := Claim7.holds Tryz.pinned (.plain (OpenSpec.ofChange segFormsSpec)) segFormsCard

/-- THE SECOND FORM's CARD OF 'rabbetlaw22.CatAll'. -/
def catAllUptoCard : Claim7 := { stood := { row := catAllUptoRow, standIns := [], harness := (true, "25001fc4f88fc3990f4a5ec61b57aab70e4f2d2b102a66536a9f88c6346e4765"), looks := true }, kinds := [], alts := [], laidByText := true, laidKinds := [.sentinel, .sentinel, .sentinel, .sentinel, .sentinel, .sentinel, .sentinel, .sentinel], laidTests := true, laidLooks := .later }
def CatAllUptoCardSaid : Prop := Claim7.holds Tryz.pinned (.plain (OpenSpec.upto catAllSpec)) catAllUptoCard

/-- THE SECOND FORM's CARD OF 'rabbetlaw22.CatTake'. -/
def catTakeUptoCard : Claim7 := { stood := { row := catTakeUptoRow, standIns := [], harness := (true, "25001fc4f88fc3990f4a5ec61b57aab70e4f2d2b102a66536a9f88c6346e4765"), looks := true }, kinds := [], alts := [], laidByText := true, laidKinds := [.sentinel, .sentinel, .sentinel, .sentinel, .sentinel, .sentinel, .sentinel, .sentinel], laidTests := true, laidLooks := .later }
def CatTakeUptoCardSaid : Prop := Claim7.holds Tryz.pinned (.plain (OpenSpec.upto catTakeSpec)) catTakeUptoCard

/-- THE SECOND FORM's CARD OF 'rabbetlaw22.CatWild'. -/
def catWildUptoCard : Claim7 := { stood := { row := catWildUptoRow, standIns := [], harness := (true, "25001fc4f88fc3990f4a5ec61b57aab70e4f2d2b102a66536a9f88c6346e4765"), looks := true }, kinds := [], alts := [], laidByText := true, laidKinds := [.sentinel, .sentinel, .sentinel, .sentinel, .sentinel, .sentinel, .sentinel, .sentinel], laidTests := true, laidLooks := .later }
def CatWildUptoCardSaid : Prop := Claim7.holds Tryz.pinned (.plain (OpenSpec.upto catWildSpec)) catWildUptoCard

/-- THE SECOND FORM's CARD OF 'rabbetlaw22.CatOnce'. -/
def catOnceUptoCard : Claim7 := { stood := { row := catOnceUptoRow, standIns := [], harness := (true, "25001fc4f88fc3990f4a5ec61b57aab70e4f2d2b102a66536a9f88c6346e4765"), looks := true }, kinds := [], alts := [], laidByText := true, laidKinds := [.sentinel, .sentinel, .sentinel, .sentinel, .sentinel, .sentinel, .sentinel, .sentinel], laidTests := true, laidLooks := .later }
def CatOnceUptoCardSaid : Prop := Claim7.holds Tryz.pinned (.plain (OpenSpec.upto catOnceSpec)) catOnceUptoCard

/-- THE SECOND FORM's CARD OF 'rabbetlaw17.SegAll'. -/
def segAllUptoCard : Claim7 := { stood := { row := segAllUptoRow, standIns := [], harness := (true, "25001fc4f88fc3990f4a5ec61b57aab70e4f2d2b102a66536a9f88c6346e4765"), looks := true }, kinds := [], alts := [], laidByText := true, laidKinds := [.handle, .sentinel, .sentinel, .sentinel, .sentinel, .sentinel, .sentinel, .sentinel, .sentinel, .sentinel], laidTests := true, laidLooks := .later }
def SegAllUptoCardSaid : Prop := Claim7.holds Tryz.pinned (.plain (OpenSpec.upto segAllSpec)) segAllUptoCard

/-- THE SECOND FORM's CARD OF 'rabbetlaw17.SegBack'. -/
def segBackUptoCard : Claim7 := { stood := { row := segBackUptoRow, standIns := [], harness := (true, "25001fc4f88fc3990f4a5ec61b57aab70e4f2d2b102a66536a9f88c6346e4765"), looks := true }, kinds := [], alts := [], laidByText := true, laidKinds := [.handle, .sentinel, .sentinel, .sentinel, .sentinel, .sentinel, .sentinel, .sentinel, .sentinel, .sentinel], laidTests := true, laidLooks := .later }
def SegBackUptoCardSaid : Prop := Claim7.holds Tryz.pinned (.plain (OpenSpec.upto segBackSpec)) segBackUptoCard

/-- THE SECOND FORM's CARD OF 'rabbetlaw17.SegTurned'. -/
def segTurnedUptoCard : Claim7 := { stood := { row := segTurnedUptoRow, standIns := [], harness := (true, "25001fc4f88fc3990f4a5ec61b57aab70e4f2d2b102a66536a9f88c6346e4765"), looks := true }, kinds := [], alts := [], laidByText := true, laidKinds := [.handle, .sentinel, .sentinel, .sentinel, .sentinel, .sentinel, .sentinel, .sentinel, .sentinel, .sentinel], laidTests := true, laidLooks := .later }
def SegTurnedUptoCardSaid : Prop := Claim7.holds Tryz.pinned (.plain (OpenSpec.upto segTurnedSpec)) segTurnedUptoCard

/-- THE SECOND FORM's CARD OF 'rabbetlaw17.SegTrue'. -/
def segTrueUptoCard : Claim7 := { stood := { row := segTrueUptoRow, standIns := [], harness := (true, "25001fc4f88fc3990f4a5ec61b57aab70e4f2d2b102a66536a9f88c6346e4765"), looks := true }, kinds := [], alts := [], laidByText := true, laidKinds := [.handle, .sentinel, .sentinel, .sentinel, .sentinel, .sentinel, .sentinel, .sentinel, .sentinel, .sentinel], laidTests := true, laidLooks := .later }
def SegTrueUptoCardSaid : Prop := Claim7.holds Tryz.pinned (.plain (OpenSpec.upto segTrueSpec)) segTrueUptoCard

/-- THE SECOND FORM's CARD OF 'rabbetlaw17.SegForms'. -/
def segFormsUptoCard : Claim7 := { stood := { row := segFormsUptoRow, standIns := [], harness := (true, "25001fc4f88fc3990f4a5ec61b57aab70e4f2d2b102a66536a9f88c6346e4765"), looks := true }, kinds := [], alts := [], laidByText := true, laidKinds := [.handle, .sentinel, .sentinel, .sentinel, .sentinel, .sentinel, .sentinel, .sentinel, .sentinel, .sentinel], laidTests := true, laidLooks := .later }
def SegFormsUptoCardSaid : Prop := Claim7.holds Tryz.pinned (.plain (OpenSpec.upto segFormsSpec)) segFormsUptoCard
end Rows
end Go.Proofs.YthkgkalebkbndaaGreatDoor
