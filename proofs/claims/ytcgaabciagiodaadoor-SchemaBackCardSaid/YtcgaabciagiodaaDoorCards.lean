/-
  DERIVED. GIVEN WITH THE SEED: THE CARDS: each row of YtcgaabciagiodaaDoorRows.lean that lists a variable, with what it lists TIED to the program's text (the seventh form; the later family's looks); each row that meets fmt, with fmt's text TOLD by the authors' own Lean function (tested against real Go, not proved from fmt's source: count such statements apart). THE CARD IS WHAT COUNTS. Prove the row's statement (the work); the ties are given (YtcgaabciagiodaaDoorTie.lean); close each card by the builder's one call (the guide's Derived/Test/ToyasCard.lean, 'card_holds'). Laid BY PROGRAM, IN A SANDBOX (cutbox-door.mjs). By AI agents, Wed Nov 11 2026. No macro, syntax, notation, axiom, sorry.
-/
import Derived.Test.YtcgaabciagiodaaDoorRows
import GoSem.ClaimSeven
namespace Go.Proofs.YtcgaabciagiodaaDoor
namespace Rows

/-- THE TIED CARD OF 'rabbetlaw15.SchemaAll'. -/
def schemaAllCard : Claim7 := { stood := { row := schemaAllRow, standIns := [], harness := (true, "a1c9ff7e4dfecbccb58ba0dd1e4aba3453562e306196c2ba6a6747dc28b90ce8"), looks := true }, kinds := [], alts := [], laidByText := true, laidKinds := [.sentinel, .sentinel, .sentinel, .sentinel, .sentinel], laidTests := true, laidLooks := .later }
def SchemaAllCardSaid : Prop := Claim7.holds Tryd.pinned (.plain (OpenSpec.ofChange schemaAllSpec)) schemaAllCard

/-- THE TIED CARD OF 'rabbetlaw15.SchemaStays'. -/
def schemaStaysCard : Claim7 := { stood := { row := schemaStaysRow, standIns := [], harness := (true, "a1c9ff7e4dfecbccb58ba0dd1e4aba3453562e306196c2ba6a6747dc28b90ce8"), looks := true }, kinds := [], alts := [], laidByText := true, laidKinds := [.sentinel, .sentinel, .sentinel, .sentinel, .sentinel], laidTests := true, laidLooks := .later }
def SchemaStaysCardSaid : Prop := Claim7.holds Tryd.pinned (.plain (OpenSpec.ofChange schemaStaysSpec)) schemaStaysCard

/-- THE TIED CARD OF 'rabbetlaw15.SchemaBack'. -/
def schemaBackCard : Claim7 := { stood := { row := schemaBackRow, standIns := [], harness := (true, "a1c9ff7e4dfecbccb58ba0dd1e4aba3453562e306196c2ba6a6747dc28b90ce8"), looks := true }, kinds := [], alts := [], laidByText := true, laidKinds := [.sentinel, .sentinel, .sentinel, .sentinel, .sentinel], laidTests := true, laidLooks := .later }
def SchemaBackCardSaid : Prop := Claim7.holds Tryd.pinned (.plain (OpenSpec.ofChange schemaBackSpec)) schemaBackCard

/-- THE TIED CARD OF 'rabbetlaw15.SchemaForms'. -/
def schemaFormsCard : Claim7 := { stood := { row := schemaFormsRow, standIns := [], harness := (true, "a1c9ff7e4dfecbccb58ba0dd1e4aba3453562e306196c2ba6a6747dc28b90ce8"), looks := true }, kinds := [], alts := [], laidByText := true, laidKinds := [.sentinel, .sentinel, .sentinel, .sentinel, .sentinel], laidTests := true, laidLooks := .later }
def SchemaFormsCardSaid : Prop := Claim7.holds Tryd.pinned (.plain (OpenSpec.ofChange schemaFormsSpec)) schemaFormsCard

/-- THE TIED CARD OF 'rabbetlaw15.SchemaIDs'. -/
def schemaIDsCard : Claim7 := { stood := { row := schemaIDsRow, standIns := [], harness := (true, "a1c9ff7e4dfecbccb58ba0dd1e4aba3453562e306196c2ba6a6747dc28b90ce8"), looks := true }, kinds := [], alts := [], laidByText := true, laidKinds := [.sentinel, .sentinel, .sentinel, .sentinel, .sentinel], laidTests := true, laidLooks := .later }
def SchemaIDsCardSaid : Prop := Claim7.holds Tryd.pinned (.plain (OpenSpec.ofChange schemaIDsSpec)) schemaIDsCard

/-- THE SECOND FORM's CARD OF 'rabbetlaw15.SchemaAll'. -/
def schemaAllUptoCard : Claim7 := { stood := { row := schemaAllUptoRow, standIns := [], harness := (true, "a1c9ff7e4dfecbccb58ba0dd1e4aba3453562e306196c2ba6a6747dc28b90ce8"), looks := true }, kinds := [], alts := [], laidByText := true, laidKinds := [.sentinel, .sentinel, .sentinel, .sentinel, .sentinel], laidTests := true, laidLooks := .later }
def SchemaAllUptoCardSaid : Prop := Claim7.holds Tryd.pinned (.plain (OpenSpec.upto schemaAllSpec)) schemaAllUptoCard

/-- THE SECOND FORM's CARD OF 'rabbetlaw15.SchemaStays'. -/
def schemaStaysUptoCard : Claim7 := { stood := { row := schemaStaysUptoRow, standIns := [], harness := (true, "a1c9ff7e4dfecbccb58ba0dd1e4aba3453562e306196c2ba6a6747dc28b90ce8"), looks := true }, kinds := [], alts := [], laidByText := true, laidKinds := [.sentinel, .sentinel, .sentinel, .sentinel, .sentinel], laidTests := true, laidLooks := .later }
def SchemaStaysUptoCardSaid : Prop := Claim7.holds Tryd.pinned (.plain (OpenSpec.upto schemaStaysSpec)) schemaStaysUptoCard

/-- THE SECOND FORM's CARD OF 'rabbetlaw15.SchemaBack'. -/
def schemaBackUptoCard : Claim7 := { stood := { row := schemaBackUptoRow, standIns := [], harness := (true, "a1c9ff7e4dfecbccb58ba0dd1e4aba3453562e306196c2ba6a6747dc28b90ce8"), looks := true }, kinds := [], alts := [], laidByText := true, laidKinds := [.sentinel, .sentinel, .sentinel, .sentinel, .sentinel], laidTests := true, laidLooks := .later }
def SchemaBackUptoCardSaid : Prop := Claim7.holds Tryd.pinned (.plain (OpenSpec.upto schemaBackSpec)) schemaBackUptoCard

/-- THE SECOND FORM's CARD OF 'rabbetlaw15.SchemaForms'. -/
def schemaFormsUptoCard : Claim7 := { stood := { row := schemaFormsUptoRow, standIns := [], harness := (true, "a1c9ff7e4dfecbccb58ba0dd1e4aba3453562e306196c2ba6a6747dc28b90ce8"), looks := true }, kinds := [], alts := [], laidByText := true, laidKinds := [.sentinel, .sentinel, .sentinel, .sentinel, .sentinel], laidTests := true, laidLooks := .later }
def SchemaFormsUptoCardSaid : Prop := Claim7.holds Tryd.pinned (.plain (OpenSpec.upto schemaFormsSpec)) schemaFormsUptoCard

/-- THE SECOND FORM's CARD OF 'rabbetlaw15.SchemaIDs'. -/
def schemaIDsUptoCard : Claim7 := { stood := { row := schemaIDsUptoRow, standIns := [], harness := (true, "a1c9ff7e4dfecbccb58ba0dd1e4aba3453562e306196c2ba6a6747dc28b90ce8"), looks := true }, kinds := [], alts := [], laidByText := true, laidKinds := [.sentinel, .sentinel, .sentinel, .sentinel, .sentinel], laidTests := true, laidLooks := .later }
def SchemaIDsUptoCardSaid : Prop := Claim7.holds Tryd.pinned (.plain (OpenSpec.upto schemaIDsSpec)) schemaIDsUptoCard
end Rows
end Go.Proofs.YtcgaabciagiodaaDoor
