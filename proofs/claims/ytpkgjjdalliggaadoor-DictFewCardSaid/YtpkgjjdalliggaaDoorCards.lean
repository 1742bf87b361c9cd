/-
  DERIVED. GIVEN WITH THE SEED: THE CARDS: each row of YtpkgjjdalliggaaDoorRows.lean that lists a variable, with what it lists TIED to the program's text (the seventh form; the later family's looks); each row that meets fmt, with fmt's text TOLD by the authors' own Lean function (tested against real Go, not proved from fmt's source: count such statements apart). THE CARD IS WHAT COUNTS. Prove the row's statement (the work); the ties are given (YtpkgjjdalliggaaDoorTie.lean); close each card by the builder's one call (the guide's Derived/Test/ToyasCard.lean, 'card_holds'). Laid BY PROGRAM, IN A SANDBOX (cutbox-door.mjs). By AI agents, Wed Nov 11 2026. No macro, syntax, notation, axiom, sorry.
-/
import Derived.Test.YtpkgjjdalliggaaDoorRows
import GoSem.ClaimSeven
namespace Go.Proofs.YtpkgjjdalliggaaDoor
namespace Rows

/-- THE TIED CARD OF 'rabbetlaw7.DictBack'. -/
def dictBackCard : Claim7 := { stood := { row := dictBackRow, standIns := [], harness := (true, "5509f33579a3f2e6e585eb011ce0aaf3564ecabd9adc0da3181845c7d0bbe58b"), looks := true }, kinds := [], alts := [], laidByText := true, laidKinds := [.sentinel, .sentinel, .sentinel], laidTests := true, laidLooks := .later }
def DictBackCardSaid : Prop := Claim7.holds Tryd.pinned (.plain (OpenSpec.ofChange dictBackSpec)) dictBackCard

/-- THE TIED CARD OF 'rabbetlaw7.DictForms'. -/
def dictFormsCard : Claim7 := { stood := { row := dictFormsRow, standIns := [], harness := (true, "5509f33579a3f2e6e585eb011ce0aaf3564ecabd9adc0da3181845c7d0bbe58b"), looks := true }, kinds := [], alts := [], laidByText := true, laidKinds := [.sentinel, .sentinel, .sentinel], laidTests := true, laidLooks := .later }
def DictFormsCardSaid : Prop := Claim7.holds Tryd.pinned (.plain (OpenSpec.ofChange dictFormsSpec)) dictFormsCard

/-- THE TIED CARD OF 'rabbetlaw7.DictFew'. -/
def dictFewCard : Claim7 := { stood := { row := dictFewRow, standIns := [], harness := (true, "5509f33579a3f2e6e585eb011ce0aaf3564ecabd9adc0da3181845c7d0bbe58b"), looks := true }, kinds := [], alts := [], laidByText := true, laidKinds := [.sentinel, .sentinel, .sentinel], laidTests := true, laidLooks := .later }
def DictFewCardSaid : Prop := Claim7.holds Tryd.pinned (.plain (OpenSpec.ofChange dictFewSpec)) dictFewCard

/-- THE SECOND FORM's CARD OF 'rabbetlaw7.DictBack'. -/
def dictBackUptoCard : Claim7 := { stood := { row := dictBackUptoRow, standIns := [], harness := (true, "5509f33579a3f2e6e585eb011ce0aaf3564ecabd9adc0da3181845c7d0bbe58b"), looks := true }, kinds := [], alts := [], laidByText := true, laidKinds := [.sentinel, .sentinel, .sentinel], laidTests := true, laidLooks := .later }
def DictBackUptoCardSaid : Prop := Claim7.holds Tryd.pinned (.plain (OpenSpec.upto dictBackSpec)) dictBackUptoCard

/-- THE SECOND FORM's CARD OF 'rabbetlaw7.DictForms'. -/
def dictFormsUptoCard : Claim7 := { stood := { row := dictFormsUptoRow, standIns := [], harness := (true, "5509f33579a3f2e6e585eb011ce0aaf3564ecabd9adc0da3181845c7d0bbe58b"), looks := true }, kinds := [], alts := [], laidByText := true, laidKinds := [.sentinel, .sentinel, .sentinel], laidTests := true, laidLooks := .later }
def DictFormsUptoCardSaid : Prop := Claim7.holds Tryd.pinned (.plain (OpenSpec.upto dictFormsSpec)) dictFormsUptoCard

/-- THE SECOND FORM's CARD OF 'rabbetlaw7.DictFew'. -/
def dictFewUptoCard : Claim7 := { stood := { row := dictFewUptoRow, standIns := [], harness := (true, "5509f33579a3f2e6e585eb011ce0aaf3564ecabd9adc0da3181845c7d0bbe58b"), looks := true }, kinds := [], alts := [], laidByText := true, laidKinds := [.sentinel, .sentinel, .sentinel], laidTests := true, laidLooks := .later }
def DictFewUptoCardSaid : Prop := Claim7.holds Tryd.pinned (.plain (OpenSpec.upto dictFewSpec)) dictFewUptoCard
end Rows
end Go.Proofs.YtpkgjjdalliggaaDoor
