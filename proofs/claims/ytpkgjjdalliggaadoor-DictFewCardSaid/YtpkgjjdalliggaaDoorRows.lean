/-
  NARROWER THAN 'FOR EVERY INPUT', by the rows' own cells (each row's printed sentence says how): DictBack: laid · DictForms: laid · DictFew: laid.
  DERIVED. THE GIVEN ROWS OF THIS SEAT. 3 by the template 'for every input the law returns true; each argument reads behind the call as it read before'; 0 by the template 'total and deterministic' (their statements: YtpkgjjdalliggaaDoorTotals.lean).
  GIVEN WITH THE SEED: the statements are not yours to turn. If you find one false, say at which input.
  Laid BY PROGRAM, IN A SANDBOX (cutbox-rows.mjs): the forced cells as the released guide's own fill.sh prints them over the translation 2614d7b5d9ba5e92… (all of the seat's roots in one cut). By AI agents, Wed Nov 11 2026. No macro, syntax, notation, axiom, sorry.
-/
import Derived.Test.YtpkgjjdalliggaaDoorChecked
import GoSem.Claim
import GoSem.ClaimJoined
import GoSem.ClaimMapViews
import Derived.JoinedTies
import Derived.KernelRfl
namespace Go.Proofs.YtpkgjjdalliggaaDoor
/- THE CELL 'sum', in the pinned program and in every row, IS THE sha256 OF THE DUMP (.gsa) THAT YtpkgjjdalliggaaDoorProg.lean LOADS. Nothing in Lean hashes anything: it is a label: what it is worth is what the hold of that sum in a sandbox is worth. -/
noncomputable def Tryd.pinned : Pinned := { name := "ytpkgjjdalliggaadoor", sum := "2614d7b5d9ba5e92a25d89136caf8ad4019a36ec1fbd44894d365a5d052f37f3", checked := Tryd.checked }
namespace Rows
def none {H : Type} : Left H := { results := [], args := [] }

/- WHAT THE LISTED PACKAGE-LEVEL VARIABLES READ AS WHEN THE CALL BEGINS. Each datum BY PROGRAM (the guide's laid-datum.mjs) off the statement by which the dump's own 'gosem.cut.vars' lays the variable. In a bare row this is a premise. The card (YtpkgjjdalliggaaDoorCards.lean) ties it to the program's text. -/
def laid_rabbet_num_errShort {H : Type} : DataW H := .iface "*errors.errorString" (.ptr (.agg [.lit (.string [101, 110, 100, 115, 32, 116, 111, 111, 32, 115, 111, 111, 110])]))
def laid_rabbet_num_errLong {H : Type} : DataW H := .iface "*errors.errorString" (.ptr (.agg [.lit (.string [105, 115, 32, 110, 111, 116, 32, 97, 115, 32, 115, 104, 111, 114, 116, 32, 97, 115, 32, 109, 97, 121, 32, 98, 101])]))
def laid_rabbet_dict_errForm {H : Type} : DataW H := .iface "*errors.errorString" (.ptr (.agg [.lit (.string [115, 97, 121, 115, 32, 110, 111, 32, 99, 111, 108, 117, 109, 110])]))

/-- 'rabbetlaw7.DictBack': WHATEVER THE INPUT: true; the input reads as it did. -/
def dictBackSpec : ChangeSpec := { name := "dictBack", fn := fun _ => fun
  | [d1, d2, d3, d4] => { results := [.lit (.bool true)], args := [d1, d2, d3, d4] }
  | _ => none }
def dictBackRow : OpenClaim := { program := "ytpkgjjdalliggaadoor", sum := "2614d7b5d9ba5e92a25d89136caf8ad4019a36ec1fbd44894d365a5d052f37f3", func := "rabbet/rabbetlaw7.DictBack", spec := "dictBack", inPlace := ["internal/bytealg.abigen_runtime_cmpstring", "internal/reflectlite.TypeOf"], unfollowed := true, recurses := true, named := ["rabbet/dict.errForm", "rabbet/num.errShort", "rabbet/num.errLong"], apart := false, laid := [("rabbet/num.errShort", laid_rabbet_num_errShort), ("rabbet/num.errLong", laid_rabbet_num_errLong), ("rabbet/dict.errForm", laid_rabbet_dict_errForm)] }
def DictBackSaid : Prop := dictBackRow.holds Tryd.pinned (OpenSpec.ofChange dictBackSpec)

/-- ITS FALSE NEIGHBOUR: 'it returns false'. Refute it at one input. -/
def dictBackWrong : ChangeSpec := { name := "dictBack", fn := fun _ => fun
  | [d1, d2, d3, d4] => { results := [.lit (.bool false)], args := [d1, d2, d3, d4] }
  | _ => none }
def DictBackWrongFalsely : Prop := dictBackRow.holds Tryd.pinned (OpenSpec.ofChange dictBackWrong)

/-- 'rabbetlaw7.DictForms': WHATEVER THE INPUT: true; the input reads as it did. -/
def dictFormsSpec : ChangeSpec := { name := "dictForms", fn := fun _ => fun
  | [] => { results := [.lit (.bool true)], args := [] }
  | _ => none }
def dictFormsRow : OpenClaim := { program := "ytpkgjjdalliggaadoor", sum := "2614d7b5d9ba5e92a25d89136caf8ad4019a36ec1fbd44894d365a5d052f37f3", func := "rabbet/rabbetlaw7.DictForms", spec := "dictForms", inPlace := ["internal/bytealg.abigen_runtime_cmpstring", "internal/reflectlite.TypeOf"], unfollowed := true, recurses := true, named := ["rabbet/dict.errForm", "rabbet/num.errShort", "rabbet/num.errLong"], apart := false, laid := [("rabbet/num.errShort", laid_rabbet_num_errShort), ("rabbet/num.errLong", laid_rabbet_num_errLong), ("rabbet/dict.errForm", laid_rabbet_dict_errForm)] }
def DictFormsSaid : Prop := dictFormsRow.holds Tryd.pinned (OpenSpec.ofChange dictFormsSpec)

/-- ITS FALSE NEIGHBOUR: 'it returns false'. Refute it at one input. -/
def dictFormsWrong : ChangeSpec := { name := "dictForms", fn := fun _ => fun
  | [] => { results := [.lit (.bool false)], args := [] }
  | _ => none }
def DictFormsWrongFalsely : Prop := dictFormsRow.holds Tryd.pinned (OpenSpec.ofChange dictFormsWrong)

/-- 'rabbetlaw7.DictFew': WHATEVER THE INPUT: true; the input reads as it did. -/
def dictFewSpec : ChangeSpec := { name := "dictFew", fn := fun _ => fun
  | [d] => { results := [.lit (.bool true)], args := [d] }
  | _ => none }
def dictFewRow : OpenClaim := { program := "ytpkgjjdalliggaadoor", sum := "2614d7b5d9ba5e92a25d89136caf8ad4019a36ec1fbd44894d365a5d052f37f3", func := "rabbet/rabbetlaw7.DictFew", spec := "dictFew", inPlace := ["internal/bytealg.abigen_runtime_cmpstring", "internal/reflectlite.TypeOf"], unfollowed := true, recurses := true, named := ["rabbet/dict.errForm", "rabbet/num.errShort", "rabbet/num.errLong"], apart := false, laid := [("rabbet/num.errShort", laid_rabbet_num_errShort), ("rabbet/num.errLong", laid_rabbet_num_errLong), ("rabbet/dict.errForm", laid_rabbet_dict_errForm)] }
def DictFewSaid : Prop := dictFewRow.holds Tryd.pinned (OpenSpec.ofChange dictFewSpec)

/-- ITS FALSE NEIGHBOUR: 'it returns false'. Refute it at one input. -/
def dictFewWrong : ChangeSpec := { name := "dictFew", fn := fun _ => fun
  | [d] => { results := [.lit (.bool false)], args := [d] }
  | _ => none }
def DictFewWrongFalsely : Prop := dictFewRow.holds Tryd.pinned (OpenSpec.ofChange dictFewWrong)

/- THE SECOND FORM. 'bulk': how many values and letters a reading holds, each counted each time it is reached (what is shared counts as often as it is met; a slice's spare places count too). A statement '..UptoSaid' is the law's where the arguments, and the package variables that the reading takes, are together of bulk at most 1048576: NARROWER than '..Said'. Prove '..Said' where nothing that the law and all that it calls make is longer than what came in: it says more and counts as full. Else prove '..UptoSaid'. A law counts once. -/
mutual
def uptoBulk {H : Type} : DataW H → Nat
  | .lit (.string bytes) => bytes.length + 1
  | .lit _ => 1
  | .nil => 1
  | .ptr d => uptoBulk d + 1
  | .slice elems spare => uptoBulkAll elems + uptoBulkAll spare + 1
  | .agg parts => uptoBulkAll parts + 1
  | .iface _ d => uptoBulk d + 1
  | .map entries => uptoBulkEntries entries + 1
  | .held _ => 1
def uptoBulkAll {H : Type} : List (DataW H) → Nat
  | [] => 0
  | d :: r => uptoBulk d + uptoBulkAll r
def uptoBulkEntries {H : Type} : List (Lit × DataW H) → Nat
  | [] => 0
  | x :: r => uptoBulkEntry x + uptoBulkEntries r
def uptoBulkEntry {H : Type} : Lit × DataW H → Nat
  | (.string bytes, d) => bytes.length + uptoBulk d + 1
  | (_, d) => uptoBulk d + 1
 end
def uptoSmall : (H : Type) → List (DataW H) → Bool := fun _ ds => decide (uptoBulkAll ds ≤ 1048576)
def OpenSpec.upto (s : _root_.Go.ChangeSpec) : _root_.Go.OpenSpec := { _root_.Go.OpenSpec.ofChange s with cond := some uptoSmall }

/-- 'rabbetlaw7.DictBack', WHERE WHAT IT READS IS OF BULK AT MOST 1048576: true; the input reads as it did. -/
def dictBackUptoRow : OpenClaim := { program := "ytpkgjjdalliggaadoor", sum := "2614d7b5d9ba5e92a25d89136caf8ad4019a36ec1fbd44894d365a5d052f37f3", func := "rabbet/rabbetlaw7.DictBack", spec := "dictBack", inPlace := ["internal/bytealg.abigen_runtime_cmpstring", "internal/reflectlite.TypeOf"], unfollowed := true, recurses := true, named := ["rabbet/dict.errForm", "rabbet/num.errShort", "rabbet/num.errLong"], apart := false, laid := [("rabbet/num.errShort", laid_rabbet_num_errShort), ("rabbet/num.errLong", laid_rabbet_num_errLong), ("rabbet/dict.errForm", laid_rabbet_dict_errForm)], narrowed := true }
def DictBackUptoSaid : Prop := dictBackUptoRow.holds Tryd.pinned (OpenSpec.upto dictBackSpec)

/-- 'rabbetlaw7.DictForms', WHERE WHAT IT READS IS OF BULK AT MOST 1048576: true; the input reads as it did. -/
def dictFormsUptoRow : OpenClaim := { program := "ytpkgjjdalliggaadoor", sum := "2614d7b5d9ba5e92a25d89136caf8ad4019a36ec1fbd44894d365a5d052f37f3", func := "rabbet/rabbetlaw7.DictForms", spec := "dictForms", inPlace := ["internal/bytealg.abigen_runtime_cmpstring", "internal/reflectlite.TypeOf"], unfollowed := true, recurses := true, named := ["rabbet/dict.errForm", "rabbet/num.errShort", "rabbet/num.errLong"], apart := false, laid := [("rabbet/num.errShort", laid_rabbet_num_errShort), ("rabbet/num.errLong", laid_rabbet_num_errLong), ("rabbet/dict.errForm", laid_rabbet_dict_errForm)], narrowed := true }
def DictFormsUptoSaid : Prop := dictFormsUptoRow.holds Tryd.pinned (OpenSpec.upto dictFormsSpec)

/-- 'rabbetlaw7.DictFew', WHERE WHAT IT READS IS OF BULK AT MOST 1048576: true; the input reads as it did. -/
def dictFewUptoRow : OpenClaim := { program := "ytpkgjjdalliggaadoor", sum := "2614d7b5d9ba5e92a25d89136caf8ad4019a36ec1fbd44894d365a5d052f37f3", func := "rabbet/rabbetlaw7.DictFew", spec := "dictFew", inPlace := ["internal/bytealg.abigen_runtime_cmpstring", "internal/reflectlite.TypeOf"], unfollowed := true, recurses := true, named := ["rabbet/dict.errForm", "rabbet/num.errShort", "rabbet/num.errLong"], apart := false, laid := [("rabbet/num.errShort", laid_rabbet_num_errShort), ("rabbet/num.errLong", laid_rabbet_num_errLong), ("rabbet/dict.errForm", laid_rabbet_dict_errForm)], narrowed := true }
def DictFewUptoSaid : Prop := dictFewUptoRow.holds Tryd.pinned (OpenSpec.upto dictFewSpec)

end Rows
end Go.Proofs.YtpkgjjdalliggaaDoor
