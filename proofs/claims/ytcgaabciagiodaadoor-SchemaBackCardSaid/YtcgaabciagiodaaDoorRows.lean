/-
  NARROWER THAN 'FOR EVERY INPUT', by the rows' own cells (each row's printed sentence says how): SchemaAll: laid · SchemaStays: laid · SchemaBack: laid · SchemaForms: laid · SchemaIDs: laid.
  DERIVED. THE GIVEN ROWS OF THIS SEAT. 5 by the template 'for every input the law returns true; each argument reads behind the call as it read before'; 0 by the template 'total and deterministic' (their statements: YtcgaabciagiodaaDoorTotals.lean).
  GIVEN WITH THE SEED: the statements are not yours to turn. If you find one false, say at which input.
  Laid BY PROGRAM, IN A SANDBOX (cutbox-rows.mjs): the forced cells as the released guide's own fill.sh prints them over the translation a8af1c4bbcff875f… (all of the seat's roots in one cut). By AI agents, Wed Nov 11 2026. No macro, syntax, notation, axiom, sorry.
-/
import Derived.Test.YtcgaabciagiodaaDoorChecked
import GoSem.Claim
import GoSem.ClaimJoined
import GoSem.ClaimMapViews
import Derived.JoinedTies
import Derived.KernelRfl
namespace Go.Proofs.YtcgaabciagiodaaDoor
/- THE CELL 'sum', in the pinned program and in every row, IS THE sha256 OF THE DUMP (.gsa) THAT YtcgaabciagiodaaDoorProg.lean LOADS. Nothing in Lean hashes anything: it is a label: what it is worth is what the hold of that sum in a sandbox is worth. -/
noncomputable def Tryd.pinned : Pinned := { name := "ytcgaabciagiodaadoor", sum := "a8af1c4bbcff875fb1134c57c45f4d251da54aa076cc3c998d0cf3267cf3009a", checked := Tryd.checked }
namespace Rows
def none {H : Type} : Left H := { results := [], args := [] }

/- WHAT THE LISTED PACKAGE-LEVEL VARIABLES READ AS WHEN THE CALL BEGINS. Each datum BY PROGRAM (the guide's laid-datum.mjs) off the statement by which the dump's own 'gosem.cut.vars' lays the variable. In a bare row this is a premise. The card (YtcgaabciagiodaaDoorCards.lean) ties it to the program's text. -/
def laid_rabbet_schema_errArg {H : Type} : DataW H := .iface "*errors.errorString" (.ptr (.agg [.lit (.string [119, 104, 97, 116, 32, 109, 97, 121, 32, 110, 111, 116, 32, 98, 101])]))
def laid_rabbet_schema_errNone {H : Type} : DataW H := .iface "*errors.errorString" (.ptr (.agg [.lit (.string [110, 111, 32, 115, 117, 99, 104, 32, 99, 111, 108, 117, 109, 110])]))
def laid_rabbet_schema_errType {H : Type} : DataW H := .iface "*errors.errorString" (.ptr (.agg [.lit (.string [111, 102, 32, 97, 110, 111, 116, 104, 101, 114, 32, 116, 121, 112, 101])]))
def laid_rabbet_schema_errExist {H : Type} : DataW H := .iface "*errors.errorString" (.ptr (.agg [.lit (.string [116, 104, 101, 114, 101, 32, 97, 108, 114, 101, 97, 100, 121])]))
def laid_rabbet_schema_errFull {H : Type} : DataW H := .iface "*errors.errorString" (.ptr (.agg [.lit (.string [110, 111, 32, 114, 111, 111, 109])]))

/-- 'rabbetlaw15.SchemaAll': WHATEVER THE INPUT: true; the input reads as it did. -/
def schemaAllSpec : ChangeSpec := { name := "schemaAll", fn := fun _ => fun
  | [d1, d2, d3, d4, d5, d6, d7] => { results := [.lit (.bool true)], args := [d1, d2, d3, d4, d5, d6, d7] }
  | _ => none }
def schemaAllRow : OpenClaim := { program := "ytcgaabciagiodaadoor", sum := "a8af1c4bbcff875fb1134c57c45f4d251da54aa076cc3c998d0cf3267cf3009a", func := "rabbet/rabbetlaw15.SchemaAll", spec := "schemaAll", inPlace := ["slices.overlaps[rabbet/api.Column]", "slices.overlaps[int]", "internal/reflectlite.TypeOf"], unfollowed := true, recurses := true, named := ["rabbet/schema.errNone", "rabbet/schema.errArg", "rabbet/schema.errType", "rabbet/schema.errExist", "rabbet/schema.errFull"], apart := false, laid := [("rabbet/schema.errArg", laid_rabbet_schema_errArg), ("rabbet/schema.errNone", laid_rabbet_schema_errNone), ("rabbet/schema.errType", laid_rabbet_schema_errType), ("rabbet/schema.errExist", laid_rabbet_schema_errExist), ("rabbet/schema.errFull", laid_rabbet_schema_errFull)] }
def SchemaAllSaid : Prop := schemaAllRow.holds Tryd.pinned (OpenSpec.ofChange schemaAllSpec)

/-- ITS FALSE NEIGHBOUR: 'it returns false'. Refute it at one input. -/
def schemaAllWrong : ChangeSpec := { name := "schemaAll", fn := fun _ => fun
  | [d1, d2, d3, d4, d5, d6, d7] => { results := [.lit (.bool false)], args := [d1, d2, d3, d4, d5, d6, d7] }
  | _ => none }
def SchemaAllWrongFalsely : Prop := schemaAllRow.holds Tryd.pinned (OpenSpec.ofChange schemaAllWrong)

/-- 'rabbetlaw15.SchemaStays': WHATEVER THE INPUT: true; the input reads as it did. -/
def schemaStaysSpec : ChangeSpec := { name := "schemaStays", fn := fun _ => fun
  | [d1, d2] => { results := [.lit (.bool true)], args := [d1, d2] }
  | _ => none }
def schemaStaysRow : OpenClaim := { program := "ytcgaabciagiodaadoor", sum := "a8af1c4bbcff875fb1134c57c45f4d251da54aa076cc3c998d0cf3267cf3009a", func := "rabbet/rabbetlaw15.SchemaStays", spec := "schemaStays", inPlace := ["slices.overlaps[rabbet/api.Column]", "slices.overlaps[int]", "internal/reflectlite.TypeOf"], unfollowed := true, recurses := true, named := ["rabbet/schema.errNone", "rabbet/schema.errArg", "rabbet/schema.errType", "rabbet/schema.errExist", "rabbet/schema.errFull"], apart := false, laid := [("rabbet/schema.errArg", laid_rabbet_schema_errArg), ("rabbet/schema.errNone", laid_rabbet_schema_errNone), ("rabbet/schema.errType", laid_rabbet_schema_errType), ("rabbet/schema.errExist", laid_rabbet_schema_errExist), ("rabbet/schema.errFull", laid_rabbet_schema_errFull)] }
def SchemaStaysSaid : Prop := schemaStaysRow.holds Tryd.pinned (OpenSpec.ofChange schemaStaysSpec)

/-- ITS FALSE NEIGHBOUR: 'it returns false'. Refute it at one input. -/
def schemaStaysWrong : ChangeSpec := { name := "schemaStays", fn := fun _ => fun
  | [d1, d2] => { results := [.lit (.bool false)], args := [d1, d2] }
  | _ => none }
def SchemaStaysWrongFalsely : Prop := schemaStaysRow.holds Tryd.pinned (OpenSpec.ofChange schemaStaysWrong)

/-- 'rabbetlaw15.SchemaBack': WHATEVER THE INPUT: true; the input reads as it did. -/
def schemaBackSpec : ChangeSpec := { name := "schemaBack", fn := fun _ => fun
  | [d1, d2] => { results := [.lit (.bool true)], args := [d1, d2] }
  | _ => none }
def schemaBackRow : OpenClaim := { program := "ytcgaabciagiodaadoor", sum := "a8af1c4bbcff875fb1134c57c45f4d251da54aa076cc3c998d0cf3267cf3009a", func := "rabbet/rabbetlaw15.SchemaBack", spec := "schemaBack", inPlace := ["slices.overlaps[rabbet/api.Column]", "slices.overlaps[int]", "internal/reflectlite.TypeOf"], unfollowed := true, recurses := true, named := ["rabbet/schema.errNone", "rabbet/schema.errArg", "rabbet/schema.errType", "rabbet/schema.errExist", "rabbet/schema.errFull"], apart := false, laid := [("rabbet/schema.errArg", laid_rabbet_schema_errArg), ("rabbet/schema.errNone", laid_rabbet_schema_errNone), ("rabbet/schema.errType", laid_rabbet_schema_errType), ("rabbet/schema.errExist", laid_rabbet_schema_errExist), ("rabbet/schema.errFull", laid_rabbet_schema_errFull)] }
def SchemaBackSaid : Prop := schemaBackRow.holds Tryd.pinned (OpenSpec.ofChange schemaBackSpec)

/-- ITS FALSE NEIGHBOUR: 'it returns false'. Refute it at one input. -/
def schemaBackWrong : ChangeSpec := { name := "schemaBack", fn := fun _ => fun
  | [d1, d2] => { results := [.lit (.bool false)], args := [d1, d2] }
  | _ => none }
def SchemaBackWrongFalsely : Prop := schemaBackRow.holds Tryd.pinned (OpenSpec.ofChange schemaBackWrong)

/-- 'rabbetlaw15.SchemaForms': WHATEVER THE INPUT: true; the input reads as it did. -/
def schemaFormsSpec : ChangeSpec := { name := "schemaForms", fn := fun _ => fun
  | [] => { results := [.lit (.bool true)], args := [] }
  | _ => none }
def schemaFormsRow : OpenClaim := { program := "ytcgaabciagiodaadoor", sum := "a8af1c4bbcff875fb1134c57c45f4d251da54aa076cc3c998d0cf3267cf3009a", func := "rabbet/rabbetlaw15.SchemaForms", spec := "schemaForms", inPlace := ["slices.overlaps[rabbet/api.Column]", "slices.overlaps[int]", "internal/reflectlite.TypeOf"], unfollowed := true, recurses := true, named := ["rabbet/schema.errNone", "rabbet/schema.errArg", "rabbet/schema.errType", "rabbet/schema.errExist", "rabbet/schema.errFull"], apart := false, laid := [("rabbet/schema.errArg", laid_rabbet_schema_errArg), ("rabbet/schema.errNone", laid_rabbet_schema_errNone), ("rabbet/schema.errType", laid_rabbet_schema_errType), ("rabbet/schema.errExist", laid_rabbet_schema_errExist), ("rabbet/schema.errFull", laid_rabbet_schema_errFull)] }
def SchemaFormsSaid : Prop := schemaFormsRow.holds Tryd.pinned (OpenSpec.ofChange schemaFormsSpec)

/-- ITS FALSE NEIGHBOUR: 'it returns false'. Refute it at one input. -/
def schemaFormsWrong : ChangeSpec := { name := "schemaForms", fn := fun _ => fun
  | [] => { results := [.lit (.bool false)], args := [] }
  | _ => none }
def SchemaFormsWrongFalsely : Prop := schemaFormsRow.holds Tryd.pinned (OpenSpec.ofChange schemaFormsWrong)

/-- 'rabbetlaw15.SchemaIDs': WHATEVER THE INPUT: true; the input reads as it did. -/
def schemaIDsSpec : ChangeSpec := { name := "schemaIDs", fn := fun _ => fun
  | [d1, d2] => { results := [.lit (.bool true)], args := [d1, d2] }
  | _ => none }
def schemaIDsRow : OpenClaim := { program := "ytcgaabciagiodaadoor", sum := "a8af1c4bbcff875fb1134c57c45f4d251da54aa076cc3c998d0cf3267cf3009a", func := "rabbet/rabbetlaw15.SchemaIDs", spec := "schemaIDs", inPlace := ["slices.overlaps[rabbet/api.Column]", "slices.overlaps[int]", "internal/reflectlite.TypeOf"], unfollowed := true, recurses := true, named := ["rabbet/schema.errNone", "rabbet/schema.errArg", "rabbet/schema.errType", "rabbet/schema.errExist", "rabbet/schema.errFull"], apart := false, laid := [("rabbet/schema.errArg", laid_rabbet_schema_errArg), ("rabbet/schema.errNone", laid_rabbet_schema_errNone), ("rabbet/schema.errType", laid_rabbet_schema_errType), ("rabbet/schema.errExist", laid_rabbet_schema_errExist), ("rabbet/schema.errFull", laid_rabbet_schema_errFull)] }
def SchemaIDsSaid : Prop := schemaIDsRow.holds Tryd.pinned (OpenSpec.ofChange schemaIDsSpec)

/-- ITS FALSE NEIGHBOUR: 'it returns false'. Refute it at one input. -/
def schemaIDsWrong : ChangeSpec := { name := "schemaIDs", fn := fun _ => fun
  | [d1, d2] => { results := [.lit (.bool false)], args := [d1, d2] }
  | _ => none }
def SchemaIDsWrongFalsely : Prop := schemaIDsRow.holds Tryd.pinned (OpenSpec.ofChange schemaIDsWrong)

/- THE SECOND FORM. 'bulk': how many values and letters a reading holds, each counted each time it is reached (what is shared counts as often as it is met; a slice's spare places count too). A statement '..UptoSaid' is the law's where the arguments, and the package variables that the reading takes, are together of bulk at most 1048576: NARROWER than '..Said'. Prove '..Said' where nothing that the law and all that it calls make is longer than what came in: it says more and counts as full. Else prove '..UptoSaid'. A law counts once. -/
mutual
def uptoBulk {H : Type} : DataW H → Nat
  | .lit (.string bytes) => bytes.length + 1
  | .lit _ => 1
  | .nil => 1
  | .ptr d => uptoBulk d + 1
  | .slice elems spare => uptoBulkAll elems + uptoBulkAll spare + 1
  | .agg parts => uptoBulkAll parts + 1
  | .iface _ d => uptoBulk d + 1
  | .map entries => uptoBulkEntries entries + 1
  | .held _ => 1
def uptoBulkAll {H : Type} : List (DataW H) → Nat
  | [] => 0
  | d :: r => uptoBulk d + uptoBulkAll r
def uptoBulkEntries {H : Type} : List (Lit × DataW H) → Nat
  | [] => 0
  | x :: r => uptoBulkEntry x + uptoBulkEntries r
def uptoBulkEntry {H : Type} : Lit × DataW H → Nat
  | (.string bytes, d) => bytes.length + uptoBulk d + 1
  | (_, d) => uptoBulk d + 1
 end
def uptoSmall : (H : Type) → List (DataW H) → Bool := fun _ ds => decide (uptoBulkAll ds ≤ 1048576)
def OpenSpec.upto (s : _root_.Go.ChangeSpec) : _root_.Go.OpenSpec := { _root_.Go.OpenSpec.ofChange s with cond := some uptoSmall }

/-- 'rabbetlaw15.SchemaAll', WHERE WHAT IT READS IS OF BULK AT MOST 1048576: true; the input reads as it did. -/
def schemaAllUptoRow : OpenClaim := { program := "ytcgaabciagiodaadoor", sum := "a8af1c4bbcff875fb1134c57c45f4d251da54aa076cc3c998d0cf3267cf3009a", func := "rabbet/rabbetlaw15.SchemaAll", spec := "schemaAll", inPlace := ["slices.overlaps[rabbet/api.Column]", "slices.overlaps[int]", "internal/reflectlite.TypeOf"], unfollowed := true, recurses := true, named := ["rabbet/schema.errNone", "rabbet/schema.errArg", "rabbet/schema.errType", "rabbet/schema.errExist", "rabbet/schema.errFull"], apart := false, laid := [("rabbet/schema.errArg", laid_rabbet_schema_errArg), ("rabbet/schema.errNone", laid_rabbet_schema_errNone), ("rabbet/schema.errType", laid_rabbet_schema_errType), ("rabbet/schema.errExist", laid_rabbet_schema_errExist), ("rabbet/schema.errFull", laid_rabbet_schema_errFull)], narrowed := true }
def SchemaAllUptoSaid : Prop := schemaAllUptoRow.holds Tryd.pinned (OpenSpec.upto schemaAllSpec)

/-- 'rabbetlaw15.SchemaStays', WHERE WHAT IT READS IS OF BULK AT MOST 1048576: true; the input reads as it did. -/
def schemaStaysUptoRow : OpenClaim := { program := "ytcgaabciagiodaadoor", sum := "a8af1c4bbcff875fb1134c57c45f4d251da54aa076cc3c998d0cf3267cf3009a", func := "rabbet/rabbetlaw15.SchemaStays", spec := "schemaStays", inPlace := ["slices.overlaps[rabbet/api.Column]", "slices.overlaps[int]", "internal/reflectlite.TypeOf"], unfollowed := true, recurses := true, named := ["rabbet/schema.errNone", "rabbet/schema.errArg", "rabbet/schema.errType", "rabbet/schema.errExist", "rabbet/schema.errFull"], apart := false, laid := [("rabbet/schema.errArg", laid_rabbet_schema_errArg), ("rabbet/schema.errNone", laid_rabbet_schema_errNone), ("rabbet/schema.errType", laid_rabbet_schema_errType), ("rabbet/schema.errExist", laid_rabbet_schema_errExist), ("rabbet/schema.errFull", laid_rabbet_schema_errFull)], narrowed := true }
def SchemaStaysUptoSaid : Prop := schemaStaysUptoRow.holds Tryd.pinned (OpenSpec.upto schemaStaysSpec)

/-- 'rabbetlaw15.SchemaBack', WHERE WHAT IT READS IS OF BULK AT MOST 1048576: true; the input reads as it did. -/
def schemaBackUptoRow : OpenClaim := { program := "ytcgaabciagiodaadoor", sum := "a8af1c4bbcff875fb1134c57c45f4d251da54aa076cc3c998d0cf3267cf3009a", func := "rabbet/rabbetlaw15.SchemaBack", spec := "schemaBack", inPlace := ["slices.overlaps[rabbet/api.Column]", "slices.overlaps[int]", "internal/reflectlite.TypeOf"], unfollowed := true, recurses := true, named := ["rabbet/schema.errNone", "rabbet/schema.errArg", "rabbet/schema.errType", "rabbet/schema.errExist", "rabbet/schema.errFull"], apart := false, laid := [("rabbet/schema.errArg", laid_rabbet_schema_errArg), ("rabbet/schema.errNone", laid_rabbet_schema_errNone), ("rabbet/schema.errType", laid_rabbet_schema_errType), ("rabbet/schema.errExist", laid_rabbet_schema_errExist), ("rabbet/schema.errFull", laid_rabbet_schema_errFull)], narrowed := true }
def SchemaBackUptoSaid : Prop := schemaBackUptoRow.holds Tryd.pinned (OpenSpec.upto schemaBackSpec)

/-- 'rabbetlaw15.SchemaForms', WHERE WHAT IT READS IS OF BULK AT MOST 1048576: true; the input reads as it did. -/
def schemaFormsUptoRow : OpenClaim := { program := "ytcgaabciagiodaadoor", sum := "a8af1c4bbcff875fb1134c57c45f4d251da54aa076cc3c998d0cf3267cf3009a", func := "rabbet/rabbetlaw15.SchemaForms", spec := "schemaForms", inPlace := ["slices.overlaps[rabbet/api.Column]", "slices.overlaps[int]", "internal/reflectlite.TypeOf"], unfollowed := true, recurses := true, named := ["rabbet/schema.errNone", "rabbet/schema.errArg", "rabbet/schema.errType", "rabbet/schema.errExist", "rabbet/schema.errFull"], apart := false, laid := [("rabbet/schema.errArg", laid_rabbet_schema_errArg), ("rabbet/schema.errNone", laid_rabbet_schema_errNone), ("rabbet/schema.errType", laid_rabbet_schema_errType), ("rabbet/schema.errExist", laid_rabbet_schema_errExist), ("rabbet/schema.errFull", laid_rabbet_schema_errFull)], narrowed := true }
def SchemaFormsUptoSaid : Prop := schemaFormsUptoRow.holds Tryd.pinned (OpenSpec.upto schemaFormsSpec)

/-- 'rabbetlaw15.SchemaIDs', WHERE WHAT IT READS IS OF BULK AT MOST 1048576: true; the input reads as it did. -/
def schemaIDsUptoRow : OpenClaim := { program := "ytcgaabciagiodaadoor", sum := "a8af1c4bbcff875fb1134c57c45f4d251da54aa076cc3c998d0cf3267cf3009a", func := "rabbet/rabbetlaw15.SchemaIDs", spec := "schemaIDs", inPlace := ["slices.overlaps[rabbet/api.Column]", "slices.overlaps[int]", "internal/reflectlite.TypeOf"], unfollowed := true, recurses := true, named := ["rabbet/schema.errNone", "rabbet/schema.errArg", "rabbet/schema.errType", "rabbet/schema.errExist", "rabbet/schema.errFull"], apart := false, laid := [("rabbet/schema.errArg", laid_rabbet_schema_errArg), ("rabbet/schema.errNone", laid_rabbet_schema_errNone), ("rabbet/schema.errType", laid_rabbet_schema_errType), ("rabbet/schema.errExist", laid_rabbet_schema_errExist), ("rabbet/schema.errFull", laid_rabbet_schema_errFull)], narrowed := true }
def SchemaIDsUptoSaid : Prop := schemaIDsUptoRow.holds Tryd.pinned (OpenSpec.upto schemaIDsSpec)

end Rows
end Go.Proofs.YtcgaabciagiodaaDoor
