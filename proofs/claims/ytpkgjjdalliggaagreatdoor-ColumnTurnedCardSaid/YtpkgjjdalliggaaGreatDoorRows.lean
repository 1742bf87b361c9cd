/-
  NARROWER THAN 'FOR EVERY INPUT', by the rows' own cells (each row's printed sentence says how): DictAll: laid · DictTurned: laid · ColumnAll: laid · ColumnBack: laid · ColumnTurned: laid · ColumnForms: laid.
  DERIVED. THE GIVEN ROWS OF THIS SEAT. 6 by the template 'for every input the law returns true; each argument reads behind the call as it read before'; 0 by the template 'total and deterministic' (their statements: YtpkgjjdalliggaaGreatDoorTotals.lean).
  GIVEN WITH THE SEED: the statements are not yours to turn. If you find one false, say at which input.
  Laid BY PROGRAM, IN A SANDBOX (cutbox-rows.mjs): the forced cells as the released guide's own fill.sh prints them over the translation 2118c054e37bddc4… (all of the seat's roots in one cut). By AI agents, Wed Nov 11 2026. No macro, syntax, notation, axiom, sorry.
-/
import Derived.Test.YtpkgjjdalliggaaGreatDoorChecked
import GoSem.Claim
import GoSem.ClaimJoined
import GoSem.ClaimMapViews
import Derived.JoinedTies
import Derived.KernelRfl
namespace Go.Proofs.YtpkgjjdalliggaaGreatDoor
/- THE CELL 'sum', in the pinned program and in every row, IS THE sha256 OF THE DUMP (.gsa) THAT YtpkgjjdalliggaaGreatDoorProg.lean LOADS. Nothing in Lean hashes anything: it is a label: what it is worth is what the hold of that sum in a sandbox is worth. -/
noncomputable def Tryz.pinned : Pinned := { name := "ytpkgjjdalliggaagreatdoor", sum := "2118c054e37bddc4ee6a9c761d4d7128521cdea0a1b73714041681546d317ac2", checked := Tryz.checked }
namespace Rows
def none {H : Type} : Left H := { results := [], args := [] }

/- WHAT THE LISTED PACKAGE-LEVEL VARIABLES READ AS WHEN THE CALL BEGINS. Each datum BY PROGRAM (the guide's laid-datum.mjs) off the statement by which the dump's own 'gosem.cut.vars' lays the variable. In a bare row this is a premise. The card (YtpkgjjdalliggaaGreatDoorCards.lean) ties it to the program's text. -/
def laid_rabbet_num_errShort {H : Type} : DataW H := .iface "*errors.errorString" (.ptr (.agg [.lit (.string [101, 110, 100, 115, 32, 116, 111, 111, 32, 115, 111, 111, 110])]))
def laid_rabbet_num_errLong {H : Type} : DataW H := .iface "*errors.errorString" (.ptr (.agg [.lit (.string [105, 115, 32, 110, 111, 116, 32, 97, 115, 32, 115, 104, 111, 114, 116, 32, 97, 115, 32, 109, 97, 121, 32, 98, 101])]))
def laid_rabbet_dict_errForm {H : Type} : DataW H := .iface "*errors.errorString" (.ptr (.agg [.lit (.string [115, 97, 121, 115, 32, 110, 111, 32, 99, 111, 108, 117, 109, 110])]))
def laid_rabbet_nulls_errForm {H : Type} : DataW H := .iface "*errors.errorString" (.ptr (.agg [.lit (.string [105, 115, 32, 110, 111, 116, 32, 111, 102, 32, 115, 111, 32, 109, 97, 110, 121])]))
def laid_rabbet_delta_errForm {H : Type} : DataW H := .iface "*errors.errorString" (.ptr (.agg [.lit (.string [115, 97, 121, 115, 32, 110, 111, 32, 99, 111, 108, 117, 109, 110])]))
def laid_rabbet_pack_errForm {H : Type} : DataW H := .iface "*errors.errorString" (.ptr (.agg [.lit (.string [115, 97, 121, 115, 32, 110, 111, 32, 99, 111, 108, 117, 109, 110])]))
def laid_rabbet_plain_errForm {H : Type} : DataW H := .iface "*errors.errorString" (.ptr (.agg [.lit (.string [115, 97, 121, 115, 32, 110, 111, 32, 99, 111, 108, 117, 109, 110])]))
def laid_rabbet_rle_errForm {H : Type} : DataW H := .iface "*errors.errorString" (.ptr (.agg [.lit (.string [115, 97, 121, 115, 32, 110, 111, 32, 99, 111, 108, 117, 109, 110])]))

/-- 'rabbetlaw7.DictAll': WHATEVER THE INPUT: true; the input reads as it did. -/
def dictAllSpec : ChangeSpec := { name := "dictAll", fn := fun _ => fun
  | [d1, d2, d3, d4, d5] => { results := [.lit (.bool true)], args := [d1, d2, d3, d4, d5] }
  | _ => none }
def dictAllRow : OpenClaim := { program := "ytpkgjjdalliggaagreatdoor", sum := "2118c054e37bddc4ee6a9c761d4d7128521cdea0a1b73714041681546d317ac2", func := "rabbet/rabbetlaw7.DictAll", spec := "dictAll", inPlace := ["internal/bytealg.abigen_runtime_cmpstring", "internal/reflectlite.TypeOf"], unfollowed := true, recurses := true, named := ["rabbet/dict.errForm", "rabbet/num.errShort", "rabbet/num.errLong"], apart := false, laid := [("rabbet/num.errShort", laid_rabbet_num_errShort), ("rabbet/num.errLong", laid_rabbet_num_errLong), ("rabbet/dict.errForm", laid_rabbet_dict_errForm)] }
def DictAllSaid : Prop := dictAllRow.holds Tryz.pinned (OpenSpec.ofChange dictAllSpec)

/-- ITS FALSE NEIGHBOUR: 'it returns false'. Refute it at one input. -/
def dictAllWrong : ChangeSpec := { name := "dictAll", fn := fun _ => fun
  | [d1, d2, d3, d4, d5] => { results := [.lit (.bool false)], args := [d1, d2, d3, d4, d5] }
  | _ => none }
def DictAllWrongFalsely : Prop := dictAllRow.holds Tryz.pinned (OpenSpec.ofChange dictAllWrong)

/-- 'rabbetlaw7.DictTurned': WHATEVER THE INPUT: true; the input reads as it did. -/
def dictTurnedSpec : ChangeSpec := { name := "dictTurned", fn := fun _ => fun
  | [d1, d2, d3, d4] => { results := [.lit (.bool true)], args := [d1, d2, d3, d4] }
  | _ => none }
def dictTurnedRow : OpenClaim := { program := "ytpkgjjdalliggaagreatdoor", sum := "2118c054e37bddc4ee6a9c761d4d7128521cdea0a1b73714041681546d317ac2", func := "rabbet/rabbetlaw7.DictTurned", spec := "dictTurned", inPlace := ["internal/bytealg.abigen_runtime_cmpstring", "internal/reflectlite.TypeOf"], unfollowed := true, recurses := true, named := ["rabbet/dict.errForm", "rabbet/num.errShort", "rabbet/num.errLong"], apart := false, laid := [("rabbet/num.errShort", laid_rabbet_num_errShort), ("rabbet/num.errLong", laid_rabbet_num_errLong), ("rabbet/dict.errForm", laid_rabbet_dict_errForm)] }
def DictTurnedSaid : Prop := dictTurnedRow.holds Tryz.pinned (OpenSpec.ofChange dictTurnedSpec)

/-- ITS FALSE NEIGHBOUR: 'it returns false'. Refute it at one input. -/
def dictTurnedWrong : ChangeSpec := { name := "dictTurned", fn := fun _ => fun
  | [d1, d2, d3, d4] => { results := [.lit (.bool false)], args := [d1, d2, d3, d4] }
  | _ => none }
def DictTurnedWrongFalsely : Prop := dictTurnedRow.holds Tryz.pinned (OpenSpec.ofChange dictTurnedWrong)

/-- 'rabbetlaw10.ColumnAll': WHATEVER THE INPUT: true; the input reads as it did. -/
def columnAllSpec : ChangeSpec := { name := "columnAll", fn := fun _ => fun
  | [d1, d2, d3, d4, d5, d6] => { results := [.lit (.bool true)], args := [d1, d2, d3, d4, d5, d6] }
  | _ => none }
def columnAllRow : OpenClaim := { program := "ytpkgjjdalliggaagreatdoor", sum := "2118c054e37bddc4ee6a9c761d4d7128521cdea0a1b73714041681546d317ac2", func := "rabbet/rabbetlaw10.ColumnAll", spec := "columnAll", inPlace := ["internal/reflectlite.TypeOf", "internal/bytealg.abigen_runtime_cmpstring"], unfollowed := true, recurses := true, named := ["rabbet/plain.errForm", "rabbet/num.errShort", "rabbet/num.errLong", "rabbet/rle.errForm", "rabbet/dict.errForm", "rabbet/pack.errForm", "rabbet/delta.errForm", "rabbet/nulls.errForm"], apart := false, laid := [("rabbet/num.errShort", laid_rabbet_num_errShort), ("rabbet/num.errLong", laid_rabbet_num_errLong), ("rabbet/nulls.errForm", laid_rabbet_nulls_errForm), ("rabbet/delta.errForm", laid_rabbet_delta_errForm), ("rabbet/dict.errForm", laid_rabbet_dict_errForm), ("rabbet/pack.errForm", laid_rabbet_pack_errForm), ("rabbet/plain.errForm", laid_rabbet_plain_errForm), ("rabbet/rle.errForm", laid_rabbet_rle_errForm)] }
def ColumnAllSaid : Prop := columnAllRow.holds Tryz.pinned (OpenSpec.ofChange columnAllSpec)

/-- ITS FALSE NEIGHBOUR: 'it returns false'. Refute it at one input. -/
def columnAllWrong : ChangeSpec := { name := "columnAll", fn := fun _ => fun
  | [d1, d2, d3, d4, d5, d6] => { results := [.lit (.bool false)], args := [d1, d2, d3, d4, d5, d6] }
  | _ => none }
def ColumnAllWrongFalsely : Prop := columnAllRow.holds Tryz.pinned (OpenSpec.ofChange columnAllWrong)

/-- 'rabbetlaw10.ColumnBack': WHATEVER THE INPUT: true; the input reads as it did. -/
def columnBackSpec : ChangeSpec := { name := "columnBack", fn := fun _ => fun
  | [d1, d2, d3, d4, d5] => { results := [.lit (.bool true)], args := [d1, d2, d3, d4, d5] }
  | _ => none }
def columnBackRow : OpenClaim := { program := "ytpkgjjdalliggaagreatdoor", sum := "2118c054e37bddc4ee6a9c761d4d7128521cdea0a1b73714041681546d317ac2", func := "rabbet/rabbetlaw10.ColumnBack", spec := "columnBack", inPlace := ["internal/reflectlite.TypeOf", "internal/bytealg.abigen_runtime_cmpstring"], unfollowed := true, recurses := true, named := ["rabbet/plain.errForm", "rabbet/num.errShort", "rabbet/num.errLong", "rabbet/rle.errForm", "rabbet/dict.errForm", "rabbet/pack.errForm", "rabbet/delta.errForm", "rabbet/nulls.errForm"], apart := false, laid := [("rabbet/num.errShort", laid_rabbet_num_errShort), ("rabbet/num.errLong", laid_rabbet_num_errLong), ("rabbet/nulls.errForm", laid_rabbet_nulls_errForm), ("rabbet/delta.errForm", laid_rabbet_delta_errForm), ("rabbet/dict.errForm", laid_rabbet_dict_errForm), ("rabbet/pack.errForm", laid_rabbet_pack_errForm), ("rabbet/plain.errForm", laid_rabbet_plain_errForm), ("rabbet/rle.errForm", laid_rabbet_rle_errForm)] }
def ColumnBackSaid : Prop := columnBackRow.holds Tryz.pinned (OpenSpec.ofChange columnBackSpec)

/-- ITS FALSE NEIGHBOUR: 'it returns false'. Refute it at one input. -/
def columnBackWrong : ChangeSpec := { name := "columnBack", fn := fun _ => fun
  | [d1, d2, d3, d4, d5] => { results := [.lit (.bool false)], args := [d1, d2, d3, d4, d5] }
  | _ => none }
def ColumnBackWrongFalsely : Prop := columnBackRow.holds Tryz.pinned (OpenSpec.ofChange columnBackWrong)

/-- 'rabbetlaw10.ColumnTurned': WHATEVER THE INPUT: true; the input reads as it did. -/
def columnTurnedSpec : ChangeSpec := { name := "columnTurned", fn := fun _ => fun
  | [d1, d2, d3, d4, d5] => { results := [.lit (.bool true)], args := [d1, d2, d3, d4, d5] }
  | _ => none }
def columnTurnedRow : OpenClaim := { program := "ytpkgjjdalliggaagreatdoor", sum := "2118c054e37bddc4ee6a9c761d4d7128521cdea0a1b73714041681546d317ac2", func := "rabbet/rabbetlaw10.ColumnTurned", spec := "columnTurned", inPlace := ["internal/reflectlite.TypeOf", "internal/bytealg.abigen_runtime_cmpstring"], unfollowed := true, recurses := true, named := ["rabbet/plain.errForm", "rabbet/num.errShort", "rabbet/num.errLong", "rabbet/rle.errForm", "rabbet/dict.errForm", "rabbet/pack.errForm", "rabbet/delta.errForm", "rabbet/nulls.errForm"], apart := false, laid := [("rabbet/num.errShort", laid_rabbet_num_errShort), ("rabbet/num.errLong", laid_rabbet_num_errLong), ("rabbet/nulls.errForm", laid_rabbet_nulls_errForm), ("rabbet/delta.errForm", laid_rabbet_delta_errForm), ("rabbet/dict.errForm", laid_rabbet_dict_errForm), ("rabbet/pack.errForm", laid_rabbet_pack_errForm), ("rabbet/plain.errForm", laid_rabbet_plain_errForm), ("rabbet/rle.errForm", laid_rabbet_rle_errForm)] }
def ColumnTurnedSaid : Prop := columnTurnedRow.holds Tryz.pinned (OpenSpec.ofChange columnTurnedSpec)

/-- ITS FALSE NEIGHBOUR: 'it returns false'. Refute it at one input. -/
def columnTurnedWrong : ChangeSpec := { name := "columnTurned", fn := fun _ => fun
  | [d1, d2, d3, d4, d5] => { results := [.lit (.bool false)], args := [d1, d2, d3, d4, d5] }
  | _ => none }
def ColumnTurnedWrongFalsely : Prop := columnTurnedRow.holds Tryz.pinned (OpenSpec.ofChange columnTurnedWrong)

/-- 'rabbetlaw10.ColumnForms': WHATEVER THE INPUT: true; the input reads as it did. -/
def columnFormsSpec : ChangeSpec := { name := "columnForms", fn := fun _ => fun
  | [] => { results := [.lit (.bool true)], args := [] }
  | _ => none }
def columnFormsRow : OpenClaim := { program := "ytpkgjjdalliggaagreatdoor", sum := "2118c054e37bddc4ee6a9c761d4d7128521cdea0a1b73714041681546d317ac2", func := "rabbet/rabbetlaw10.ColumnForms", spec := "columnForms", inPlace := ["internal/reflectlite.TypeOf", "internal/bytealg.abigen_runtime_cmpstring"], unfollowed := true, recurses := true, named := ["rabbet/plain.errForm", "rabbet/num.errShort", "rabbet/num.errLong", "rabbet/rle.errForm", "rabbet/dict.errForm", "rabbet/pack.errForm", "rabbet/delta.errForm", "rabbet/nulls.errForm"], apart := false, laid := [("rabbet/num.errShort", laid_rabbet_num_errShort), ("rabbet/num.errLong", laid_rabbet_num_errLong), ("rabbet/nulls.errForm", laid_rabbet_nulls_errForm), ("rabbet/delta.errForm", laid_rabbet_delta_errForm), ("rabbet/dict.errForm", laid_rabbet_dict_errForm), ("rabbet/pack.errForm", laid_rabbet_pack_errForm), ("rabbet/plain.errForm", laid_rabbet_plain_errForm), ("rabbet/rle.errForm", laid_rabbet_rle_errForm)] }
def ColumnFormsSaid : Prop := columnFormsRow.holds Tryz.pinned (OpenSpec.ofChange columnFormsSpec)

/-- ITS FALSE NEIGHBOUR: 'it returns false'. Refute it at one input. -/
def columnFormsWrong : ChangeSpec := { name := "columnForms", fn := fun _ => fun
  | [] => { results := [.lit (.bool false)], args := [] }
  | _ => none }
def ColumnFormsWrongFalsely : Prop := columnFormsRow.holds Tryz.pinned (OpenSpec.ofChange columnFormsWrong)

/- THE SECOND FORM. 'bulk': how many values and letters a reading holds, each counted each time it is reached (what is shared counts as often as it is met; a slice's spare places count too). A statement '..UptoSaid' is the law's where the arguments, and the package variables that the reading takes, are together of bulk at most 1048576: NARROWER than '..Said'. Prove '..Said' where nothing that the law and all that it calls make is longer than what came in: it says more and counts as full. Else prove '..UptoSaid'. A law counts once. -/
mutual
def uptoBulk {H : Type} : DataW H → Nat
  | .lit (.string bytes) => bytes.length + 1
  | .lit _ => 1
  | .nil => 1
  | .ptr d => uptoBulk d + 1
  | .slice elems spare => uptoBulkAll elems + uptoBulkAll spare + 1
  | .agg parts => uptoBulkAll parts + 1
  | .iface _ d => uptoBulk d + 1
  | .map entries => uptoBulkEntries entries + 1
  | .held _ => 1
def uptoBulkAll {H : Type} : List (DataW H) → Nat
  | [] => 0
  | d :: r => uptoBulk d + uptoBulkAll r
def uptoBulkEntries {H : Type} : List (Lit × DataW H) → Nat
  | [] => 0
  | x :: r => uptoBulkEntry x + uptoBulkEntries r
def uptoBulkEntry {H : Type} : Lit × DataW H → Nat
  | (.string bytes, d) => bytes.length + uptoBulk d + 1
  | (_, d) => uptoBulk d + 1
 end
def uptoSmall : (H : Type) → List (DataW H) → Bool := fun _ ds => decide (uptoBulkAll ds ≤ 1048576)
def OpenSpec.upto (s : _root_.Go.ChangeSpec) : _root_.Go.OpenSpec := { _root_.Go.OpenSpec.ofChange s with cond := some uptoSmall }

/-- 'rabbetlaw7.DictAll', WHERE WHAT IT READS IS OF BULK AT MOST 1048576: true; the input reads as it did. -/
def dictAllUptoRow : OpenClaim := { program := "ytpkgjjdalliggaagreatdoor", sum := "2118c054e37bddc4ee6a9c761d4d7128521cdea0a1b73714041681546d317ac2", func := "rabbet/rabbetlaw7.DictAll", spec := "dictAll", inPlace := ["internal/bytealg.abigen_runtime_cmpstring", "internal/reflectlite.TypeOf"], unfollowed := true, recurses := true, named := ["rabbet/dict.errForm", "rabbet/num.errShort", "rabbet/num.errLong"], apart := false, laid := [("rabbet/num.errShort", laid_rabbet_num_errShort), ("rabbet/num.errLong", laid_rabbet_num_errLong), ("rabbet/dict.errForm", laid_rabbet_dict_errForm)], narrowed := true }
def DictAllUptoSaid : Prop := dictAllUptoRow.holds Tryz.pinned (OpenSpec.upto dictAllSpec)

/-- 'rabbetlaw7.DictTurned', WHERE WHAT IT READS IS OF BULK AT MOST 1048576: true; the input reads as it did. -/
def dictTurnedUptoRow : OpenClaim := { program := "ytpkgjjdalliggaagreatdoor", sum := "2118c054e37bddc4ee6a9c761d4d7128521cdea0a1b73714041681546d317ac2", func := "rabbet/rabbetlaw7.DictTurned", spec := "dictTurned", inPlace := ["internal/bytealg.abigen_runtime_cmpstring", "internal/reflectlite.TypeOf"], unfollowed := true, recurses := true, named := ["rabbet/dict.errForm", "rabbet/num.errShort", "rabbet/num.errLong"], apart := false, laid := [("rabbet/num.errShort", laid_rabbet_num_errShort), ("rabbet/num.errLong", laid_rabbet_num_errLong), ("rabbet/dict.errForm", laid_rabbet_dict_errForm)], narrowed := true }
def DictTurnedUptoSaid : Prop := dictTurnedUptoRow.holds Tryz.pinned (OpenSpec.upto dictTurnedSpec)

/-- 'rabbetlaw10.ColumnAll', WHERE WHAT IT READS IS OF BULK AT MOST 1048576: true; the input reads as it did. -/
def columnAllUptoRow : OpenClaim := { program := "ytpkgjjdalliggaagreatdoor", sum := "2118c054e37bddc4ee6a9c761d4d7128521cdea0a1b73714041681546d317ac2", func := "rabbet/rabbetlaw10.ColumnAll", spec := "columnAll", inPlace := ["internal/reflectlite.TypeOf", "internal/bytealg.abigen_runtime_cmpstring"], unfollowed := true, recurses := true, named := ["rabbet/plain.errForm", "rabbet/num.errShort", "rabbet/num.errLong", "rabbet/rle.errForm", "rabbet/dict.errForm", "rabbet/pack.errForm", "rabbet/delta.errForm", "rabbet/nulls.errForm"], apart := false, laid := [("rabbet/num.errShort", laid_rabbet_num_errShort), ("rabbet/num.errLong", laid_rabbet_num_errLong), ("rabbet/nulls.errForm", laid_rabbet_nulls_errForm), ("rabbet/delta.errForm", laid_rabbet_delta_errForm), ("rabbet/dict.errForm", laid_rabbet_dict_errForm), ("rabbet/pack.errForm", laid_rabbet_pack_errForm), ("rabbet/plain.errForm", laid_rabbet_plain_errForm), ("rabbet/rle.errForm", laid_rabbet_rle_errForm)], narrowed := true }
def ColumnAllUptoSaid : Prop := columnAllUptoRow.holds Tryz.pinned (OpenSpec.upto columnAllSpec)

/-- 'rabbetlaw10.ColumnBack', WHERE WHAT IT READS IS OF BULK AT MOST 1048576: true; the input reads as it did. -/
def columnBackUptoRow : OpenClaim := { program := "ytpkgjjdalliggaagreatdoor", sum := "2118c054e37bddc4ee6a9c761d4d7128521cdea0a1b73714041681546d317ac2", func := "rabbet/rabbetlaw10.ColumnBack", spec := "columnBack", inPlace := ["internal/reflectlite.TypeOf", "internal/bytealg.abigen_runtime_cmpstring"], unfollowed := true, recurses := true, named := ["rabbet/plain.errForm", "rabbet/num.errShort", "rabbet/num.errLong", "rabbet/rle.errForm", "rabbet/dict.errForm", "rabbet/pack.errForm", "rabbet/delta.errForm", "rabbet/nulls.errForm"], apart := false, laid := [("rabbet/num.errShort", laid_rabbet_num_errShort), ("rabbet/num.errLong", laid_rabbet_num_errLong), ("rabbet/nulls.errForm", laid_rabbet_nulls_errForm), ("rabbet/delta.errForm", laid_rabbet_delta_errForm), ("rabbet/dict.errForm", laid_rabbet_dict_errForm), ("rabbet/pack.errForm", laid_rabbet_pack_errForm), ("rabbet/plain.errForm", laid_rabbet_plain_errForm), ("rabbet/rle.errForm", laid_rabbet_rle_errForm)], narrowed := true }
def ColumnBackUptoSaid : Prop := columnBackUptoRow.holds Tryz.pinned (OpenSpec.upto columnBackSpec)

/-- 'rabbetlaw10.ColumnTurned', WHERE WHAT IT READS IS OF BULK AT MOST 1048576: true; the input reads as it did. -/
def columnTurnedUptoRow : OpenClaim := { program := "ytpkgjjdalliggaagreatdoor", sum := "2118c054e37bddc4ee6a9c761d4d7128521cdea0a1b73714041681546d317ac2", func := "rabbet/rabbetlaw10.ColumnTurned", spec := "columnTurned", inPlace := ["internal/reflectlite.TypeOf", "internal/bytealg.abigen_runtime_cmpstring"], unfollowed := true, recurses := true, named := ["rabbet/plain.errForm", "rabbet/num.errShort", "rabbet/num.errLong", "rabbet/rle.errForm", "rabbet/dict.errForm", "rabbet/pack.errForm", "rabbet/delta.errForm", "rabbet/nulls.errForm"], apart := false, laid := [("rabbet/num.errShort", laid_rabbet_num_errShort), ("rabbet/num.errLong", laid_rabbet_num_errLong), ("rabbet/nulls.errForm", laid_rabbet_nulls_errForm), ("rabbet/delta.errForm", laid_rabbet_delta_errForm), ("rabbet/dict.errForm", laid_rabbet_dict_errForm), ("rabbet/pack.errForm", laid_rabbet_pack_errForm), ("rabbet/plain.errForm", laid_rabbet_plain_errForm), ("rabbet/rle.errForm", laid_rabbet_rle_errForm)], narrowed := true }
def ColumnTurnedUptoSaid : Prop := columnTurnedUptoRow.holds Tryz.pinned (OpenSpec.upto columnTurnedSpec)

/-- 'rabbetlaw10.ColumnForms', WHERE WHAT IT READS IS OF BULK AT MOST 1048576: true; the input reads as it did. -/
def columnFormsUptoRow : OpenClaim := { program := "ytpkgjjdalliggaagreatdoor", sum := "2118c054e37bddc4ee6a9c761d4d7128521cdea0a1b73714041681546d317ac2", func := "rabbet/rabbetlaw10.ColumnForms", spec := "columnForms", inPlace := ["internal/reflectlite.TypeOf", "internal/bytealg.abigen_runtime_cmpstring"], unfollowed := true, recurses := true, named := ["rabbet/plain.errForm", "rabbet/num.errShort", "rabbet/num.errLong", "rabbet/rle.errForm", "rabbet/dict.errForm", "rabbet/pack.errForm", "rabbet/delta.errForm", "rabbet/nulls.errForm"], apart := false, laid := [("rabbet/num.errShort", laid_rabbet_num_errShort), ("rabbet/num.errLong", laid_rabbet_num_errLong), ("rabbet/nulls.errForm", laid_rabbet_nulls_errForm), ("rabbet/delta.errForm", laid_rabbet_delta_errForm), ("rabbet/dict.errForm", laid_rabbet_dict_errForm), ("rabbet/pack.errForm", laid_rabbet_pack_errForm), ("rabbet/plain.errForm", laid_rabbet_plain_errForm), ("rabbet/rle.errForm", laid_rabbet_rle_errForm)], narrowed := true }
def ColumnFormsUptoSaid : Prop := columnFormsUptoRow.holds Tryz.pinned (OpenSpec.upto columnFormsSpec)

end Rows
end Go.Proofs.YtpkgjjdalliggaaGreatDoor
