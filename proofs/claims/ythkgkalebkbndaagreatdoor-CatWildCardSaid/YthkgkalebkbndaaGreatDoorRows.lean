/-
  NARROWER THAN 'FOR EVERY INPUT', by the rows' own cells (each row's printed sentence says how): CatAll: laid · CatTake: laid · CatWild: laid · CatOnce: laid · SegAll: laid · SegBack: laid · SegTurned: laid · SegTrue: laid · SegForms: laid.
  DERIVED. THE GIVEN ROWS OF THIS SEAT. 9 by the template 'for every input the law returns true; each argument reads behind the call as it read before'; 0 by the template 'total and deterministic' (their statements: YthkgkalebkbndaaGreatDoorTotals.lean).
  GIVEN WITH THE SEED: the statements are not yours to turn. If you find one false, say at which input.
  Laid BY PROGRAM, IN A SANDBOX (cutbox-rows.mjs): the forced cells as the released guide's own fill.sh prints them over the translation 6908d22a6356daf1… (all of the seat's roots in one cut). By AI agents, Wed Nov 11 2026. No macro, syntax, notation, axiom, sorry.
-/
import Derived.Test.YthkgkalebkbndaaGreatDoorChecked
import GoSem.Claim
import GoSem.ClaimJoined
import GoSem.ClaimMapViews
import Derived.JoinedTies
import Derived.KernelRfl
namespace Go.Proofs.YthkgkalebkbndaaGreatDoor
/- THE CELL 'sum', in the pinned program and in every row, IS THE sha256 OF THE DUMP (.gsa) THAT YthkgkalebkbndaaGreatDoorProg.lean LOADS. Nothing in Lean hashes anything: it is a label: what it is worth is what the hold of that sum in a sandbox is worth. -/
noncomputable def Tryz.pinned : Pinned := { name := "ythkgkalebkbndaagreatdoor", sum := "6908d22a6356daf124b193a5eb27a0d8c922cd693dc3431097a7fbbae0b0d02d", checked := Tryz.checked }
namespace Rows
def none {H : Type} : Left H := { results := [], args := [] }

/- WHAT THE LISTED PACKAGE-LEVEL VARIABLES READ AS WHEN THE CALL BEGINS. Each datum BY PROGRAM (the guide's laid-datum.mjs) off the statement by which the dump's own 'gosem.cut.vars' lays the variable. In a bare row this is a premise. The card (YthkgkalebkbndaaGreatDoorCards.lean) ties it to the program's text. -/
def laid_rabbet_num_errShort {H : Type} : DataW H := .iface "*errors.errorString" (.ptr (.agg [.lit (.string [101, 110, 100, 115, 32, 116, 111, 111, 32, 115, 111, 111, 110])]))
def laid_rabbet_num_errLong {H : Type} : DataW H := .iface "*errors.errorString" (.ptr (.agg [.lit (.string [105, 115, 32, 110, 111, 116, 32, 97, 115, 32, 115, 104, 111, 114, 116, 32, 97, 115, 32, 109, 97, 121, 32, 98, 101])]))
def laid_rabbet_schema_errArg {H : Type} : DataW H := .iface "*errors.errorString" (.ptr (.agg [.lit (.string [119, 104, 97, 116, 32, 109, 97, 121, 32, 110, 111, 116, 32, 98, 101])]))
def laid_rabbet_schema_errNone {H : Type} : DataW H := .iface "*errors.errorString" (.ptr (.agg [.lit (.string [110, 111, 32, 115, 117, 99, 104, 32, 99, 111, 108, 117, 109, 110])]))
def laid_rabbet_schema_errType {H : Type} : DataW H := .iface "*errors.errorString" (.ptr (.agg [.lit (.string [111, 102, 32, 97, 110, 111, 116, 104, 101, 114, 32, 116, 121, 112, 101])]))
def laid_rabbet_schema_errExist {H : Type} : DataW H := .iface "*errors.errorString" (.ptr (.agg [.lit (.string [116, 104, 101, 114, 101, 32, 97, 108, 114, 101, 97, 100, 121])]))
def laid_rabbet_schema_errFull {H : Type} : DataW H := .iface "*errors.errorString" (.ptr (.agg [.lit (.string [110, 111, 32, 114, 111, 111, 109])]))
def laid_rabbet_cat_errForm {H : Type} : DataW H := .iface "*errors.errorString" (.ptr (.agg [.lit (.string [100, 111, 101, 115, 32, 110, 111, 116, 32, 102, 105, 116])]))
def laid_errors_errorType {H : Type} : DataW H := .iface "internal/reflectlite.rtype" (.agg [.ptr (.lit (.string [101, 114, 114, 111, 114]))])
def laid_rabbet_nulls_errForm {H : Type} : DataW H := .iface "*errors.errorString" (.ptr (.agg [.lit (.string [105, 115, 32, 110, 111, 116, 32, 111, 102, 32, 115, 111, 32, 109, 97, 110, 121])]))
def laid_rabbet_value_errShort {H : Type} : DataW H := .iface "*errors.errorString" (.ptr (.agg [.lit (.string [101, 110, 100, 115, 32, 116, 111, 111, 32, 115, 111, 111, 110])]))
def laid_rabbet_delta_errForm {H : Type} : DataW H := .iface "*errors.errorString" (.ptr (.agg [.lit (.string [115, 97, 121, 115, 32, 110, 111, 32, 99, 111, 108, 117, 109, 110])]))
def laid_rabbet_dict_errForm {H : Type} : DataW H := .iface "*errors.errorString" (.ptr (.agg [.lit (.string [115, 97, 121, 115, 32, 110, 111, 32, 99, 111, 108, 117, 109, 110])]))
def laid_rabbet_pack_errForm {H : Type} : DataW H := .iface "*errors.errorString" (.ptr (.agg [.lit (.string [115, 97, 121, 115, 32, 110, 111, 32, 99, 111, 108, 117, 109, 110])]))
def laid_rabbet_plain_errForm {H : Type} : DataW H := .iface "*errors.errorString" (.ptr (.agg [.lit (.string [115, 97, 121, 115, 32, 110, 111, 32, 99, 111, 108, 117, 109, 110])]))
def laid_rabbet_rle_errForm {H : Type} : DataW H := .iface "*errors.errorString" (.ptr (.agg [.lit (.string [115, 97, 121, 115, 32, 110, 111, 32, 99, 111, 108, 117, 109, 110])]))

/-- 'rabbetlaw22.CatAll': WHATEVER THE INPUT: true; the input reads as it did. -/
def catAllSpec : ChangeSpec := { name := "catAll", fn := fun _ => fun
  | [d] => { results := [.lit (.bool true)], args := [d] }
  | _ => none }
def catAllRow : OpenClaim := { program := "ythkgkalebkbndaagreatdoor", sum := "6908d22a6356daf124b193a5eb27a0d8c922cd693dc3431097a7fbbae0b0d02d", func := "rabbet/rabbetlaw22.CatAll", spec := "catAll", inPlace := ["slices.overlaps[rabbet/api.Column]", "slices.overlaps[int]", "internal/reflectlite.TypeOf", "internal/bytealg.IndexByteString", "slices.overlaps[rabbet/api.Value]"], unfollowed := true, recurses := true, named := ["rabbet/cat.errForm", "rabbet/schema.errNone", "rabbet/schema.errArg", "rabbet/schema.errType", "rabbet/schema.errExist", "rabbet/schema.errFull", "rabbet/num.errShort", "rabbet/num.errLong"], apart := false, laid := [("rabbet/num.errShort", laid_rabbet_num_errShort), ("rabbet/num.errLong", laid_rabbet_num_errLong), ("rabbet/schema.errArg", laid_rabbet_schema_errArg), ("rabbet/schema.errNone", laid_rabbet_schema_errNone), ("rabbet/schema.errType", laid_rabbet_schema_errType), ("rabbet/schema.errExist", laid_rabbet_schema_errExist), ("rabbet/schema.errFull", laid_rabbet_schema_errFull), ("rabbet/cat.errForm", laid_rabbet_cat_errForm)] }
def CatAllSaid : Prop := catAllRow.holds Tryz.pinned (OpenSpec.ofChange catAllSpec)

/-- ITS FALSE NEIGHBOUR: 'it returns false'. Refute it at one input. -/
def catAllWrong : ChangeSpec := { name := "catAll", fn := fun _ => fun
  | [d] => { results := [.lit (.bool false)], args := [d] }
  | _ => none }
def CatAllWrongFalsely : Prop := catAllRow.holds Tryz.pinned (OpenSpec.ofChange catAllWrong)

/-- 'rabbetlaw22.CatTake': WHATEVER THE INPUT: true; the input reads as it did. -/
def catTakeSpec : ChangeSpec := { name := "catTake", fn := fun _ => fun
  | [d1, d2, d3, d4] => { results := [.lit (.bool true)], args := [d1, d2, d3, d4] }
  | _ => none }
def catTakeRow : OpenClaim := { program := "ythkgkalebkbndaagreatdoor", sum := "6908d22a6356daf124b193a5eb27a0d8c922cd693dc3431097a7fbbae0b0d02d", func := "rabbet/rabbetlaw22.CatTake", spec := "catTake", inPlace := ["slices.overlaps[rabbet/api.Column]", "slices.overlaps[int]", "internal/reflectlite.TypeOf", "internal/bytealg.IndexByteString", "slices.overlaps[rabbet/api.Value]"], unfollowed := true, recurses := true, named := ["rabbet/cat.errForm", "rabbet/schema.errNone", "rabbet/schema.errArg", "rabbet/schema.errType", "rabbet/schema.errExist", "rabbet/schema.errFull", "rabbet/num.errShort", "rabbet/num.errLong"], apart := false, laid := [("rabbet/num.errShort", laid_rabbet_num_errShort), ("rabbet/num.errLong", laid_rabbet_num_errLong), ("rabbet/schema.errArg", laid_rabbet_schema_errArg), ("rabbet/schema.errNone", laid_rabbet_schema_errNone), ("rabbet/schema.errType", laid_rabbet_schema_errType), ("rabbet/schema.errExist", laid_rabbet_schema_errExist), ("rabbet/schema.errFull", laid_rabbet_schema_errFull), ("rabbet/cat.errForm", laid_rabbet_cat_errForm)] }
def CatTakeSaid : Prop := catTakeRow.holds Tryz.pinned (OpenSpec.ofChange catTakeSpec)

/-- ITS FALSE NEIGHBOUR: 'it returns false'. Refute it at one input. -/
def catTakeWrong : ChangeSpec := { name := "catTake", fn := fun _ => fun
  | [d1, d2, d3, d4] => { results := [.lit (.bool false)], args := [d1, d2, d3, d4] }
  | _ => none }
def CatTakeWrongFalsely : Prop := catTakeRow.holds Tryz.pinned (OpenSpec.ofChange catTakeWrong)

/-- 'rabbetlaw22.CatWild': WHATEVER THE INPUT: true; the input reads as it did. -/
def catWildSpec : ChangeSpec := { name := "catWild", fn := fun _ => fun
  | [d1, d2, d3, d4] => { results := [.lit (.bool true)], args := [d1, d2, d3, d4] }
  | _ => none }
def catWildRow : OpenClaim := { program := "ythkgkalebkbndaagreatdoor", sum := "6908d22a6356daf124b193a5eb27a0d8c922cd693dc3431097a7fbbae0b0d02d", func := "rabbet/rabbetlaw22.CatWild", spec := "catWild", inPlace := ["slices.overlaps[rabbet/api.Column]", "slices.overlaps[int]", "internal/reflectlite.TypeOf", "internal/bytealg.IndexByteString", "slices.overlaps[rabbet/api.Value]"], unfollowed := true, recurses := true, named := ["rabbet/cat.errForm", "rabbet/schema.errNone", "rabbet/schema.errArg", "rabbet/schema.errType", "rabbet/schema.errExist", "rabbet/schema.errFull", "rabbet/num.errShort", "rabbet/num.errLong"], apart := false, laid := [("rabbet/num.errShort", laid_rabbet_num_errShort), ("rabbet/num.errLong", laid_rabbet_num_errLong), ("rabbet/schema.errArg", laid_rabbet_schema_errArg), ("rabbet/schema.errNone", laid_rabbet_schema_errNone), ("rabbet/schema.errType", laid_rabbet_schema_errType), ("rabbet/schema.errExist", laid_rabbet_schema_errExist), ("rabbet/schema.errFull", laid_rabbet_schema_errFull), ("rabbet/cat.errForm", laid_rabbet_cat_errForm)] }
def CatWildSaid : Prop := catWildRow.holds Tryz.pinned (OpenSpec.ofChange catWildSpec)

/-- ITS FALSE NEIGHBOUR: 'it returns false'. Refute it at one input. -/
def catWildWrong : ChangeSpec := { name := "catWild", fn := fun _ => fun
  | [d1, d2, d3, d4] => { results := [.lit (.bool false)], args := [d1, d2, d3, d4] }
  | _ => none }
def CatWildWrongFalsely : Prop := catWildRow.holds Tryz.pinned (OpenSpec.ofChange catWildWrong)

/-- 'rabbetlaw22.CatOnce': WHATEVER THE INPUT: true; the input reads as it did. -/
def catOnceSpec : ChangeSpec := { name := "catOnce", fn := fun _ => fun
  | [d] => { results := [.lit (.bool true)], args := [d] }
  | _ => none }
def catOnceRow : OpenClaim := { program := "ythkgkalebkbndaagreatdoor", sum := "6908d22a6356daf124b193a5eb27a0d8c922cd693dc3431097a7fbbae0b0d02d", func := "rabbet/rabbetlaw22.CatOnce", spec := "catOnce", inPlace := ["slices.overlaps[rabbet/api.Column]", "slices.overlaps[int]", "internal/reflectlite.TypeOf", "internal/bytealg.IndexByteString", "slices.overlaps[rabbet/api.Value]"], unfollowed := true, recurses := true, named := ["rabbet/cat.errForm", "rabbet/schema.errNone", "rabbet/schema.errArg", "rabbet/schema.errType", "rabbet/schema.errExist", "rabbet/schema.errFull", "rabbet/num.errShort", "rabbet/num.errLong"], apart := false, laid := [("rabbet/num.errShort", laid_rabbet_num_errShort), ("rabbet/num.errLong", laid_rabbet_num_errLong), ("rabbet/schema.errArg", laid_rabbet_schema_errArg), ("rabbet/schema.errNone", laid_rabbet_schema_errNone), ("rabbet/schema.errType", laid_rabbet_schema_errType), ("rabbet/schema.errExist", laid_rabbet_schema_errExist), ("rabbet/schema.errFull", laid_rabbet_schema_errFull), ("rabbet/cat.errForm", laid_rabbet_cat_errForm)] }
def CatOnceSaid : Prop := catOnceRow.holds Tryz.pinned (OpenSpec.ofChange catOnceSpec)

/-- ITS FALSE NEIGHBOUR: 'it returns false'. Refute it at one input. -/
def catOnceWrong : ChangeSpec := { name := "catOnce", fn := fun _ => fun
  | [d] => { results := [.lit (.bool false)], args := [d] }
  | _ => none }
def CatOnceWrongFalsely : Prop := catOnceRow.holds Tryz.pinned (OpenSpec.ofChange catOnceWrong)

/-- 'rabbetlaw17.SegAll': WHATEVER THE INPUT: true; the input reads as it did. -/
def segAllSpec : ChangeSpec := { name := "segAll", fn := fun _ => fun
  | [d1, d2, d3, d4, d5, d6] => { results := [.lit (.bool true)], args := [d1, d2, d3, d4, d5, d6] }
  | _ => none }
def segAllRow : OpenClaim := { program := "ythkgkalebkbndaagreatdoor", sum := "6908d22a6356daf124b193a5eb27a0d8c922cd693dc3431097a7fbbae0b0d02d", func := "rabbet/rabbetlaw17.SegAll", spec := "segAll", inPlace := ["internal/bytealg.abigen_runtime_cmpstring", "internal/reflectlite.TypeOf", "internal/reflectlite.ValueOf", "(internal/reflectlite.Value).Type", "(internal/reflectlite.Value).IsNil", "(internal/reflectlite.Value).Elem", "(internal/reflectlite.Value).Set"], unfollowed := true, recurses := true, named := ["rabbet/plain.errForm", "rabbet/num.errShort", "rabbet/num.errLong", "rabbet/rle.errForm", "rabbet/dict.errForm", "rabbet/pack.errForm", "rabbet/delta.errForm", "rabbet/value.errShort", "rabbet/nulls.errForm", "errors.errorType"], apart := false, laid := [("errors.errorType", laid_errors_errorType), ("rabbet/num.errShort", laid_rabbet_num_errShort), ("rabbet/num.errLong", laid_rabbet_num_errLong), ("rabbet/nulls.errForm", laid_rabbet_nulls_errForm), ("rabbet/value.errShort", laid_rabbet_value_errShort), ("rabbet/delta.errForm", laid_rabbet_delta_errForm), ("rabbet/dict.errForm", laid_rabbet_dict_errForm), ("rabbet/pack.errForm", laid_rabbet_pack_errForm), ("rabbet/plain.errForm", laid_rabbet_plain_errForm), ("rabbet/rle.errForm", laid_rabbet_rle_errForm)] }
def SegAllSaid : Prop := segAllRow.holds Tryz.pinned (OpenSpec.ofChange segAllSpec)

/-- ITS FALSE NEIGHBOUR: 'it returns false'. Refute it at one input. -/
def segAllWrong : ChangeSpec := { name := "segAll", fn := fun _ => fun
  | [d1, d2, d3, d4, d5, d6] => { results := [.lit (.bool false)], args := [d1, d2, d3, d4, d5, d6] }
  | _ => none }
def SegAllWrongFalsely : Prop := segAllRow.holds Tryz.pinned (OpenSpec.ofChange segAllWrong)

/-- 'rabbetlaw17.SegBack': WHATEVER THE INPUT: true; the input reads as it did. -/
def segBackSpec : ChangeSpec := { name := "segBack", fn := fun _ => fun
  | [d1, d2, d3, d4, d5, d6] => { results := [.lit (.bool true)], args := [d1, d2, d3, d4, d5, d6] }
  | _ => none }
def segBackRow : OpenClaim := { program := "ythkgkalebkbndaagreatdoor", sum := "6908d22a6356daf124b193a5eb27a0d8c922cd693dc3431097a7fbbae0b0d02d", func := "rabbet/rabbetlaw17.SegBack", spec := "segBack", inPlace := ["internal/bytealg.abigen_runtime_cmpstring", "internal/reflectlite.TypeOf", "internal/reflectlite.ValueOf", "(internal/reflectlite.Value).Type", "(internal/reflectlite.Value).IsNil", "(internal/reflectlite.Value).Elem", "(internal/reflectlite.Value).Set"], unfollowed := true, recurses := true, named := ["rabbet/plain.errForm", "rabbet/num.errShort", "rabbet/num.errLong", "rabbet/rle.errForm", "rabbet/dict.errForm", "rabbet/pack.errForm", "rabbet/delta.errForm", "rabbet/value.errShort", "rabbet/nulls.errForm", "errors.errorType"], apart := false, laid := [("errors.errorType", laid_errors_errorType), ("rabbet/num.errShort", laid_rabbet_num_errShort), ("rabbet/num.errLong", laid_rabbet_num_errLong), ("rabbet/nulls.errForm", laid_rabbet_nulls_errForm), ("rabbet/value.errShort", laid_rabbet_value_errShort), ("rabbet/delta.errForm", laid_rabbet_delta_errForm), ("rabbet/dict.errForm", laid_rabbet_dict_errForm), ("rabbet/pack.errForm", laid_rabbet_pack_errForm), ("rabbet/plain.errForm", laid_rabbet_plain_errForm), ("rabbet/rle.errForm", laid_rabbet_rle_errForm)] }
def SegBackSaid : Prop := segBackRow.holds Tryz.pinned (OpenSpec.ofChange segBackSpec)

/-- ITS FALSE NEIGHBOUR: 'it returns false'. Refute it at one input. -/
def segBackWrong : ChangeSpec := { name := "segBack", fn := fun _ => fun
  | [d1, d2, d3, d4, d5, d6] => { results := [.lit (.bool false)], args := [d1, d2, d3, d4, d5, d6] }
  | _ => none }
def SegBackWrongFalsely : Prop := segBackRow.holds Tryz.pinned (OpenSpec.ofChange segBackWrong)

/-- 'rabbetlaw17.SegTurned': WHATEVER THE INPUT: true; the input reads as it did. -/
def segTurnedSpec : ChangeSpec := { name := "segTurned", fn := fun _ => fun
  | [d1, d2, d3, d4, d5, d6] => { results := [.lit (.bool true)], args := [d1, d2, d3, d4, d5, d6] }
  | _ => none }
def segTurnedRow : OpenClaim := { program := "ythkgkalebkbndaagreatdoor", sum := "6908d22a6356daf124b193a5eb27a0d8c922cd693dc3431097a7fbbae0b0d02d", func := "rabbet/rabbetlaw17.SegTurned", spec := "segTurned", inPlace := ["internal/bytealg.abigen_runtime_cmpstring", "internal/reflectlite.TypeOf", "internal/reflectlite.ValueOf", "(internal/reflectlite.Value).Type", "(internal/reflectlite.Value).IsNil", "(internal/reflectlite.Value).Elem", "(internal/reflectlite.Value).Set"], unfollowed := true, recurses := true, named := ["rabbet/plain.errForm", "rabbet/num.errShort", "rabbet/num.errLong", "rabbet/rle.errForm", "rabbet/dict.errForm", "rabbet/pack.errForm", "rabbet/delta.errForm", "rabbet/value.errShort", "rabbet/nulls.errForm", "errors.errorType"], apart := false, laid := [("errors.errorType", laid_errors_errorType), ("rabbet/num.errShort", laid_rabbet_num_errShort), ("rabbet/num.errLong", laid_rabbet_num_errLong), ("rabbet/nulls.errForm", laid_rabbet_nulls_errForm), ("rabbet/value.errShort", laid_rabbet_value_errShort), ("rabbet/delta.errForm", laid_rabbet_delta_errForm), ("rabbet/dict.errForm", laid_rabbet_dict_errForm), ("rabbet/pack.errForm", laid_rabbet_pack_errForm), ("rabbet/plain.errForm", laid_rabbet_plain_errForm), ("rabbet/rle.errForm", laid_rabbet_rle_errForm)] }
def SegTurnedSaid : Prop := segTurnedRow.holds Tryz.pinned (OpenSpec.ofChange segTurnedSpec)

/-- ITS FALSE NEIGHBOUR: 'it returns false'. Refute it at one input. -/
def segTurnedWrong : ChangeSpec := { name := "segTurned", fn := fun _ => fun
  | [d1, d2, d3, d4, d5, d6] => { results := [.lit (.bool false)], args := [d1, d2, d3, d4, d5, d6] }
  | _ => none }
def SegTurnedWrongFalsely : Prop := segTurnedRow.holds Tryz.pinned (OpenSpec.ofChange segTurnedWrong)

/-- 'rabbetlaw17.SegTrue': WHATEVER THE INPUT: true; the input reads as it did. -/
def segTrueSpec : ChangeSpec := { name := "segTrue", fn := fun _ => fun
  | [d1, d2, d3, d4] => { results := [.lit (.bool true)], args := [d1, d2, d3, d4] }
  | _ => none }
def segTrueRow : OpenClaim := { program := "ythkgkalebkbndaagreatdoor", sum := "6908d22a6356daf124b193a5eb27a0d8c922cd693dc3431097a7fbbae0b0d02d", func := "rabbet/rabbetlaw17.SegTrue", spec := "segTrue", inPlace := ["internal/bytealg.abigen_runtime_cmpstring", "internal/reflectlite.TypeOf", "internal/reflectlite.ValueOf", "(internal/reflectlite.Value).Type", "(internal/reflectlite.Value).IsNil", "(internal/reflectlite.Value).Elem", "(internal/reflectlite.Value).Set"], unfollowed := true, recurses := true, named := ["rabbet/plain.errForm", "rabbet/num.errShort", "rabbet/num.errLong", "rabbet/rle.errForm", "rabbet/dict.errForm", "rabbet/pack.errForm", "rabbet/delta.errForm", "rabbet/value.errShort", "rabbet/nulls.errForm", "errors.errorType"], apart := false, laid := [("errors.errorType", laid_errors_errorType), ("rabbet/num.errShort", laid_rabbet_num_errShort), ("rabbet/num.errLong", laid_rabbet_num_errLong), ("rabbet/nulls.errForm", laid_rabbet_nulls_errForm), ("rabbet/value.errShort", laid_rabbet_value_errShort), ("rabbet/delta.errForm", laid_rabbet_delta_errForm), ("rabbet/dict.errForm", laid_rabbet_dict_errForm), ("rabbet/pack.errForm", laid_rabbet_pack_errForm), ("rabbet/plain.errForm", laid_rabbet_plain_errForm), ("rabbet/rle.errForm", laid_rabbet_rle_errForm)] }
def SegTrueSaid : Prop := segTrueRow.holds Tryz.pinned (OpenSpec.ofChange segTrueSpec)

/-- ITS FALSE NEIGHBOUR: 'it returns false'. Refute it at one input. -/
def segTrueWrong : ChangeSpec := { name := "segTrue", fn := fun _ => fun
  | [d1, d2, d3, d4] => { results := [.lit (.bool false)], args := [d1, d2, d3, d4] }
  | _ => none }
def SegTrueWrongFalsely : Prop := segTrueRow.holds Tryz.pinned (OpenSpec.ofChange segTrueWrong)

/-- 'rabbetlaw17.SegForms': WHATEVER THE INPUT: true; the input reads as it did. -/
def segFormsSpec : ChangeSpec := { name := "segForms", fn := fun _ => fun
  | [] => { results := [.lit (.bool true)], args := [] }
  | _ => none }
def segFormsRow : OpenClaim := { program := "ythkgkalebkbndaagreatdoor", sum := "6908d22a6356daf124b193a5eb27a0d8c922cd693dc3431097a7fbbae0b0d02d", func := "rabbet/rabbetlaw17.SegForms", spec := "segForms", inPlace := ["internal/bytealg.abigen_runtime_cmpstring", "internal/reflectlite.TypeOf", "internal/reflectlite.ValueOf", "(internal/reflectlite.Value).Type", "(internal/reflectlite.Value).IsNil", "(internal/reflectlite.Value).Elem", "(internal/reflectlite.Value).Set"], unfollowed := true, recurses := true, named := ["rabbet/plain.errForm", "rabbet/num.errShort", "rabbet/num.errLong", "rabbet/rle.errForm", "rabbet/dict.errForm", "rabbet/pack.errForm", "rabbet/delta.errForm", "rabbet/value.errShort", "rabbet/nulls.errForm", "errors.errorType"], apart := false, laid := [("errors.errorType", laid_errors_errorType), ("rabbet/num.errShort", laid_rabbet_num_errShort), ("rabbet/num.errLong", laid_rabbet_num_errLong), ("rabbet/nulls.errForm", laid_rabbet_nulls_errForm), ("rabbet/value.errShort", laid_rabbet_value_errShort), ("rabbet/delta.errForm", laid_rabbet_delta_errForm), ("rabbet/dict.errForm", laid_rabbet_dict_errForm), ("rabbet/pack.errForm", laid_rabbet_pack_errForm), ("rabbet/plain.errForm", laid_rabbet_plain_errForm), ("rabbet/rle.errForm", laid_rabbet_rle_errForm)] }
def SegFormsSaid : Prop := segFormsRow.holds Tryz.pinned (OpenSpec.ofChange segFormsSpec)

/-- ITS FALSE NEIGHBOUR: 'it returns false'. Refute it at one input. -/
def segFormsWrong : ChangeSpec := { name := "segForms", fn := fun _ => fun
  | [] => { results := [.lit (.bool false)], args := [] }
  | _ => none }
def SegFormsWrongFalsely : Prop := segFormsRow.holds Tryz.pinned (OpenSpec.ofChange segFormsWrong)

/- THE SECOND FORM. 'bulk': how many values and letters a reading holds, each counted each time it is reached (what is shared counts as often as it is met; a slice's spare places count too). A statement '..UptoSaid' is the law's where the arguments, and the package variables that the reading takes, are together of bulk at most 1048576: NARROWER than '..Said'. Prove '..Said' where nothing that the law and all that it calls make is longer than what came in: it says more and counts as full. Else prove '..UptoSaid'. A law counts once. -/
mutual
def uptoBulk {H : Type} : DataW H → Nat
  | .lit (.string bytes) => bytes.length + 1
  | .lit _ => 1
  | .nil => 1
  | .ptr d => uptoBulk d + 1
  | .slice elems spare => uptoBulkAll elems + uptoBulkAll spare + 1
  | .agg parts => uptoBulkAll parts + 1
  | .iface _ d => uptoBulk d + 1
  | .map entries => uptoBulkEntries entries + 1
  | .held _ => 1
def uptoBulkAll {H : Type} : List (DataW H) → Nat
  | [] => 0
  | d :: r => uptoBulk d + uptoBulkAll r
def uptoBulkEntries {H : Type} : List (Lit × DataW H) → Nat
  | [] => 0
  | x :: r => uptoBulkEntry x + uptoBulkEntries r
def uptoBulkEntry {H : Type} : Lit × DataW H → Nat
  | (.string bytes, d) => bytes.length + uptoBulk d + 1
  | (_, d) => uptoBulk d + 1
 end
def uptoSmall : (H : Type) → List (DataW H) → Bool := fun _ ds => decide (uptoBulkAll ds ≤ 1048576)
def OpenSpec.upto (s : _root_.Go.ChangeSpec) : _root_.Go.OpenSpec := { _root_.Go.OpenSpec.ofChange s with cond := some uptoSmall }

/-- 'rabbetlaw22.CatAll', WHERE WHAT IT READS IS OF BULK AT MOST 1048576: true; the input reads as it did. -/
def catAllUptoRow : OpenClaim := { program := "ythkgkalebkbndaagreatdoor", sum := "6908d22a6356daf124b193a5eb27a0d8c922cd693dc3431097a7fbbae0b0d02d", func := "rabbet/rabbetlaw22.CatAll", spec := "catAll", inPlace := ["slices.overlaps[rabbet/api.Column]", "slices.overlaps[int]", "internal/reflectlite.TypeOf", "internal/bytealg.IndexByteString", "slices.overlaps[rabbet/api.Value]"], unfollowed := true, recurses := true, named := ["rabbet/cat.errForm", "rabbet/schema.errNone", "rabbet/schema.errArg", "rabbet/schema.errType", "rabbet/schema.errExist", "rabbet/schema.errFull", "rabbet/num.errShort", "rabbet/num.errLong"], apart := false, laid := [("rabbet/num.errShort", laid_rabbet_num_errShort), ("rabbet/num.errLong", laid_rabbet_num_errLong), ("rabbet/schema.errArg", laid_rabbet_schema_errArg), ("rabbet/schema.errNone", laid_rabbet_schema_errNone), ("rabbet/schema.errType", laid_rabbet_schema_errType), ("rabbet/schema.errExist", laid_rabbet_schema_errExist), ("rabbet/schema.errFull", laid_rabbet_schema_errFull), ("rabbet/cat.errForm", laid_rabbet_cat_errForm)], narrowed := true }
def CatAllUptoSaid : Prop := catAllUptoRow.holds Tryz.pinned (OpenSpec.upto catAllSpec)

/-- 'rabbetlaw22.CatTake', WHERE WHAT IT READS IS OF BULK AT MOST 1048576: true; the input reads as it did. -/
def catTakeUptoRow : OpenClaim := { program := "ythkgkalebkbndaagreatdoor", sum := "6908d22a6356daf124b193a5eb27a0d8c922cd693dc3431097a7fbbae0b0d02d", func := "rabbet/rabbetlaw22.CatTake", spec := "catTake", inPlace := ["slices.overlaps[rabbet/api.Column]", "slices.overlaps[int]", "internal/reflectlite.TypeOf", "internal/bytealg.IndexByteString", "slices.overlaps[rabbet/api.Value]"], unfollowed := true, recurses := true, named := ["rabbet/cat.errForm", "rabbet/schema.errNone", "rabbet/schema.errArg", "rabbet/schema.errType", "rabbet/schema.errExist", "rabbet/schema.errFull", "rabbet/num.errShort", "rabbet/num.errLong"], apart := false, laid := [("rabbet/num.errShort", laid_rabbet_num_errShort), ("rabbet/num.errLong", laid_rabbet_num_errLong), ("rabbet/schema.errArg", laid_rabbet_schema_errArg), ("rabbet/schema.errNone", laid_rabbet_schema_errNone), ("rabbet/schema.errType", laid_rabbet_schema_errType), ("rabbet/schema.errExist", laid_rabbet_schema_errExist), ("rabbet/schema.errFull", laid_rabbet_schema_errFull), ("rabbet/cat.errForm", laid_rabbet_cat_errForm)], narrowed := true }
def CatTakeUptoSaid : Prop := catTakeUptoRow.holds Tryz.pinned (OpenSpec.upto catTakeSpec)

/-- 'rabbetlaw22.CatWild', WHERE WHAT IT READS IS OF BULK AT MOST 1048576: true; the input reads as it did. -/
def catWildUptoRow : OpenClaim := { program := "ythkgkalebkbndaagreatdoor", sum := "6908d22a6356daf124b193a5eb27a0d8c922cd693dc3431097a7fbbae0b0d02d", func := "rabbet/rabbetlaw22.CatWild", spec := "catWild", inPlace := ["slices.overlaps[rabbet/api.Column]", "slices.overlaps[int]", "internal/reflectlite.TypeOf", "internal/bytealg.IndexByteString", "slices.overlaps[rabbet/api.Value]"], unfollowed := true, recurses := true, named := ["rabbet/cat.errForm", "rabbet/schema.errNone", "rabbet/schema.errArg", "rabbet/schema.errType", "rabbet/schema.errExist", "rabbet/schema.errFull", "rabbet/num.errShort", "rabbet/num.errLong"], apart := false, laid := [("rabbet/num.errShort", laid_rabbet_num_errShort), ("rabbet/num.errLong", laid_rabbet_num_errLong), ("rabbet/schema.errArg", laid_rabbet_schema_errArg), ("rabbet/schema.errNone", laid_rabbet_schema_errNone), ("rabbet/schema.errType", laid_rabbet_schema_errType), ("rabbet/schema.errExist", laid_rabbet_schema_errExist), ("rabbet/schema.errFull", laid_rabbet_schema_errFull), ("rabbet/cat.errForm", laid_rabbet_cat_errForm)], narrowed := true }
def CatWildUptoSaid : Prop := catWildUptoRow.holds Tryz.pinned (OpenSpec.upto catWildSpec)

/-- 'rabbetlaw22.CatOnce', WHERE WHAT IT READS IS OF BULK AT MOST 1048576: true; the input reads as it did. -/
def catOnceUptoRow : OpenClaim := { program := "ythkgkalebkbndaagreatdoor", sum := "6908d22a6356daf124b193a5eb27a0d8c922cd693dc3431097a7fbbae0b0d02d", func := "rabbet/rabbetlaw22.CatOnce", spec := "catOnce", inPlace := ["slices.overlaps[rabbet/api.Column]", "slices.overlaps[int]", "internal/reflectlite.TypeOf", "internal/bytealg.IndexByteString", "slices.overlaps[rabbet/api.Value]"], unfollowed := true, recurses := true, named := ["rabbet/cat.errForm", "rabbet/schema.errNone", "rabbet/schema.errArg", "rabbet/schema.errType", "rabbet/schema.errExist", "rabbet/schema.errFull", "rabbet/num.errShort", "rabbet/num.errLong"], apart := false, laid := [("rabbet/num.errShort", laid_rabbet_num_errShort), ("rabbet/num.errLong", laid_rabbet_num_errLong), ("rabbet/schema.errArg", laid_rabbet_schema_errArg), ("rabbet/schema.errNone", laid_rabbet_schema_errNone), ("rabbet/schema.errType", laid_rabbet_schema_errType), ("rabbet/schema.errExist", laid_rabbet_schema_errExist), ("rabbet/schema.errFull", laid_rabbet_schema_errFull), ("rabbet/cat.errForm", laid_rabbet_cat_errForm)], narrowed := true }
def CatOnceUptoSaid : Prop := catOnceUptoRow.holds Tryz.pinned (OpenSpec.upto catOnceSpec)

/-- 'rabbetlaw17.SegAll', WHERE WHAT IT READS IS OF BULK AT MOST 1048576: true; the input reads as it did. -/
def segAllUptoRow : OpenClaim := { program := "ythkgkalebkbndaagreatdoor", sum := "6908d22a6356daf124b193a5eb27a0d8c922cd693dc3431097a7fbbae0b0d02d", func := "rabbet/rabbetlaw17.SegAll", spec := "segAll", inPlace := ["internal/bytealg.abigen_runtime_cmpstring", "internal/reflectlite.TypeOf", "internal/reflectlite.ValueOf", "(internal/reflectlite.Value).Type", "(internal/reflectlite.Value).IsNil", "(internal/reflectlite.Value).Elem", "(internal/reflectlite.Value).Set"], unfollowed := true, recurses := true, named := ["rabbet/plain.errForm", "rabbet/num.errShort", "rabbet/num.errLong", "rabbet/rle.errForm", "rabbet/dict.errForm", "rabbet/pack.errForm", "rabbet/delta.errForm", "rabbet/value.errShort", "rabbet/nulls.errForm", "errors.errorType"], apart := false, laid := [("errors.errorType", laid_errors_errorType), ("rabbet/num.errShort", laid_rabbet_num_errShort), ("rabbet/num.errLong", laid_rabbet_num_errLong), ("rabbet/nulls.errForm", laid_rabbet_nulls_errForm), ("rabbet/value.errShort", laid_rabbet_value_errShort), ("rabbet/delta.errForm", laid_rabbet_delta_errForm), ("rabbet/dict.errForm", laid_rabbet_dict_errForm), ("rabbet/pack.errForm", laid_rabbet_pack_errForm), ("rabbet/plain.errForm", laid_rabbet_plain_errForm), ("rabbet/rle.errForm", laid_rabbet_rle_errForm)], narrowed := true }
def SegAllUptoSaid : Prop := segAllUptoRow.holds Tryz.pinned (OpenSpec.upto segAllSpec)

/-- 'rabbetlaw17.SegBack', WHERE WHAT IT READS IS OF BULK AT MOST 1048576: true; the input reads as it did. -/
def segBackUptoRow : OpenClaim := { program := "ythkgkalebkbndaagreatdoor", sum := "6908d22a6356daf124b193a5eb27a0d8c922cd693dc3431097a7fbbae0b0d02d", func := "rabbet/rabbetlaw17.SegBack", spec := "segBack", inPlace := ["internal/bytealg.abigen_runtime_cmpstring", "internal/reflectlite.TypeOf", "internal/reflectlite.ValueOf", "(internal/reflectlite.Value).Type", "(internal/reflectlite.Value).IsNil", "(internal/reflectlite.Value).Elem", "(internal/reflectlite.Value).Set"], unfollowed := true, recurses := true, named := ["rabbet/plain.errForm", "rabbet/num.errShort", "rabbet/num.errLong", "rabbet/rle.errForm", "rabbet/dict.errForm", "rabbet/pack.errForm", "rabbet/delta.errForm", "rabbet/value.errShort", "rabbet/nulls.errForm", "errors.errorType"], apart := false, laid := [("errors.errorType", laid_errors_errorType), ("rabbet/num.errShort", laid_rabbet_num_errShort), ("rabbet/num.errLong", laid_rabbet_num_errLong), ("rabbet/nulls.errForm", laid_rabbet_nulls_errForm), ("rabbet/value.errShort", laid_rabbet_value_errShort), ("rabbet/delta.errForm", laid_rabbet_delta_errForm), ("rabbet/dict.errForm", laid_rabbet_dict_errForm), ("rabbet/pack.errForm", laid_rabbet_pack_errForm), ("rabbet/plain.errForm", laid_rabbet_plain_errForm), ("rabbet/rle.errForm", laid_rabbet_rle_errForm)], narrowed := true }
def SegBackUptoSaid : Prop := segBackUptoRow.holds Tryz.pinned (OpenSpec.upto segBackSpec)

/-- 'rabbetlaw17.SegTurned', WHERE WHAT IT READS IS OF BULK AT MOST 1048576: true; the input reads as it did. -/
def segTurnedUptoRow : OpenClaim := { program := "ythkgkalebkbndaagreatdoor", sum := "6908d22a6356daf124b193a5eb27a0d8c922cd693dc3431097a7fbbae0b0d02d", func := "rabbet/rabbetlaw17.SegTurned", spec := "segTurned", inPlace := ["internal/bytealg.abigen_runtime_cmpstring", "internal/reflectlite.TypeOf", "internal/reflectlite.ValueOf", "(internal/reflectlite.Value).Type", "(internal/reflectlite.Value).IsNil", "(internal/reflectlite.Value).Elem", "(internal/reflectlite.Value).Set"], unfollowed := true, recurses := true, named := ["rabbet/plain.errForm", "rabbet/num.errShort", "rabbet/num.errLong", "rabbet/rle.errForm", "rabbet/dict.errForm", "rabbet/pack.errForm", "rabbet/delta.errForm", "rabbet/value.errShort", "rabbet/nulls.errForm", "errors.errorType"], apart := false, laid := [("errors.errorType", laid_errors_errorType), ("rabbet/num.errShort", laid_rabbet_num_errShort), ("rabbet/num.errLong", laid_rabbet_num_errLong), ("rabbet/nulls.errForm", laid_rabbet_nulls_errForm), ("rabbet/value.errShort", laid_rabbet_value_errShort), ("rabbet/delta.errForm", laid_rabbet_delta_errForm), ("rabbet/dict.errForm", laid_rabbet_dict_errForm), ("rabbet/pack.errForm", laid_rabbet_pack_errForm), ("rabbet/plain.errForm", laid_rabbet_plain_errForm), ("rabbet/rle.errForm", laid_rabbet_rle_errForm)], narrowed := true }
def SegTurnedUptoSaid : Prop := segTurnedUptoRow.holds Tryz.pinned (OpenSpec.upto segTurnedSpec)

/-- 'rabbetlaw17.SegTrue', WHERE WHAT IT READS IS OF BULK AT MOST 1048576: true; the input reads as it did. -/
def segTrueUptoRow : OpenClaim := { program := "ythkgkalebkbndaagreatdoor", sum := "6908d22a6356daf124b193a5eb27a0d8c922cd693dc3431097a7fbbae0b0d02d", func := "rabbet/rabbetlaw17.SegTrue", spec := "segTrue", inPlace := ["internal/bytealg.abigen_runtime_cmpstring", "internal/reflectlite.TypeOf", "internal/reflectlite.ValueOf", "(internal/reflectlite.Value).Type", "(internal/reflectlite.Value).IsNil", "(internal/reflectlite.Value).Elem", "(internal/reflectlite.Value).Set"], unfollowed := true, recurses := true, named := ["rabbet/plain.errForm", "rabbet/num.errShort", "rabbet/num.errLong", "rabbet/rle.errForm", "rabbet/dict.errForm", "rabbet/pack.errForm", "rabbet/delta.errForm", "rabbet/value.errShort", "rabbet/nulls.errForm", "errors.errorType"], apart := false, laid := [("errors.errorType", laid_errors_errorType), ("rabbet/num.errShort", laid_rabbet_num_errShort), ("rabbet/num.errLong", laid_rabbet_num_errLong), ("rabbet/nulls.errForm", laid_rabbet_nulls_errForm), ("rabbet/value.errShort", laid_rabbet_value_errShort), ("rabbet/delta.errForm", laid_rabbet_delta_errForm), ("rabbet/dict.errForm", laid_rabbet_dict_errForm), ("rabbet/pack.errForm", laid_rabbet_pack_errForm), ("rabbet/plain.errForm", laid_rabbet_plain_errForm), ("rabbet/rle.errForm", laid_rabbet_rle_errForm)], narrowed := true }
def SegTrueUptoSaid : Prop := segTrueUptoRow.holds Tryz.pinned (OpenSpec.upto segTrueSpec)

/-- 'rabbetlaw17.SegForms', WHERE WHAT IT READS IS OF BULK AT MOST 1048576: true; the input reads as it did. -/
def segFormsUptoRow : OpenClaim := { program := "ythkgkalebkbndaagreatdoor", sum := "6908d22a6356daf124b193a5eb27a0d8c922cd693dc3431097a7fbbae0b0d02d", func := "rabbet/rabbetlaw17.SegForms", spec := "segForms", inPlace := ["internal/bytealg.abigen_runtime_cmpstring", "internal/reflectlite.TypeOf", "internal/reflectlite.ValueOf", "(internal/reflectlite.Value).Type", "(internal/reflectlite.Value).IsNil", "(internal/reflectlite.Value).Elem", "(internal/reflectlite.Value).Set"], unfollowed := true, recurses := true, named := ["rabbet/plain.errForm", "rabbet/num.errShort", "rabbet/num.errLong", "rabbet/rle.errForm", "rabbet/dict.errForm", "rabbet/pack.errForm", "rabbet/delta.errForm", "rabbet/value.errShort", "rabbet/nulls.errForm", "errors.errorType"], apart := false, laid := [("errors.errorType", laid_errors_errorType), ("rabbet/num.errShort", laid_rabbet_num_errShort), ("rabbet/num.errLong", laid_rabbet_num_errLong), ("rabbet/nulls.errForm", laid_rabbet_nulls_errForm), ("rabbet/value.errShort", laid_rabbet_value_errShort), ("rabbet/delta.errForm", laid_rabbet_delta_errForm), ("rabbet/dict.errForm", laid_rabbet_dict_errForm), ("rabbet/pack.errForm", laid_rabbet_pack_errForm), ("rabbet/plain.errForm", laid_rabbet_plain_errForm), ("rabbet/rle.errForm", laid_rabbet_rle_errForm)], narrowed := true }
def SegFormsUptoSaid : Prop := segFormsUptoRow.holds Tryz.pinned (OpenSpec.upto segFormsSpec)

end Rows
end Go.Proofs.YthkgkalebkbndaaGreatDoor
