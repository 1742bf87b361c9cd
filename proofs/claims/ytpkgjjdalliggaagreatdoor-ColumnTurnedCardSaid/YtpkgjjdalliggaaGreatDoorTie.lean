/-
  DERIVED. GIVEN WITH THE SEED: THE PROGRAM's TIES (one call each: nine closed facts by the kernel) AND EACH ROW's TIE, after the 31st guide's Derived/Test/Toyas{Tie, Card}.lean. No idea stands in it: it is a product of the set-up. Laid BY PROGRAM, IN A SANDBOX (cutbox-door.mjs). By AI agents, Wed Nov 11 2026. No macro, syntax, notation, axiom, sorry.
-/
import Derived.Test.YtpkgjjdalliggaaGreatDoorRows
import Derived.LaidByTextLater
import Derived.SevenTiedAt
import Derived.LaidSub
import Derived.LaidOnce
namespace Go.Proofs.YtpkgjjdalliggaaGreatDoor
open Go
set_option maxRecDepth 100000
theorem seatTie1 : Tryz.prog.laidByTextLater [("rabbet/num.errShort", Rows.laid_rabbet_num_errShort), ("rabbet/num.errLong", Rows.laid_rabbet_num_errLong), ("rabbet/nulls.errForm", Rows.laid_rabbet_nulls_errForm), ("rabbet/delta.errForm", Rows.laid_rabbet_delta_errForm), ("rabbet/dict.errForm", Rows.laid_rabbet_dict_errForm), ("rabbet/pack.errForm", Rows.laid_rabbet_pack_errForm), ("rabbet/plain.errForm", Rows.laid_rabbet_plain_errForm), ("rabbet/rle.errForm", Rows.laid_rabbet_rle_errForm)] [.sentinel, .sentinel, .sentinel, .sentinel, .sentinel, .sentinel, .sentinel, .sentinel] true :=
  Program.laidByTextLater_by_one 161 8 2 (by kernel_rfl) (by kernel_rfl) (by kernel_rfl) (by kernel_rfl) (by kernel_rfl) (by kernel_rfl) (fun _ _ => by kernel_rfl)
theorem noOwnUnsafe : Tryz.pinned.checked.prog.headLifts.contains "ownunsafe" = false := by kernel_rfl
theorem tie : Tryz.prog.laidByTextLater [("rabbet/num.errShort", Rows.laid_rabbet_num_errShort), ("rabbet/num.errLong", Rows.laid_rabbet_num_errLong), ("rabbet/dict.errForm", Rows.laid_rabbet_dict_errForm)] [.sentinel, .sentinel, .sentinel] true :=
  Program.laidByTextLater.sub seatTie1 ["rabbet/num.errShort", "rabbet/num.errLong", "rabbet/dict.errForm"] (by kernel_rfl) (by kernel_rfl)
theorem dictAll_row_tie : Rows.dictAllRow.laidByTextAt .later Tryz.pinned [.sentinel, .sentinel, .sentinel] true :=
  OpenClaim.laidByTextAt_later rfl rfl tie noOwnUnsafe
theorem dictTurned_row_tie : Rows.dictTurnedRow.laidByTextAt .later Tryz.pinned [.sentinel, .sentinel, .sentinel] true :=
  OpenClaim.laidByTextAt_later rfl rfl tie noOwnUnsafe
theorem tie2 : Tryz.prog.laidByTextLater [("rabbet/num.errShort", Rows.laid_rabbet_num_errShort), ("rabbet/num.errLong", Rows.laid_rabbet_num_errLong), ("rabbet/nulls.errForm", Rows.laid_rabbet_nulls_errForm), ("rabbet/delta.errForm", Rows.laid_rabbet_delta_errForm), ("rabbet/dict.errForm", Rows.laid_rabbet_dict_errForm), ("rabbet/pack.errForm", Rows.laid_rabbet_pack_errForm), ("rabbet/plain.errForm", Rows.laid_rabbet_plain_errForm), ("rabbet/rle.errForm", Rows.laid_rabbet_rle_errForm)] [.sentinel, .sentinel, .sentinel, .sentinel, .sentinel, .sentinel, .sentinel, .sentinel] true :=
  Program.laidByTextLater.sub seatTie1 ["rabbet/num.errShort", "rabbet/num.errLong", "rabbet/nulls.errForm", "rabbet/delta.errForm", "rabbet/dict.errForm", "rabbet/pack.errForm", "rabbet/plain.errForm", "rabbet/rle.errForm"] (by kernel_rfl) (by kernel_rfl)
theorem columnAll_row_tie : Rows.columnAllRow.laidByTextAt .later Tryz.pinned [.sentinel, .sentinel, .sentinel, .sentinel, .sentinel, .sentinel, .sentinel, .sentinel] true :=
  OpenClaim.laidByTextAt_later rfl rfl tie2 noOwnUnsafe
theorem columnBack_row_tie : Rows.columnBackRow.laidByTextAt .later Tryz.pinned [.sentinel, .sentinel, .sentinel, .sentinel, .sentinel, .sentinel, .sentinel, .sentinel] true :=
  OpenClaim.laidByTextAt_later rfl rfl tie2 noOwnUnsafe
theorem columnTurned_row_tie : Rows.columnTurnedRow.laidByTextAt .later Tryz.pinned [.sentinel, .sentinel, .sentinel, .sentinel, .sentinel, .sentinel, .sentinel, .sentinel] true :=
  OpenClaim.laidByTextAt_later rfl rfl tie2 noOwnUnsafe
theorem columnForms_row_tie : Rows.columnFormsRow.laidByTextAt .later Tryz.pinned [.sentinel, .sentinel, .sentinel, .sentinel, .sentinel, .sentinel, .sentinel, .sentinel] true :=
  OpenClaim.laidByTextAt_later rfl rfl tie2 noOwnUnsafe
theorem dictAllUpto_row_tie : Rows.dictAllUptoRow.laidByTextAt .later Tryz.pinned [.sentinel, .sentinel, .sentinel] true :=
  OpenClaim.laidByTextAt_later rfl rfl tie noOwnUnsafe
theorem dictTurnedUpto_row_tie : Rows.dictTurnedUptoRow.laidByTextAt .later Tryz.pinned [.sentinel, .sentinel, .sentinel] true :=
  OpenClaim.laidByTextAt_later rfl rfl tie noOwnUnsafe
theorem columnAllUpto_row_tie : Rows.columnAllUptoRow.laidByTextAt .later Tryz.pinned [.sentinel, .sentinel, .sentinel, .sentinel, .sentinel, .sentinel, .sentinel, .sentinel] true :=
  OpenClaim.laidByTextAt_later rfl rfl tie2 noOwnUnsafe
theorem columnBackUpto_row_tie : Rows.columnBackUptoRow.laidByTextAt .later Tryz.pinned [.sentinel, .sentinel, .sentinel, .sentinel, .sentinel, .sentinel, .sentinel, .sentinel] true :=
  OpenClaim.laidByTextAt_later rfl rfl tie2 noOwnUnsafe
theorem columnTurnedUpto_row_tie : Rows.columnTurnedUptoRow.laidByTextAt .later Tryz.pinned [.sentinel, .sentinel, .sentinel, .sentinel, .sentinel, .sentinel, .sentinel, .sentinel] true :=
  OpenClaim.laidByTextAt_later rfl rfl tie2 noOwnUnsafe
theorem columnFormsUpto_row_tie : Rows.columnFormsUptoRow.laidByTextAt .later Tryz.pinned [.sentinel, .sentinel, .sentinel, .sentinel, .sentinel, .sentinel, .sentinel, .sentinel] true :=
  OpenClaim.laidByTextAt_later rfl rfl tie2 noOwnUnsafe
end Go.Proofs.YtpkgjjdalliggaaGreatDoor
