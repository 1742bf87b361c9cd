/- Plain law: the forms of a column. Own work. -/
import Derived.Test.YtpkgjjdalliggaaGreatDoorLawB
import Derived.Test.YtpkgjjdalliggaaGreatDoorLawC
import Derived.Test.YtpkgjjdalliggaaGreatDoorCards
import Derived.Test.YtpkgjjdalliggaaGreatDoorTie
import Derived.SevenTiedAt
set_option autoImplicit false
set_option linter.unusedVariables false
set_option linter.unusedSimpArgs false
namespace Go.Rb.R4
open Go.Rb
theorem columnForms_true : f_law10_ColumnForms 1000 () = some ((true, ()), ()) := by decide +kernel
end Go.Rb.R4

namespace Go.Proofs.YtpkgjjdalliggaaGreatDoor
open Go.ChangeShapes Go.WideShapes Go.ChangeAt Go.RowKit Go.Rb Go.Rb.R4

theorem columnForms_plain (x : argsDen ([].map PS.val)) (hx : argsOk [] x) : ∃ n y, f_law10_ColumnForms n x = some y ∧ y.1.1 = true := by
  exact ⟨1000, _, columnForms_true, rfl⟩

theorem columnForms_laid : laidMetH Tryz.prog Rows.columnFormsRow.laid = laidMet Tryz.prog (sents.map fun x => (x.1, sentD "*errors.errorString" x.2)) := by
  funext W
  unfold laidMetH
  rw [show (Rows.columnFormsRow.laid.filter fun x => x.2.handleName?.isSome) = [] by kernel_rfl]
  rfl

set_option maxRecDepth 100000 in
theorem columnForms_lifted (os : Os) (started : os.Started) (H : Type) (enc : TypeId × Value → H) :
    ReturnsInHanded {} Tryz.checked os 8 .any (fun w args => (Rows.columnFormsSpec.pre enc Tryz.prog Tryz.f8 Rows.columnFormsRow.domain false w args ∧ laidMetH Tryz.prog Rows.columnFormsRow.laid w) ∧ sizedMet enc Tryz.prog Tryz.f8 (OpenSpec.ofChange Rows.columnFormsSpec) false w args)
      (Rows.columnFormsSpec.post enc Tryz.prog Tryz.f8 false true false false) :=
  lifted_laid (C := c8 0) (CK := Tryz.checked) (G := f_law10_ColumnForms) columnForms_laid errTy sentsTy (glsOK rfl) own started (by kernel_rfl) fn8
    (ChangeSpec.witness_at (enc := enc) (C := Tryz.checked) (os := os) (X := fun w _ => laidMetH Tryz.prog Rows.columnFormsRow.laid w) false (laidWorld os) #[] 8 rfl (by kernel_rfl) (by kernel_rfl) (by kernel_rfl) (by kernel_rfl) (by kernel_rfl) (by rw [columnForms_laid]; exact laid_met os _))
    (by kernel_rfl) (by decide +kernel) (tys := []) trivial (tab rfl) (fun A hA n => (S8 A hA n).of rfl) columnForms_plain rfl rfl (by kernel_rfl)
    (fun ds h => by
      match ds, h with
      | [], _ => rfl)

theorem columnForms_row_holds : Rows.ColumnFormsSaid :=
  OpenClaim.holds_of_wide 8 Tryz.f8 rfl rfl rfl rfl rfl rfl rfl ⟨rfl, rfl, rfl, rfl, rfl⟩ rfl rfl rfl rfl rfl (by kernel_rfl) fn8 (by kernel_rfl)
    (of_decide_eq_true (by kernel_rfl)) (by unfold Func.isWrapper; first | (rw [if_pos (by decide +kernel)]; kernel_rfl) | (rw [if_neg (by decide +kernel)]; exact ⟨rfl, rfl⟩))
    (fun os started H enc _ => columnForms_lifted os started H enc)

theorem columnForms_noStandIn : (Tryz.f8.params.toList.all fun t => !(Tryz.prog.wantsStandIn t)) = true := by kernel_rfl
theorem columnForms_holds : Rows.ColumnFormsCardSaid :=
  Claim7.holds_tied_plain_at .later [] [.sentinel, .sentinel, .sentinel, .sentinel, .sentinel, .sentinel, .sentinel, .sentinel] true (true, "29378834b4a12b795c6ef6c89a59be7e2ceda101b8def5c7b40239596717662f") true
    columnForms_row_holds (fun _ h => by cases h) (by kernel_rfl) (fun _ h => by cases h) columnForms_row_tie rfl ⟨rfl, rfl⟩ (by kernel_rfl) rfl
    (fun f fn hf hfn => by
      obtain rfl : f = 8 := Option.some.inj ((show Tryz.prog.funcNamed Rows.columnFormsRow.func = some 8 by kernel_rfl).symm.trans hf) |>.symm
      obtain rfl : fn = Tryz.f8 := (Option.some.inj (fn8.symm.trans hfn)).symm
      refine ⟨by kernel_rfl, fun j t ht => ?_⟩
      have h1 := List.all_eq_true.1 columnForms_noStandIn t (Array.mem_toList_iff.2 (Array.mem_of_getElem? ht))
      have h2 : Tryz.prog.wantsStandIn t = false := by simpa using h1
      exact h2)
    (by kernel_rfl)
#print axioms columnForms_holds
end Go.Proofs.YtpkgjjdalliggaaGreatDoor
