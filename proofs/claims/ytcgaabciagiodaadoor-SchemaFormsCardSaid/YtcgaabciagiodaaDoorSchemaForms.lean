/- 'SchemaForms' returns true for every input, and each argument reads behind the call as it read before; the listed package-level errors are as the program's text lays them. -/
import Derived.Test.YtcgaabciagiodaaDoorLawB
import Derived.Test.YtcgaabciagiodaaDoorCards
import Derived.Test.YtcgaabciagiodaaDoorTie
import Derived.SevenTiedAt
set_option linter.unusedVariables false
set_option linter.unusedSimpArgs false
namespace Go.Proofs.YtcgaabciagiodaaDoor
open Go.ChangeShapes Go.WideShapes Go.ChangeAt Go.RowKit Go.Rb Go.Rb.S2

theorem schemaForms_plain (x : argsDen ([].map PS.val)) (hx : argsOk [] x) : ∃ n y, F6 n x = some y ∧ y.1.1 = true := by
  exact ⟨100, ((true, ()), ()), by kernel_rfl, rfl⟩

theorem schemaForms_laid : laidMetH Tryd.prog Rows.schemaFormsRow.laid = laidMet Tryd.prog (sents.map fun x => (x.1, sentD "*errors.errorString" x.2)) := by
  funext W
  unfold laidMetH
  rw [show (Rows.schemaFormsRow.laid.filter fun x => x.2.handleName?.isSome) = [] by kernel_rfl]
  rfl

set_option maxRecDepth 100000 in
theorem schemaForms_lifted (os : Os) (started : os.Started) (H : Type) (enc : TypeId × Value → H) :
    ReturnsInHanded {} Tryd.checked os 6 .any (fun w args => (Rows.schemaFormsSpec.pre enc Tryd.prog Tryd.f6 Rows.schemaFormsRow.domain false w args ∧ laidMetH Tryd.prog Rows.schemaFormsRow.laid w) ∧ sizedMet enc Tryd.prog Tryd.f6 (OpenSpec.ofChange Rows.schemaFormsSpec) false w args)
      (Rows.schemaFormsSpec.post enc Tryd.prog Tryd.f6 false true false false) :=
  lifted_laid (C := c6 0) (CK := Tryd.checked) (G := F6) schemaForms_laid errTy sentsTy (glsOK rfl) own started (by kernel_rfl) fn6
    (ChangeSpec.witness_at (enc := enc) (C := Tryd.checked) (os := os) (X := fun w _ => laidMetH Tryd.prog Rows.schemaFormsRow.laid w) false (laidWorld os) #[] 8 rfl (by kernel_rfl) (by kernel_rfl) (by kernel_rfl) (by kernel_rfl) (by kernel_rfl) (by rw [schemaForms_laid]; exact laid_met os _))
    (by kernel_rfl) (by decide +kernel) (tys := []) trivial (tab rfl) (fun A hA n => (S6 A hA n).of rfl) schemaForms_plain rfl rfl (by kernel_rfl)
    (fun ds h => by
      match ds, h with
      | [], _ => rfl)

theorem schemaForms_row_holds : Rows.SchemaFormsSaid :=
  OpenClaim.holds_of_wide 6 Tryd.f6 rfl rfl rfl rfl rfl rfl rfl ⟨rfl, rfl, rfl, rfl, rfl⟩ rfl rfl rfl rfl rfl (by kernel_rfl) fn6 (by kernel_rfl)
    (of_decide_eq_true (by kernel_rfl)) (by unfold Func.isWrapper; first | (rw [if_pos (by decide +kernel)]; kernel_rfl) | (rw [if_neg (by decide +kernel)]; exact ⟨rfl, rfl⟩))
    (fun os started H enc _ => schemaForms_lifted os started H enc)

theorem schemaForms_noStandIn : (Tryd.f6.params.toList.all fun t => !(Tryd.prog.wantsStandIn t)) = true := by kernel_rfl
theorem schemaForms_holds : Rows.SchemaFormsCardSaid :=
  Claim7.holds_tied_plain_at .later [] [.sentinel, .sentinel, .sentinel, .sentinel, .sentinel] true (true, "a1c9ff7e4dfecbccb58ba0dd1e4aba3453562e306196c2ba6a6747dc28b90ce8") true
    schemaForms_row_holds (fun _ h => by cases h) (by kernel_rfl) (fun _ h => by cases h) schemaForms_row_tie rfl ⟨rfl, rfl⟩ (by kernel_rfl) rfl
    (fun f fn hf hfn => by
      obtain rfl : f = 6 := Option.some.inj ((show Tryd.prog.funcNamed Rows.schemaFormsRow.func = some 6 by kernel_rfl).symm.trans hf) |>.symm
      obtain rfl : fn = Tryd.f6 := (Option.some.inj (fn6.symm.trans hfn)).symm
      refine ⟨by kernel_rfl, fun j t ht => ?_⟩
      have h1 := List.all_eq_true.1 schemaForms_noStandIn t (Array.mem_toList_iff.2 (Array.mem_of_getElem? ht))
      have h2 : Tryd.prog.wantsStandIn t = false := by simpa using h1
      exact h2)
    (by kernel_rfl)
#print axioms schemaForms_holds
end Go.Proofs.YtcgaabciagiodaaDoor
