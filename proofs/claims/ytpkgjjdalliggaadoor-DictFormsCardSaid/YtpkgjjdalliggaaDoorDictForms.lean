/- 'DictForms' returns true for every input, and each argument reads behind the call as it read before; the listed package-level errors are as the program's text lays them. -/
import Derived.Test.YtpkgjjdalliggaaDoorLawC
import Derived.Test.YtpkgjjdalliggaaDoorCards
import Derived.Test.YtpkgjjdalliggaaDoorTie
import Derived.SevenTiedAt
set_option linter.unusedVariables false
set_option linter.unusedSimpArgs false
namespace Go.Proofs.YtpkgjjdalliggaaDoor
open Go.ChangeShapes Go.WideShapes Go.ChangeAt Go.RowKit Go.Rb Go.Rb.R2

theorem dictForms_plain (x : argsDen ([].map PS.val)) (hx : argsOk [] x) : ∃ n y, f_law7_DictForms n x = some y ∧ y.1.1 = true := by
  exact ⟨_, _, dictForms_true, rfl⟩

theorem dictForms_laid : laidMetH Tryd.prog Rows.dictFormsRow.laid = laidMet Tryd.prog (sents.map fun x => (x.1, sentD "*errors.errorString" x.2)) := by
  funext W
  unfold laidMetH
  rw [show (Rows.dictFormsRow.laid.filter fun x => x.2.handleName?.isSome) = [] by kernel_rfl]
  rfl

set_option maxRecDepth 100000 in
theorem dictForms_lifted (os : Os) (started : os.Started) (H : Type) (enc : TypeId × Value → H) :
    ReturnsInHanded {} Tryd.checked os 4 .any (fun w args => (Rows.dictFormsSpec.pre enc Tryd.prog Tryd.f4 Rows.dictFormsRow.domain false w args ∧ laidMetH Tryd.prog Rows.dictFormsRow.laid w) ∧ sizedMet enc Tryd.prog Tryd.f4 (OpenSpec.ofChange Rows.dictFormsSpec) false w args)
      (Rows.dictFormsSpec.post enc Tryd.prog Tryd.f4 false true false false) :=
  lifted_laid (C := c4 0) (CK := Tryd.checked) (G := f_law7_DictForms) dictForms_laid errTy sentsTy (glsOK rfl) own started (by kernel_rfl) fn4
    (ChangeSpec.witness_at (enc := enc) (C := Tryd.checked) (os := os) (X := fun w _ => laidMetH Tryd.prog Rows.dictFormsRow.laid w) false (laidWorld os) #[] 8 rfl (by kernel_rfl) (by kernel_rfl) (by kernel_rfl) (by kernel_rfl) (by kernel_rfl) (by rw [dictForms_laid]; exact laid_met os _))
    (by kernel_rfl) (by decide +kernel) (tys := []) trivial (tab rfl) (fun A hA n => (S4 A hA n).of rfl) dictForms_plain rfl rfl (by kernel_rfl)
    (fun ds h => by
      match ds, h with
      | [], _ => rfl)

theorem dictForms_row_holds : Rows.DictFormsSaid :=
  OpenClaim.holds_of_wide 4 Tryd.f4 rfl rfl rfl rfl rfl rfl rfl ⟨rfl, rfl, rfl, rfl, rfl⟩ rfl rfl rfl rfl rfl (by kernel_rfl) fn4 (by kernel_rfl)
    (of_decide_eq_true (by kernel_rfl)) (by unfold Func.isWrapper; first | (rw [if_pos (by decide +kernel)]; kernel_rfl) | (rw [if_neg (by decide +kernel)]; exact ⟨rfl, rfl⟩))
    (fun os started H enc _ => dictForms_lifted os started H enc)

theorem dictForms_noStandIn : (Tryd.f4.params.toList.all fun t => !(Tryd.prog.wantsStandIn t)) = true := by kernel_rfl
theorem dictForms_holds : Rows.DictFormsCardSaid :=
  Claim7.holds_tied_plain_at .later [] [.sentinel, .sentinel, .sentinel] true (true, "5509f33579a3f2e6e585eb011ce0aaf3564ecabd9adc0da3181845c7d0bbe58b") true
    dictForms_row_holds (fun _ h => by cases h) (by kernel_rfl) (fun _ h => by cases h) dictForms_row_tie rfl ⟨rfl, rfl⟩ (by kernel_rfl) rfl
    (fun f fn hf hfn => by
      obtain rfl : f = 4 := Option.some.inj ((show Tryd.prog.funcNamed Rows.dictFormsRow.func = some 4 by kernel_rfl).symm.trans hf) |>.symm
      obtain rfl : fn = Tryd.f4 := (Option.some.inj (fn4.symm.trans hfn)).symm
      refine ⟨by kernel_rfl, fun j t ht => ?_⟩
      have h1 := List.all_eq_true.1 dictForms_noStandIn t (Array.mem_toList_iff.2 (Array.mem_of_getElem? ht))
      have h2 : Tryd.prog.wantsStandIn t = false := by simpa using h1
      exact h2)
    (by kernel_rfl)
#print axioms dictForms_holds
end Go.Proofs.YtpkgjjdalliggaaDoor
