/- 'DictFew' returns true for every input, and each argument reads behind the call as it read before; the listed package-level errors are as the program's text lays them. -/
import Derived.Test.YtpkgjjdalliggaaDoorLawC
import Derived.Test.YtpkgjjdalliggaaDoorLawD
import Derived.Test.YtpkgjjdalliggaaDoorCards
import Derived.Test.YtpkgjjdalliggaaDoorTie
import Derived.SevenTiedAt
set_option linter.unusedVariables false
set_option linter.unusedSimpArgs false
namespace Go.Proofs.YtpkgjjdalliggaaDoor
open Go.ChangeShapes Go.WideShapes Go.ChangeAt Go.RowKit Go.Rb Go.Rb.R2

theorem dictFew_plain (x : argsDen ([.sl .imm 1 .bool].map PS.val)) (hx : argsOk [.sl .imm 1 .bool] x) : ∃ n y, f_law7_DictFew n x = some y ∧ y.1.1 = true := by
  obtain ⟨a, u⟩ := x
  exact dictFew_true

theorem dictFew_laid : laidMetH Tryd.prog Rows.dictFewRow.laid = laidMet Tryd.prog (sents.map fun x => (x.1, sentD "*errors.errorString" x.2)) := by
  funext W
  unfold laidMetH
  rw [show (Rows.dictFewRow.laid.filter fun x => x.2.handleName?.isSome) = [] by kernel_rfl]
  rfl

set_option maxRecDepth 100000 in
theorem dictFew_lifted (os : Os) (started : os.Started) (H : Type) (enc : TypeId × Value → H) :
    ReturnsInHanded {} Tryd.checked os 5 .any (fun w args => (Rows.dictFewSpec.pre enc Tryd.prog Tryd.f5 Rows.dictFewRow.domain false w args ∧ laidMetH Tryd.prog Rows.dictFewRow.laid w) ∧ sizedMet enc Tryd.prog Tryd.f5 (OpenSpec.ofChange Rows.dictFewSpec) false w args)
      (Rows.dictFewSpec.post enc Tryd.prog Tryd.f5 false true false false) :=
  lifted_laid (C := c5 0) (CK := Tryd.checked) (G := f_law7_DictFew) dictFew_laid errTy sentsTy (glsOK rfl) own started (by kernel_rfl) fn5
    (ChangeSpec.witness_at (enc := enc) (C := Tryd.checked) (os := os) (X := fun w _ => laidMetH Tryd.prog Rows.dictFewRow.laid w) false (laidWorld os) #[.slice none 0 0] 8 rfl (by kernel_rfl) (by kernel_rfl) (by kernel_rfl) (by kernel_rfl) (by kernel_rfl) (by rw [dictFew_laid]; exact laid_met os _))
    (by kernel_rfl) (by decide +kernel) (tys := [.sl .imm 1 .bool]) ⟨rfl, rfl, trivial⟩ (tab rfl) (fun A hA n => (S5 A hA n).of rfl) dictFew_plain rfl rfl (by kernel_rfl)
    (fun ds h => by
      match ds, h with
      | [d1], _ => rfl)

theorem dictFew_row_holds : Rows.DictFewSaid :=
  OpenClaim.holds_of_wide 5 Tryd.f5 rfl rfl rfl rfl rfl rfl rfl ⟨rfl, rfl, rfl, rfl, rfl⟩ rfl rfl rfl rfl rfl (by kernel_rfl) fn5 (by kernel_rfl)
    (of_decide_eq_true (by kernel_rfl)) (by unfold Func.isWrapper; first | (rw [if_pos (by decide +kernel)]; kernel_rfl) | (rw [if_neg (by decide +kernel)]; exact ⟨rfl, rfl⟩))
    (fun os started H enc _ => dictFew_lifted os started H enc)

theorem dictFew_noStandIn : (Tryd.f5.params.toList.all fun t => !(Tryd.prog.wantsStandIn t)) = true := by kernel_rfl
theorem dictFew_holds : Rows.DictFewCardSaid :=
  Claim7.holds_tied_plain_at .later [] [.sentinel, .sentinel, .sentinel] true (true, "5509f33579a3f2e6e585eb011ce0aaf3564ecabd9adc0da3181845c7d0bbe58b") true
    dictFew_row_holds (fun _ h => by cases h) (by kernel_rfl) (fun _ h => by cases h) dictFew_row_tie rfl ⟨rfl, rfl⟩ (by kernel_rfl) rfl
    (fun f fn hf hfn => by
      obtain rfl : f = 5 := Option.some.inj ((show Tryd.prog.funcNamed Rows.dictFewRow.func = some 5 by kernel_rfl).symm.trans hf) |>.symm
      obtain rfl : fn = Tryd.f5 := (Option.some.inj (fn5.symm.trans hfn)).symm
      refine ⟨by kernel_rfl, fun j t ht => ?_⟩
      have h1 := List.all_eq_true.1 dictFew_noStandIn t (Array.mem_toList_iff.2 (Array.mem_of_getElem? ht))
      have h2 : Tryd.prog.wantsStandIn t = false := by simpa using h1
      exact h2)
    (by kernel_rfl)
#print axioms dictFew_holds
end Go.Proofs.YtpkgjjdalliggaaDoor
