/- 'DictBack' returns true for every input, and each argument reads behind the call as it read before; the listed package-level errors are as the program's text lays them. -/
import Derived.Test.YtpkgjjdalliggaaDoorLawC
import Derived.Test.YtpkgjjdalliggaaDoorLawD
import Derived.Test.YtpkgjjdalliggaaDoorCards
import Derived.Test.YtpkgjjdalliggaaDoorTie
import Derived.SevenTiedAt
set_option linter.unusedVariables false
set_option linter.unusedSimpArgs false
namespace Go.Proofs.YtpkgjjdalliggaaDoor
open Go.ChangeShapes Go.WideShapes Go.ChangeAt Go.RowKit Go.Rb Go.Rb.R2

theorem dictBack_plain (x : argsDen ([.int .u8, .sl .imm 1 (.int .u8), .int .u16, .int .u8].map PS.val)) (hx : argsOk [.int .u8, .sl .imm 1 (.int .u8), .int .u16, .int .u8] x) : ∃ n y, f_law7_DictBack n x = some y ∧ y.1.1 = true := by
  obtain ⟨a, b, c, d, u⟩ := x
  obtain ⟨h1, ⟨_, _, h2⟩, h3, h4, _⟩ := hx
  exact dictBack_true h1 h2 h3 h4

theorem dictBack_laid : laidMetH Tryd.prog Rows.dictBackRow.laid = laidMet Tryd.prog (sents.map fun x => (x.1, sentD "*errors.errorString" x.2)) := by
  funext W
  unfold laidMetH
  rw [show (Rows.dictBackRow.laid.filter fun x => x.2.handleName?.isSome) = [] by kernel_rfl]
  rfl

set_option maxRecDepth 100000 in
theorem dictBack_lifted (os : Os) (started : os.Started) (H : Type) (enc : TypeId × Value → H) :
    ReturnsInHanded {} Tryd.checked os 3 .any (fun w args => (Rows.dictBackSpec.pre enc Tryd.prog Tryd.f3 Rows.dictBackRow.domain false w args ∧ laidMetH Tryd.prog Rows.dictBackRow.laid w) ∧ sizedMet enc Tryd.prog Tryd.f3 (OpenSpec.ofChange Rows.dictBackSpec) false w args)
      (Rows.dictBackSpec.post enc Tryd.prog Tryd.f3 false true false false) :=
  lifted_laid (C := c3 0) (CK := Tryd.checked) (G := f_law7_DictBack) dictBack_laid errTy sentsTy (glsOK rfl) own started (by kernel_rfl) fn3
    (ChangeSpec.witness_at (enc := enc) (C := Tryd.checked) (os := os) (X := fun w _ => laidMetH Tryd.prog Rows.dictBackRow.laid w) false (laidWorld os) #[.int .u8 0, .slice none 0 0, .int .u16 0, .int .u8 0] 8 rfl (by kernel_rfl) (by kernel_rfl) (by kernel_rfl) (by kernel_rfl) (by kernel_rfl) (by rw [dictBack_laid]; exact laid_met os _))
    (by kernel_rfl) (by decide +kernel) (tys := [.int .u8, .sl .imm 1 (.int .u8), .int .u16, .int .u8]) ⟨rfl, rfl, rfl, rfl, rfl, rfl, rfl, rfl, trivial⟩ (tab rfl) (fun A hA n => (S3 A hA n).of rfl) dictBack_plain rfl rfl (by kernel_rfl)
    (fun ds h => by
      match ds, h with
      | [d1, d2, d3, d4], _ => rfl)

theorem dictBack_row_holds : Rows.DictBackSaid :=
  OpenClaim.holds_of_wide 3 Tryd.f3 rfl rfl rfl rfl rfl rfl rfl ⟨rfl, rfl, rfl, rfl, rfl⟩ rfl rfl rfl rfl rfl (by kernel_rfl) fn3 (by kernel_rfl)
    (of_decide_eq_true (by kernel_rfl)) (by unfold Func.isWrapper; first | (rw [if_pos (by decide +kernel)]; kernel_rfl) | (rw [if_neg (by decide +kernel)]; exact ⟨rfl, rfl⟩))
    (fun os started H enc _ => dictBack_lifted os started H enc)

theorem dictBack_noStandIn : (Tryd.f3.params.toList.all fun t => !(Tryd.prog.wantsStandIn t)) = true := by kernel_rfl
theorem dictBack_holds : Rows.DictBackCardSaid :=
  Claim7.holds_tied_plain_at .later [] [.sentinel, .sentinel, .sentinel] true (true, "5509f33579a3f2e6e585eb011ce0aaf3564ecabd9adc0da3181845c7d0bbe58b") true
    dictBack_row_holds (fun _ h => by cases h) (by kernel_rfl) (fun _ h => by cases h) dictBack_row_tie rfl ⟨rfl, rfl⟩ (by kernel_rfl) rfl
    (fun f fn hf hfn => by
      obtain rfl : f = 3 := Option.some.inj ((show Tryd.prog.funcNamed Rows.dictBackRow.func = some 3 by kernel_rfl).symm.trans hf) |>.symm
      obtain rfl : fn = Tryd.f3 := (Option.some.inj (fn3.symm.trans hfn)).symm
      refine ⟨by kernel_rfl, fun j t ht => ?_⟩
      have h1 := List.all_eq_true.1 dictBack_noStandIn t (Array.mem_toList_iff.2 (Array.mem_of_getElem? ht))
      have h2 : Tryd.prog.wantsStandIn t = false := by simpa using h1
      exact h2)
    (by kernel_rfl)
#print axioms dictBack_holds
end Go.Proofs.YtpkgjjdalliggaaDoor
