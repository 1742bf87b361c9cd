/- 'DictTurned' returns true for every input, and each argument reads behind the call as it read before; the listed package-level errors are as the program's text lays them. -/
import Derived.Test.YtpkgjjdalliggaaGreatDoorLawC
import Derived.Test.YtpkgjjdalliggaaGreatDoorLawF
import Derived.Test.YtpkgjjdalliggaaGreatDoorCards
import Derived.Test.YtpkgjjdalliggaaGreatDoorTie
import Derived.SevenTiedAt
set_option linter.unusedVariables false
set_option linter.unusedSimpArgs false
namespace Go.Proofs.YtpkgjjdalliggaaGreatDoor
open Go.ChangeShapes Go.WideShapes Go.ChangeAt Go.RowKit Go.Rb Go.Rb.R3

theorem dictTurned_plain (x : argsDen ([.int .u8, .sl .imm 1 (.int .u8), .arr 3 (.int .u8), .arr 3 (.int .u8)].map PS.val)) (hx : argsOk [.int .u8, .sl .imm 1 (.int .u8), .arr 3 (.int .u8), .arr 3 (.int .u8)] x) : ∃ n y, f_law7_DictTurned n x = some y ∧ y.1.1 = true := by
  obtain ⟨a, b, c, d, u⟩ := x
  obtain ⟨h1, ⟨_, _, h2⟩, ⟨h3, h4⟩, ⟨h5, h6⟩, _⟩ := hx
  exact dictTurned_true h1 h2 ⟨h4, h3⟩ ⟨h6, h5⟩

theorem dictTurned_laid : laidMetH Tryz.prog Rows.dictTurnedRow.laid = laidMet Tryz.prog (sents.map fun x => (x.1, sentD "*errors.errorString" x.2)) := by
  funext W
  unfold laidMetH
  rw [show (Rows.dictTurnedRow.laid.filter fun x => x.2.handleName?.isSome) = [] by kernel_rfl]
  rfl

set_option maxRecDepth 100000 in
theorem dictTurned_lifted (os : Os) (started : os.Started) (H : Type) (enc : TypeId × Value → H) :
    ReturnsInHanded {} Tryz.checked os 4 .any (fun w args => (Rows.dictTurnedSpec.pre enc Tryz.prog Tryz.f4 Rows.dictTurnedRow.domain false w args ∧ laidMetH Tryz.prog Rows.dictTurnedRow.laid w) ∧ sizedMet enc Tryz.prog Tryz.f4 (OpenSpec.ofChange Rows.dictTurnedSpec) false w args)
      (Rows.dictTurnedSpec.post enc Tryz.prog Tryz.f4 false true false false) :=
  lifted_laid (C := c4 0) (CK := Tryz.checked) (G := f_law7_DictTurned) dictTurned_laid errTy sentsTy (glsOK rfl) own started (by kernel_rfl) fn4
    (ChangeSpec.witness_at (enc := enc) (C := Tryz.checked) (os := os) (X := fun w _ => laidMetH Tryz.prog Rows.dictTurnedRow.laid w) false (laidWorld os) #[.int .u8 0, .slice none 0 0, .agg #[.int .u8 0, .int .u8 0, .int .u8 0], .agg #[.int .u8 0, .int .u8 0, .int .u8 0]] 8 rfl (by kernel_rfl) (by kernel_rfl) (by kernel_rfl) (by kernel_rfl) (by kernel_rfl) (by rw [dictTurned_laid]; exact laid_met os _))
    (by kernel_rfl) (by decide +kernel) (tys := [.int .u8, .sl .imm 1 (.int .u8), .arr 3 (.int .u8), .arr 3 (.int .u8)]) ⟨rfl, rfl, rfl, rfl, rfl, rfl, rfl, rfl, trivial⟩ (tab rfl) (fun A hA n => (S4 A hA n).of rfl) dictTurned_plain rfl rfl (by kernel_rfl)
    (fun ds h => by
      match ds, h with
      | [d1, d2, d3, d4], _ => rfl)

theorem dictTurned_row_holds : Rows.DictTurnedSaid :=
  OpenClaim.holds_of_wide 4 Tryz.f4 rfl rfl rfl rfl rfl rfl rfl ⟨rfl, rfl, rfl, rfl, rfl⟩ rfl rfl rfl rfl rfl (by kernel_rfl) fn4 (by kernel_rfl)
    (of_decide_eq_true (by kernel_rfl)) (by unfold Func.isWrapper; first | (rw [if_pos (by decide +kernel)]; kernel_rfl) | (rw [if_neg (by decide +kernel)]; exact ⟨rfl, rfl⟩))
    (fun os started H enc _ => dictTurned_lifted os started H enc)

theorem dictTurned_noStandIn : (Tryz.f4.params.toList.all fun t => !(Tryz.prog.wantsStandIn t)) = true := by kernel_rfl
theorem dictTurned_holds : Rows.DictTurnedCardSaid :=
  Claim7.holds_tied_plain_at .later [] [.sentinel, .sentinel, .sentinel] true (true, "29378834b4a12b795c6ef6c89a59be7e2ceda101b8def5c7b40239596717662f") true
    dictTurned_row_holds (fun _ h => by cases h) (by kernel_rfl) (fun _ h => by cases h) dictTurned_row_tie rfl ⟨rfl, rfl⟩ (by kernel_rfl) rfl
    (fun f fn hf hfn => by
      obtain rfl : f = 4 := Option.some.inj ((show Tryz.prog.funcNamed Rows.dictTurnedRow.func = some 4 by kernel_rfl).symm.trans hf) |>.symm
      obtain rfl : fn = Tryz.f4 := (Option.some.inj (fn4.symm.trans hfn)).symm
      refine ⟨by kernel_rfl, fun j t ht => ?_⟩
      have h1 := List.all_eq_true.1 dictTurned_noStandIn t (Array.mem_toList_iff.2 (Array.mem_of_getElem? ht))
      have h2 : Tryz.prog.wantsStandIn t = false := by simpa using h1
      exact h2)
    (by kernel_rfl)
#print axioms dictTurned_holds
end Go.Proofs.YtpkgjjdalliggaaGreatDoor
