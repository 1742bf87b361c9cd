/- 'DictAll' returns true for every input, and each argument reads behind the call as it read before; the listed package-level errors are as the program's text lays them. -/
import Derived.Test.YtpkgjjdalliggaaGreatDoorLawC
import Derived.Test.YtpkgjjdalliggaaGreatDoorLawF
import Derived.Test.YtpkgjjdalliggaaGreatDoorCards
import Derived.Test.YtpkgjjdalliggaaGreatDoorTie
import Derived.SevenTiedAt
set_option linter.unusedVariables false
set_option linter.unusedSimpArgs false
namespace Go.Proofs.YtpkgjjdalliggaaGreatDoor
open Go.ChangeShapes Go.WideShapes Go.ChangeAt Go.RowKit Go.Rb Go.Rb.R3

theorem dictAll_plain (x : argsDen ([.int .i64, .sl .imm 1 (.int .u8), .sl .imm 32 (.st (.pair (.int .i64) (.pair (.int .i64) (.pair .str .unit)))), .int .i64, .sl .imm 1 (.int .u8)].map PS.val)) (hx : argsOk [.int .i64, .sl .imm 1 (.int .u8), .sl .imm 32 (.st (.pair (.int .i64) (.pair (.int .i64) (.pair .str .unit)))), .int .i64, .sl .imm 1 (.int .u8)] x) : ∃ n y, f_law7_DictAll n x = some y ∧ y.1.1 = true := by
  obtain ⟨t, p, l, m, b, u⟩ := x
  obtain ⟨h1, ⟨_, _, h2⟩, ⟨_, _, h3⟩, h4, ⟨_, _, h5⟩, _⟩ := hx
  exact dictAll_true h1 h2 (fun v hv => ⟨(h3 v hv).1, (h3 v hv).2.1, (h3 v hv).2.2.1⟩) h5

theorem dictAll_laid : laidMetH Tryz.prog Rows.dictAllRow.laid = laidMet Tryz.prog (sents.map fun x => (x.1, sentD "*errors.errorString" x.2)) := by
  funext W
  unfold laidMetH
  rw [show (Rows.dictAllRow.laid.filter fun x => x.2.handleName?.isSome) = [] by kernel_rfl]
  rfl

set_option maxRecDepth 100000 in
theorem dictAll_lifted (os : Os) (started : os.Started) (H : Type) (enc : TypeId × Value → H) :
    ReturnsInHanded {} Tryz.checked os 3 .any (fun w args => (Rows.dictAllSpec.pre enc Tryz.prog Tryz.f3 Rows.dictAllRow.domain false w args ∧ laidMetH Tryz.prog Rows.dictAllRow.laid w) ∧ sizedMet enc Tryz.prog Tryz.f3 (OpenSpec.ofChange Rows.dictAllSpec) false w args)
      (Rows.dictAllSpec.post enc Tryz.prog Tryz.f3 false true false false) :=
  lifted_laid (C := c3 0) (CK := Tryz.checked) (G := f_law7_DictAll) dictAll_laid errTy sentsTy (glsOK rfl) own started (by kernel_rfl) fn3
    (ChangeSpec.witness_at (enc := enc) (C := Tryz.checked) (os := os) (X := fun w _ => laidMetH Tryz.prog Rows.dictAllRow.laid w) false (laidWorld os) #[.int .i64 0, .slice none 0 0, .slice none 0 0, .int .i64 0, .slice none 0 0] 8 rfl (by kernel_rfl) (by kernel_rfl) (by kernel_rfl) (by kernel_rfl) (by kernel_rfl) (by rw [dictAll_laid]; exact laid_met os _))
    (by kernel_rfl) (by decide +kernel) (tys := [.int .i64, .sl .imm 1 (.int .u8), .sl .imm 32 (.st (.pair (.int .i64) (.pair (.int .i64) (.pair .str .unit)))), .int .i64, .sl .imm 1 (.int .u8)]) ⟨rfl, rfl, rfl, rfl, rfl, rfl, rfl, rfl, rfl, rfl, trivial⟩ (tab rfl) (fun A hA n => (S3 A hA n).of rfl) dictAll_plain rfl rfl (by kernel_rfl)
    (fun ds h => by
      match ds, h with
      | [d1, d2, d3, d4, d5], _ => rfl)

theorem dictAll_row_holds : Rows.DictAllSaid :=
  OpenClaim.holds_of_wide 3 Tryz.f3 rfl rfl rfl rfl rfl rfl rfl ⟨rfl, rfl, rfl, rfl, rfl⟩ rfl rfl rfl rfl rfl (by kernel_rfl) fn3 (by kernel_rfl)
    (of_decide_eq_true (by kernel_rfl)) (by unfold Func.isWrapper; first | (rw [if_pos (by decide +kernel)]; kernel_rfl) | (rw [if_neg (by decide +kernel)]; exact ⟨rfl, rfl⟩))
    (fun os started H enc _ => dictAll_lifted os started H enc)

theorem dictAll_noStandIn : (Tryz.f3.params.toList.all fun t => !(Tryz.prog.wantsStandIn t)) = true := by kernel_rfl
theorem dictAll_holds : Rows.DictAllCardSaid :=
  Claim7.holds_tied_plain_at .later [] [.sentinel, .sentinel, .sentinel] true (true, "29378834b4a12b795c6ef6c89a59be7e2ceda101b8def5c7b40239596717662f") true
    dictAll_row_holds (fun _ h => by cases h) (by kernel_rfl) (fun _ h => by cases h) dictAll_row_tie rfl ⟨rfl, rfl⟩ (by kernel_rfl) rfl
    (fun f fn hf hfn => by
      obtain rfl : f = 3 := Option.some.inj ((show Tryz.prog.funcNamed Rows.dictAllRow.func = some 3 by kernel_rfl).symm.trans hf) |>.symm
      obtain rfl : fn = Tryz.f3 := (Option.some.inj (fn3.symm.trans hfn)).symm
      refine ⟨by kernel_rfl, fun j t ht => ?_⟩
      have h1 := List.all_eq_true.1 dictAll_noStandIn t (Array.mem_toList_iff.2 (Array.mem_of_getElem? ht))
      have h2 : Tryz.prog.wantsStandIn t = false := by simpa using h1
      exact h2)
    (by kernel_rfl)
#print axioms dictAll_holds
end Go.Proofs.YtpkgjjdalliggaaGreatDoor
