/- 'SchemaBack' returns true for every input, and each argument reads behind the call as it read before; the listed package-level errors are as the program's text lays them. -/
import Derived.Test.YtcgaabciagiodaaDoorLawB
import Derived.Test.YtcgaabciagiodaaDoorLawC
import Derived.Test.YtcgaabciagiodaaDoorCards
import Derived.Test.YtcgaabciagiodaaDoorTie
import Derived.SevenTiedAt
set_option linter.unusedVariables false
set_option linter.unusedSimpArgs false
namespace Go.Proofs.YtcgaabciagiodaaDoor
open Go.ChangeShapes Go.WideShapes Go.ChangeAt Go.RowKit Go.Rb Go.Rb.S2

theorem schemaBack_plain (x : argsDen ([.sl .imm 1 tB, tB].map PS.val)) (hx : argsOk [.sl .imm 1 tB, tB] x) : ∃ n y, F5 n x = some y ∧ y.1.1 = true := by
  obtain ⟨p, a, u⟩ := x
  obtain ⟨⟨_, _, h1⟩, ⟨h2, h3⟩, _⟩ := hx
  have m0 : IntKind.u8.min = 0 := rfl
  have m1 : IntKind.u8.max = 255 := rfl
  obtain ⟨y, g1, g2⟩ := law_back p a h1 ⟨by rw [← m0]; exact h2, by rw [← m1]; exact h3⟩
  exact ⟨_, y, g1, g2⟩

theorem schemaBack_laid : laidMetH Tryd.prog Rows.schemaBackRow.laid = laidMet Tryd.prog (sents.map fun x => (x.1, sentD "*errors.errorString" x.2)) := by
  funext W
  unfold laidMetH
  rw [show (Rows.schemaBackRow.laid.filter fun x => x.2.handleName?.isSome) = [] by kernel_rfl]
  rfl

set_option maxRecDepth 100000 in
theorem schemaBack_lifted (os : Os) (started : os.Started) (H : Type) (enc : TypeId × Value → H) :
    ReturnsInHanded {} Tryd.checked os 5 .any (fun w args => (Rows.schemaBackSpec.pre enc Tryd.prog Tryd.f5 Rows.schemaBackRow.domain false w args ∧ laidMetH Tryd.prog Rows.schemaBackRow.laid w) ∧ sizedMet enc Tryd.prog Tryd.f5 (OpenSpec.ofChange Rows.schemaBackSpec) false w args)
      (Rows.schemaBackSpec.post enc Tryd.prog Tryd.f5 false true false false) :=
  lifted_laid (C := c5 0) (CK := Tryd.checked) (G := F5) schemaBack_laid errTy sentsTy (glsOK rfl) own started (by kernel_rfl) fn5
    (ChangeSpec.witness_at (enc := enc) (C := Tryd.checked) (os := os) (X := fun w _ => laidMetH Tryd.prog Rows.schemaBackRow.laid w) false (laidWorld os) #[.slice none 0 0, .int .u8 0] 8 rfl (by kernel_rfl) (by kernel_rfl) (by kernel_rfl) (by kernel_rfl) (by kernel_rfl) (by rw [schemaBack_laid]; exact laid_met os _))
    (by kernel_rfl) (by decide +kernel) (tys := [.sl .imm 1 tB, tB]) ⟨rfl, rfl, rfl, rfl, trivial⟩ (tab rfl) (fun A hA n => (S5 A hA n).of rfl) schemaBack_plain rfl rfl (by kernel_rfl)
    (fun ds h => by
      match ds, h with
      | [d1, d2], _ => rfl)

theorem schemaBack_row_holds : Rows.SchemaBackSaid :=
  OpenClaim.holds_of_wide 5 Tryd.f5 rfl rfl rfl rfl rfl rfl rfl ⟨rfl, rfl, rfl, rfl, rfl⟩ rfl rfl rfl rfl rfl (by kernel_rfl) fn5 (by kernel_rfl)
    (of_decide_eq_true (by kernel_rfl)) (by unfold Func.isWrapper; first | (rw [if_pos (by decide +kernel)]; kernel_rfl) | (rw [if_neg (by decide +kernel)]; exact ⟨rfl, rfl⟩))
    (fun os started H enc _ => schemaBack_lifted os started H enc)

theorem schemaBack_noStandIn : (Tryd.f5.params.toList.all fun t => !(Tryd.prog.wantsStandIn t)) = true := by kernel_rfl
theorem schemaBack_holds : Rows.SchemaBackCardSaid :=
  Claim7.holds_tied_plain_at .later [] [.sentinel, .sentinel, .sentinel, .sentinel, .sentinel] true (true, "a1c9ff7e4dfecbccb58ba0dd1e4aba3453562e306196c2ba6a6747dc28b90ce8") true
    schemaBack_row_holds (fun _ h => by cases h) (by kernel_rfl) (fun _ h => by cases h) schemaBack_row_tie rfl ⟨rfl, rfl⟩ (by kernel_rfl) rfl
    (fun f fn hf hfn => by
      obtain rfl : f = 5 := Option.some.inj ((show Tryd.prog.funcNamed Rows.schemaBackRow.func = some 5 by kernel_rfl).symm.trans hf) |>.symm
      obtain rfl : fn = Tryd.f5 := (Option.some.inj (fn5.symm.trans hfn)).symm
      refine ⟨by kernel_rfl, fun j t ht => ?_⟩
      have h1 := List.all_eq_true.1 schemaBack_noStandIn t (Array.mem_toList_iff.2 (Array.mem_of_getElem? ht))
      have h2 : Tryd.prog.wantsStandIn t = false := by simpa using h1
      exact h2)
    (by kernel_rfl)
#print axioms schemaBack_holds
end Go.Proofs.YtcgaabciagiodaaDoor
