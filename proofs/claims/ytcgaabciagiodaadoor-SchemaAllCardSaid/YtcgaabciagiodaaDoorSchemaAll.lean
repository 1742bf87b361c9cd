/- 'SchemaAll' returns true for every input, and each argument reads behind the call as it read before; the listed package-level errors are as the program's text lays them. -/
import Derived.Test.YtcgaabciagiodaaDoorLawB
import Derived.Test.YtcgaabciagiodaaDoorLawC
import Derived.Test.YtcgaabciagiodaaDoorCards
import Derived.Test.YtcgaabciagiodaaDoorTie
import Derived.SevenTiedAt
set_option linter.unusedVariables false
set_option linter.unusedSimpArgs false
namespace Go.Proofs.YtcgaabciagiodaaDoor
open Go.ChangeShapes Go.WideShapes Go.ChangeAt Go.RowKit Go.Rb Go.Rb.S2

theorem schemaAll_plain (x : argsDen ([(.st (.pair (.sl .imm 32 (.st (.pair tI (.pair .str (.pair tI .unit))))) (.pair tI .unit))), (.st (.pair tI (.pair tI (.pair tI (.pair (.sl .imm 8 tI) .unit))))), (.st (.pair tI (.pair tI (.pair .str (.pair tI (.pair (.st (.pair tI (.pair tI (.pair .str .unit)))) (.pair tB (.pair tI .unit)))))))), (.sl .imm 32 (.st (.pair tI (.pair tI (.pair .str .unit))))), .str, tI, .sl .imm 1 tB].map PS.val)) (hx : argsOk [(.st (.pair (.sl .imm 32 (.st (.pair tI (.pair .str (.pair tI .unit))))) (.pair tI .unit))), (.st (.pair tI (.pair tI (.pair tI (.pair (.sl .imm 8 tI) .unit))))), (.st (.pair tI (.pair tI (.pair .str (.pair tI (.pair (.st (.pair tI (.pair tI (.pair .str .unit)))) (.pair tB (.pair tI .unit)))))))), (.sl .imm 32 (.st (.pair tI (.pair tI (.pair .str .unit))))), .str, tI, .sl .imm 1 tB] x) : ∃ n y, F3 n x = some y ∧ y.1.1 = true := by
  obtain ⟨s, l, c, r, nm, id, p, u⟩ := x
  obtain ⟨⟨⟨_, h1, h2⟩, _⟩, _, ⟨_, _, ⟨h3, h4⟩, _, ⟨_, _, ⟨h5, _⟩, _⟩, _⟩, _, ⟨_, h6⟩, _, ⟨_, _, h7⟩, _⟩ := hx
  obtain ⟨y, g1, g2⟩ := law_all s l c r nm id p h1 (fun c hc => (h2 c hc).2.1.2) h4 h3 h5 h6 h7
  exact ⟨_, y, g1, g2⟩

theorem schemaAll_laid : laidMetH Tryd.prog Rows.schemaAllRow.laid = laidMet Tryd.prog (sents.map fun x => (x.1, sentD "*errors.errorString" x.2)) := by
  funext W
  unfold laidMetH
  rw [show (Rows.schemaAllRow.laid.filter fun x => x.2.handleName?.isSome) = [] by kernel_rfl]
  rfl

set_option maxRecDepth 100000 in
theorem schemaAll_lifted (os : Os) (started : os.Started) (H : Type) (enc : TypeId × Value → H) :
    ReturnsInHanded {} Tryd.checked os 3 .any (fun w args => (Rows.schemaAllSpec.pre enc Tryd.prog Tryd.f3 Rows.schemaAllRow.domain false w args ∧ laidMetH Tryd.prog Rows.schemaAllRow.laid w) ∧ sizedMet enc Tryd.prog Tryd.f3 (OpenSpec.ofChange Rows.schemaAllSpec) false w args)
      (Rows.schemaAllSpec.post enc Tryd.prog Tryd.f3 false true false false) :=
  lifted_laid (C := c3 0) (CK := Tryd.checked) (G := F3) schemaAll_laid errTy sentsTy (glsOK rfl) own started (by kernel_rfl) fn3
    (ChangeSpec.witness_at (enc := enc) (C := Tryd.checked) (os := os) (X := fun w _ => laidMetH Tryd.prog Rows.schemaAllRow.laid w) false (laidWorld os) #[.agg #[.slice none 0 0, .int .i64 0], .agg #[.int .i64 0, .int .i64 0, .int .i64 0, .slice none 0 0], .agg #[.int .i64 0, .int .i64 0, .string ⟨#[]⟩, .int .i64 0, .int .i64 0, .int .i64 0, .string ⟨#[]⟩, .int .u8 0, .int .i64 0], .slice none 0 0, .string ⟨#[]⟩, .int .i64 0, .slice none 0 0] 8 rfl (by kernel_rfl) (by kernel_rfl) (by kernel_rfl) (by kernel_rfl) (by kernel_rfl) (by rw [schemaAll_laid]; exact laid_met os _))
    (by kernel_rfl) (by decide +kernel) (tys := [(.st (.pair (.sl .imm 32 (.st (.pair tI (.pair .str (.pair tI .unit))))) (.pair tI .unit))), (.st (.pair tI (.pair tI (.pair tI (.pair (.sl .imm 8 tI) .unit))))), (.st (.pair tI (.pair tI (.pair .str (.pair tI (.pair (.st (.pair tI (.pair tI (.pair .str .unit)))) (.pair tB (.pair tI .unit)))))))), (.sl .imm 32 (.st (.pair tI (.pair tI (.pair .str .unit))))), .str, tI, .sl .imm 1 tB]) ⟨rfl, rfl, rfl, rfl, rfl, rfl, rfl, rfl, rfl, rfl, rfl, rfl, rfl, rfl, trivial⟩ (tab rfl) (fun A hA n => (S3 A hA n).of rfl) schemaAll_plain rfl rfl (by kernel_rfl)
    (fun ds h => by
      match ds, h with
      | [d1, d2, d3, d4, d5, d6, d7], _ => rfl)

theorem schemaAll_row_holds : Rows.SchemaAllSaid :=
  OpenClaim.holds_of_wide 3 Tryd.f3 rfl rfl rfl rfl rfl rfl rfl ⟨rfl, rfl, rfl, rfl, rfl⟩ rfl rfl rfl rfl rfl (by kernel_rfl) fn3 (by kernel_rfl)
    (of_decide_eq_true (by kernel_rfl)) (by unfold Func.isWrapper; first | (rw [if_pos (by decide +kernel)]; kernel_rfl) | (rw [if_neg (by decide +kernel)]; exact ⟨rfl, rfl⟩))
    (fun os started H enc _ => schemaAll_lifted os started H enc)

theorem schemaAll_noStandIn : (Tryd.f3.params.toList.all fun t => !(Tryd.prog.wantsStandIn t)) = true := by kernel_rfl
theorem schemaAll_holds : Rows.SchemaAllCardSaid :=
  Claim7.holds_tied_plain_at .later [] [.sentinel, .sentinel, .sentinel, .sentinel, .sentinel] true (true, "a1c9ff7e4dfecbccb58ba0dd1e4aba3453562e306196c2ba6a6747dc28b90ce8") true
    schemaAll_row_holds (fun _ h => by cases h) (by kernel_rfl) (fun _ h => by cases h) schemaAll_row_tie rfl ⟨rfl, rfl⟩ (by kernel_rfl) rfl
    (fun f fn hf hfn => by
      obtain rfl : f = 3 := Option.some.inj ((show Tryd.prog.funcNamed Rows.schemaAllRow.func = some 3 by kernel_rfl).symm.trans hf) |>.symm
      obtain rfl : fn = Tryd.f3 := (Option.some.inj (fn3.symm.trans hfn)).symm
      refine ⟨by kernel_rfl, fun j t ht => ?_⟩
      have h1 := List.all_eq_true.1 schemaAll_noStandIn t (Array.mem_toList_iff.2 (Array.mem_of_getElem? ht))
      have h2 : Tryd.prog.wantsStandIn t = false := by simpa using h1
      exact h2)
    (by kernel_rfl)
#print axioms schemaAll_holds
end Go.Proofs.YtcgaabciagiodaaDoor
