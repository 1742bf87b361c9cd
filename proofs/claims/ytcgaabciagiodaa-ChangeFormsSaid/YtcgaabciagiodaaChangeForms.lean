/- 'ChangeForms' returns true for every input, and each argument reads behind the call as it read before: no condition. -/
import Derived.Test.YtcgaabciagiodaaLawC
import Derived.Test.YtcgaabciagiodaaRbF
import Derived.Test.YtcgaabciagiodaaRows
import Derived.ChangeSame
import Derived.JoinedOf
import Derived.JoinedAt
import Derived.JoinedStill
import Derived.RowKit
import Derived.ProofKit
import Derived.OpenShut
namespace Go.Proofs.Ytcgaabciagiodaa
open Go.ChangeShapes Go.WideShapes Go.ChangeAt Go.RowKit Go.Rb Go.Rb.S1

theorem changeForms_own : ownKnob Try.prog.godebug = none := by kernel_rfl

theorem changeForms_plain (x : argsDen ([].map PS.val)) (hx : argsOk [] x) : ∃ n y, F6 n x = some y ∧ y.1.1 = true := by
  exact ⟨100, _, (by kernel_rfl : F6 100 () = some ((true, ()), ())), rfl⟩

def changeForms_amb : Amb := ⟨fun _ => none⟩

set_option maxRecDepth 100000 in
theorem changeForms_lifted (os : Os) (started : os.Started) (H : Type) (enc : TypeId × Value → H) :
    ReturnsInHanded {} Try.checked os 6 .any (Rows.changeFormsSpec.pre6 enc Try.prog Try.f6 Rows.changeFormsRow.domain false) (Rows.changeFormsSpec.post enc Try.prog Try.f6 false true false false) :=
  lifted_true (A := changeForms_amb) (C := c6 0) (CK := Try.checked) (G := F6) changeForms_own started (by kernel_rfl) fn6
    (ChangeSpec.witness6 (enc := enc) (C := Try.checked) false ⟨#[], #[], []⟩ 8 (by kernel_rfl) (by kernel_rfl) (by kernel_rfl) (by kernel_rfl))
    (by kernel_rfl) (by decide +kernel) (tys := []) trivial (tab rfl) (fun _ => rfl) (fun n => (S6 changeForms_amb n).of rfl) changeForms_plain rfl rfl (by kernel_rfl)
    (fun ds h => by
      match ds, h with
      | [], _ => rfl)

theorem changeForms_holds : Rows.ChangeFormsSaid :=
  OpenClaim.holds_of_wide 6 Try.f6 rfl rfl rfl rfl rfl rfl rfl ⟨rfl, rfl, rfl, rfl, rfl⟩ rfl rfl rfl rfl rfl (by kernel_rfl) fn6 (by kernel_rfl)
    (of_decide_eq_true (by kernel_rfl)) (by unfold Func.isWrapper; first | (rw [if_pos (by decide +kernel)]; kernel_rfl) | (rw [if_neg (by decide +kernel)]; exact ⟨rfl, rfl⟩))
    (fun os started H enc _ => changeForms_lifted os started H enc)
#print axioms changeForms_holds
end Go.Proofs.Ytcgaabciagiodaa
