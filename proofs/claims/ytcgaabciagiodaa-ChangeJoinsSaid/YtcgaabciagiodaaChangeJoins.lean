/- 'ChangeJoins' returns true for every input, and each argument reads behind the call as it read before: no condition. -/
import Derived.Test.YtcgaabciagiodaaLawD
import Derived.Test.YtcgaabciagiodaaRbF
import Derived.Test.YtcgaabciagiodaaRows
import Derived.ChangeSame
import Derived.JoinedOf
import Derived.JoinedAt
import Derived.JoinedStill
import Derived.RowKit
import Derived.ProofKit
import Derived.OpenShut
namespace Go.Proofs.Ytcgaabciagiodaa
open Go.ChangeShapes Go.WideShapes Go.ChangeAt Go.RowKit Go.Rb Go.Rb.S1

theorem changeJoins_own : ownKnob Try.prog.godebug = none := by kernel_rfl

theorem changeJoins_plain (x : argsDen ([.str, tB].map PS.val)) (hx : argsOk [.str, tB] x) : ∃ n y, F5 n x = some y ∧ y.1.1 = true := by
  obtain ⟨l, c, u⟩ := x
  exact ⟨200, law_joins l c⟩

def changeJoins_amb : Amb := ⟨fun _ => none⟩

set_option maxRecDepth 100000 in
theorem changeJoins_lifted (os : Os) (started : os.Started) (H : Type) (enc : TypeId × Value → H) :
    ReturnsInHanded {} Try.checked os 5 .any (Rows.changeJoinsSpec.pre6 enc Try.prog Try.f5 Rows.changeJoinsRow.domain false) (Rows.changeJoinsSpec.post enc Try.prog Try.f5 false true false false) :=
  lifted_true (A := changeJoins_amb) (C := c5 0) (CK := Try.checked) (G := F5) changeJoins_own started (by kernel_rfl) fn5
    (ChangeSpec.witness6 (enc := enc) (C := Try.checked) false ⟨#[], #[.string ⟨#[]⟩, .int .u8 0], []⟩ 8 (by kernel_rfl) (by kernel_rfl) (by kernel_rfl) (by kernel_rfl))
    (by kernel_rfl) (by decide +kernel) (tys := [.str, tB]) ⟨rfl, rfl, rfl, rfl, trivial⟩ (tab rfl) (fun _ => rfl) (fun n => (S5 changeJoins_amb n).of rfl) changeJoins_plain rfl rfl (by kernel_rfl)
    (fun ds h => by
      match ds, h with
      | [d1, d2], _ => rfl)

theorem changeJoins_holds : Rows.ChangeJoinsSaid :=
  OpenClaim.holds_of_wide 5 Try.f5 rfl rfl rfl rfl rfl rfl rfl ⟨rfl, rfl, rfl, rfl, rfl⟩ rfl rfl rfl rfl rfl (by kernel_rfl) fn5 (by kernel_rfl)
    (of_decide_eq_true (by kernel_rfl)) (by unfold Func.isWrapper; first | (rw [if_pos (by decide +kernel)]; kernel_rfl) | (rw [if_neg (by decide +kernel)]; exact ⟨rfl, rfl⟩))
    (fun os started H enc _ => changeJoins_lifted os started H enc)
#print axioms changeJoins_holds
end Go.Proofs.Ytcgaabciagiodaa
