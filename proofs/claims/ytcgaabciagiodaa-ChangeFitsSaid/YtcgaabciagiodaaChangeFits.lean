/- 'ChangeFits' returns true for every input, and each argument reads behind the call as it read before: no condition. -/
import Derived.Test.YtcgaabciagiodaaLawE
import Derived.Test.YtcgaabciagiodaaRbF
import Derived.Test.YtcgaabciagiodaaRows
import Derived.ChangeSame
import Derived.JoinedOf
import Derived.JoinedAt
import Derived.JoinedStill
import Derived.RowKit
import Derived.ProofKit
import Derived.OpenShut
namespace Go.Proofs.Ytcgaabciagiodaa
open Go.ChangeShapes Go.WideShapes Go.ChangeAt Go.RowKit Go.Rb Go.Rb.S1

theorem changeFits_own : ownKnob Try.prog.godebug = none := by kernel_rfl

theorem changeFits_plain (x : argsDen ([.sl .imm 1 tB, .sl .imm 1 tB].map PS.val)) (hx : argsOk [.sl .imm 1 tB, .sl .imm 1 tB] x) : ∃ n y, F4 n x = some y ∧ y.1.1 = true := by
  obtain ⟨l, m, u⟩ := x
  obtain ⟨⟨_, _, h1⟩, ⟨_, _, h2⟩, _⟩ := hx
  exact ⟨200, law_fits l m h1 h2⟩

def changeFits_amb : Amb := ⟨fun _ => none⟩

set_option maxRecDepth 100000 in
theorem changeFits_lifted (os : Os) (started : os.Started) (H : Type) (enc : TypeId × Value → H) :
    ReturnsInHanded {} Try.checked os 4 .any (Rows.changeFitsSpec.pre6 enc Try.prog Try.f4 Rows.changeFitsRow.domain false) (Rows.changeFitsSpec.post enc Try.prog Try.f4 false true false false) :=
  lifted_true (A := changeFits_amb) (C := c4 0) (CK := Try.checked) (G := F4) changeFits_own started (by kernel_rfl) fn4
    (ChangeSpec.witness6 (enc := enc) (C := Try.checked) false ⟨#[], #[.slice none 0 0, .slice none 0 0], []⟩ 8 (by kernel_rfl) (by kernel_rfl) (by kernel_rfl) (by kernel_rfl))
    (by kernel_rfl) (by decide +kernel) (tys := [.sl .imm 1 tB, .sl .imm 1 tB]) ⟨rfl, rfl, rfl, rfl, trivial⟩ (tab rfl) (fun _ => rfl) (fun n => (S4 changeFits_amb n).of rfl) changeFits_plain rfl rfl (by kernel_rfl)
    (fun ds h => by
      match ds, h with
      | [d1, d2], _ => rfl)

theorem changeFits_holds : Rows.ChangeFitsSaid :=
  OpenClaim.holds_of_wide 4 Try.f4 rfl rfl rfl rfl rfl rfl rfl ⟨rfl, rfl, rfl, rfl, rfl⟩ rfl rfl rfl rfl rfl (by kernel_rfl) fn4 (by kernel_rfl)
    (of_decide_eq_true (by kernel_rfl)) (by unfold Func.isWrapper; first | (rw [if_pos (by decide +kernel)]; kernel_rfl) | (rw [if_neg (by decide +kernel)]; exact ⟨rfl, rfl⟩))
    (fun os started H enc _ => changeFits_lifted os started H enc)
#print axioms changeFits_holds
end Go.Proofs.Ytcgaabciagiodaa
