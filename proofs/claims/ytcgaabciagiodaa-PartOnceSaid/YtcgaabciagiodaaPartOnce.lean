/- 'rabbetlaw14.PartOnce' returns true for every input, and each argument reads behind the call as it read before: no condition. -/
import Derived.Test.YtcgaabciagiodaaLawB
import Derived.Test.YtcgaabciagiodaaRbF
import Derived.Test.YtcgaabciagiodaaRows
import Derived.ChangeSame
import Derived.JoinedOf
import Derived.JoinedAt
import Derived.JoinedStill
import Derived.RowKit
import Derived.ProofKit
import Derived.OpenShut
namespace Go.Proofs.Ytcgaabciagiodaa
open Go.ChangeShapes Go.WideShapes Go.ChangeAt Go.RowKit Go.Rb Go.Rb.S1

theorem own : ownKnob Try.prog.godebug = none := by kernel_rfl

theorem plain (x : argsDen ([.sl .imm 1 tB, tB, tB].map PS.val)) (hx : argsOk [.sl .imm 1 tB, tB, tB] x) : ∃ n y, F3 n x = some y ∧ y.1.1 = true := by
  obtain ⟨l, t, k, u⟩ := x
  obtain ⟨⟨_, _, h1⟩, h2, h3, _⟩ := hx
  exact ⟨200, S1.law l t k h1 h2 h3⟩

def amb : Amb := ⟨fun _ => none⟩

set_option maxRecDepth 100000 in
theorem partOnce_lifted (os : Os) (started : os.Started) (H : Type) (enc : TypeId × Value → H) :
    ReturnsInHanded {} Try.checked os 3 .any (Rows.partOnceSpec.pre6 enc Try.prog Try.f3 Rows.partOnceRow.domain false) (Rows.partOnceSpec.post enc Try.prog Try.f3 false true false false) :=
  lifted_true (A := amb) (C := c3 0) (CK := Try.checked) (G := F3) own started (by kernel_rfl) fn3
    (ChangeSpec.witness6 (enc := enc) (C := Try.checked) false ⟨#[], #[.slice none 0 0, .int .u8 0, .int .u8 0], []⟩ 8 (by kernel_rfl) (by kernel_rfl) (by kernel_rfl) (by kernel_rfl))
    (by kernel_rfl) (by decide +kernel) (tys := [.sl .imm 1 tB, tB, tB]) ⟨rfl, rfl, rfl, rfl, rfl, rfl, trivial⟩ (tab rfl) (fun _ => rfl) (fun n => (S3 amb n).of rfl) plain rfl rfl (by kernel_rfl)
    (fun ds h => by
      match ds, h with
      | [d1, d2, d3], _ => rfl)

theorem partOnce_holds : Rows.PartOnceSaid :=
  OpenClaim.holds_of_wide 3 Try.f3 rfl rfl rfl rfl rfl rfl rfl ⟨rfl, rfl, rfl, rfl, rfl⟩ rfl rfl rfl rfl rfl (by kernel_rfl) fn3 (by kernel_rfl)
    (of_decide_eq_true (by kernel_rfl)) (by unfold Func.isWrapper; first | (rw [if_pos (by decide +kernel)]; kernel_rfl) | (rw [if_neg (by decide +kernel)]; exact ⟨rfl, rfl⟩))
    (fun os started H enc _ => partOnce_lifted os started H enc)
#print axioms partOnce_holds
end Go.Proofs.Ytcgaabciagiodaa
