/- The package-level errors of the program, as they are laid: what the row's condition gives, and a world that meets it. -/
import Derived.Test.YtpkgjjdalliggaaGreatDoorLawB
import Derived.Test.YtpkgjjdalliggaaGreatDoorRbH
import Derived.Test.YtpkgjjdalliggaaGreatDoorRows
import Derived.ChangeSame
import Derived.JoinedOf
import Derived.JoinedAt
import Derived.JoinedStill
import Derived.RowKit
import Derived.ProofKit
import Derived.OpenShut
import Derived.Stop.Texts
set_option autoImplicit false
set_option linter.unusedVariables false
set_option linter.unusedSimpArgs false
namespace Go.Rb.R4
open Go.ChangeShapes Go.WideShapes Go.ChangeAt Go.RowKit Go.Rb
theorem own : ownKnob Go.Proofs.Tryz.prog.godebug = none := by kernel_rfl
def c2j : List (String × List UInt8) := [("rabbet/num.errShort", [101, 110, 100, 115, 32, 116, 111, 111, 32, 115, 111, 111, 110]), ("rabbet/num.errLong", [105, 115, 32, 110, 111, 116, 32, 97, 115, 32, 115, 104, 111, 114, 116, 32, 97, 115, 32, 109, 97, 121, 32, 98, 101]), ("rabbet/nulls.errForm", [105, 115, 32, 110, 111, 116, 32, 111, 102, 32, 115, 111, 32, 109, 97, 110, 121]), ("rabbet/delta.errForm", [115, 97, 121, 115, 32, 110, 111, 32, 99, 111, 108, 117, 109, 110]), ("rabbet/dict.errForm", [115, 97, 121, 115, 32, 110, 111, 32, 99, 111, 108, 117, 109, 110]), ("rabbet/pack.errForm", [115, 97, 121, 115, 32, 110, 111, 32, 99, 111, 108, 117, 109, 110]), ("rabbet/plain.errForm", [115, 97, 121, 115, 32, 110, 111, 32, 99, 111, 108, 117, 109, 110]), ("rabbet/rle.errForm", [115, 97, 121, 115, 32, 110, 111, 32, 99, 111, 108, 117, 109, 110])]
theorem star : "*" ++ "errors.errorString" = "*errors.errorString" := by decide
theorem rowE (u : TypeId) (h : P.typeName? 3 u = some "*errors.errorString") : u = 169 :=
 typeName_ptr_named (nm := "errors.errorString") (by rw [star]; kernel_rfl) (by kernel_rfl) (by decide) u (by rw [star]; exact h)
theorem g0g : ErrTy P "*errors.errorString" 69 169 194 9 where
 hi := a1a (by kernel_rfl)
 hrow := rowE
 hp := by kernel_rfl
 he := by
  have h : ((P.underlying 194).map fun d => match d with
   | .struct fs => (match fs.toList with
    | [f] => some (f.type, f.offset)
    | _ => none)
   | _ => none) = some (some (9, 0)) := by kernel_rfl
  obtain ⟨d, hd, h2⟩ := Option.map_eq_some_iff.1 h
  cases d with
  | struct fs =>
   obtain ⟨l⟩ := fs
   match l, h2 with
   | [f], h2 =>
    simp only [Option.some.injEq, Prod.mk.injEq] at h2
    exact ⟨f, hd, h2.1, h2.2⟩
   | [], h2 => simp at h2
   | _ :: _ :: _, h2 => simp at h2
  | _ => simp at h2
 hs := by kernel_rfl
 hc := by kernel_rfl
 hcs := by kernel_rfl
theorem gN2 : P.globalNamed "rabbet/num.errShort" = some 2 := by kernel_rfl
theorem gT2 : (P.globals[2]?).map (·.type) = some 69 := by kernel_rfl
theorem gN3 : P.globalNamed "rabbet/num.errLong" = some 3 := by kernel_rfl
theorem gT3 : (P.globals[3]?).map (·.type) = some 69 := by kernel_rfl
theorem gN1 : P.globalNamed "rabbet/nulls.errForm" = some 1 := by kernel_rfl
theorem gT1 : (P.globals[1]?).map (·.type) = some 69 := by kernel_rfl
theorem gN7 : P.globalNamed "rabbet/delta.errForm" = some 7 := by kernel_rfl
theorem gT7 : (P.globals[7]?).map (·.type) = some 69 := by kernel_rfl
theorem gN0 : P.globalNamed "rabbet/dict.errForm" = some 0 := by kernel_rfl
theorem gT0 : (P.globals[0]?).map (·.type) = some 69 := by kernel_rfl
theorem gN6 : P.globalNamed "rabbet/pack.errForm" = some 6 := by kernel_rfl
theorem gT6 : (P.globals[6]?).map (·.type) = some 69 := by kernel_rfl
theorem gN4 : P.globalNamed "rabbet/plain.errForm" = some 4 := by kernel_rfl
theorem gT4 : (P.globals[4]?).map (·.type) = some 69 := by kernel_rfl
theorem gN5 : P.globalNamed "rabbet/rle.errForm" = some 5 := by kernel_rfl
theorem gT5 : (P.globals[5]?).map (·.type) = some 69 := by kernel_rfl
theorem f4k : ∀ x, x ∈ c2j → ∀ g, P.globalNamed x.1 = some g → (P.globals[g]?).map (·.type) = some 69 := by
 intro x hx g hg
 simp only [c2j, List.mem_cons, List.not_mem_nil, or_false] at hx
 rcases hx with rfl | rfl | rfl | rfl | rfl | rfl | rfl | rfl
 ·rw [show P.globalNamed "rabbet/num.errShort" = some 2 from gN2] at hg
  obtain rfl := Option.some.inj hg
  exact gT2
 ·rw [show P.globalNamed "rabbet/num.errLong" = some 3 from gN3] at hg
  obtain rfl := Option.some.inj hg
  exact gT3
 ·rw [show P.globalNamed "rabbet/nulls.errForm" = some 1 from gN1] at hg
  obtain rfl := Option.some.inj hg
  exact gT1
 ·rw [show P.globalNamed "rabbet/delta.errForm" = some 7 from gN7] at hg
  obtain rfl := Option.some.inj hg
  exact gT7
 ·rw [show P.globalNamed "rabbet/dict.errForm" = some 0 from gN0] at hg
  obtain rfl := Option.some.inj hg
  exact gT0
 ·rw [show P.globalNamed "rabbet/pack.errForm" = some 6 from gN6] at hg
  obtain rfl := Option.some.inj hg
  exact gT6
 ·rw [show P.globalNamed "rabbet/plain.errForm" = some 4 from gN4] at hg
  obtain rfl := Option.some.inj hg
  exact gT4
 ·rw [show P.globalNamed "rabbet/rle.errForm" = some 5 from gN5] at hg
  obtain rfl := Option.some.inj hg
  exact gT5
theorem f9t {C : Ctx} (hC : C.gl = gls) : ∀ g t x, C.gl g = some ⟨t, x⟩ → (∃ y, y ∈ c2j ∧ P.globalNamed y.1 = some g) ∧ (⟨t, x⟩ : (t : Ty) × t.den) = ⟨.err, UV.sent g⟩ := by
 intro g t x h
 rw [hC] at h
 have hm := b4i h
 simp only [List.mem_cons, List.not_mem_nil, or_false, Prod.mk.injEq] at hm
 rcases hm with ⟨rfl, he⟩ | ⟨rfl, he⟩ | ⟨rfl, he⟩ | ⟨rfl, he⟩ | ⟨rfl, he⟩ | ⟨rfl, he⟩ | ⟨rfl, he⟩ | ⟨rfl, he⟩
 ·exact ⟨⟨("rabbet/dict.errForm", [115, 97, 121, 115, 32, 110, 111, 32, 99, 111, 108, 117, 109, 110]), by simp [c2j], gN0⟩, he⟩
 ·exact ⟨⟨("rabbet/nulls.errForm", [105, 115, 32, 110, 111, 116, 32, 111, 102, 32, 115, 111, 32, 109, 97, 110, 121]), by simp [c2j], gN1⟩, he⟩
 ·exact ⟨⟨("rabbet/num.errShort", [101, 110, 100, 115, 32, 116, 111, 111, 32, 115, 111, 111, 110]), by simp [c2j], gN2⟩, he⟩
 ·exact ⟨⟨("rabbet/num.errLong", [105, 115, 32, 110, 111, 116, 32, 97, 115, 32, 115, 104, 111, 114, 116, 32, 97, 115, 32, 109, 97, 121, 32, 98, 101]), by simp [c2j], gN3⟩, he⟩
 ·exact ⟨⟨("rabbet/plain.errForm", [115, 97, 121, 115, 32, 110, 111, 32, 99, 111, 108, 117, 109, 110]), by simp [c2j], gN4⟩, he⟩
 ·exact ⟨⟨("rabbet/rle.errForm", [115, 97, 121, 115, 32, 110, 111, 32, 99, 111, 108, 117, 109, 110]), by simp [c2j], gN5⟩, he⟩
 ·exact ⟨⟨("rabbet/pack.errForm", [115, 97, 121, 115, 32, 110, 111, 32, 99, 111, 108, 117, 109, 110]), by simp [c2j], gN6⟩, he⟩
 ·exact ⟨⟨("rabbet/delta.errForm", [115, 97, 121, 115, 32, 110, 111, 32, 99, 111, 108, 117, 109, 110]), by simp [c2j], gN7⟩, he⟩
noncomputable def low : Nat := (World.holding P default ⟨#[], #[], []⟩).heap.size
noncomputable def putE (k : Nat) : Obj → Obj
 | .cells _ t frozen => .cells #[.iface 169 (.pointer (some ⟨low + k, 0, none⟩))] t frozen
 | o => o
noncomputable def d7i (os : Os) : World :=
 let w0 := World.holding P os ⟨#[.cells #[.string { data := #[101, 110, 100, 115, 32, 116, 111, 111, 32, 115, 111, 111, 110] }] 194, .cells #[.string { data := #[105, 115, 32, 110, 111, 116, 32, 97, 115, 32, 115, 104, 111, 114, 116, 32, 97, 115, 32, 109, 97, 121, 32, 98, 101] }] 194, .cells #[.string { data := #[105, 115, 32, 110, 111, 116, 32, 111, 102, 32, 115, 111, 32, 109, 97, 110, 121] }] 194, .cells #[.string { data := #[115, 97, 121, 115, 32, 110, 111, 32, 99, 111, 108, 117, 109, 110] }] 194, .cells #[.string { data := #[115, 97, 121, 115, 32, 110, 111, 32, 99, 111, 108, 117, 109, 110] }] 194, .cells #[.string { data := #[115, 97, 121, 115, 32, 110, 111, 32, 99, 111, 108, 117, 109, 110] }] 194, .cells #[.string { data := #[115, 97, 121, 115, 32, 110, 111, 32, 99, 111, 108, 117, 109, 110] }] 194, .cells #[.string { data := #[115, 97, 121, 115, 32, 110, 111, 32, 99, 111, 108, 117, 109, 110] }] 194], #[], []⟩
 { w0 with heap := ((((((((w0.heap.modify 2 (putE 0)).modify 3 (putE 1)).modify 1 (putE 2)).modify 7 (putE 3)).modify 0 (putE 4)).modify 6 (putE 5)).modify 4 (putE 6)).modify 5 (putE 7)) }
theorem e8s (os : Os) (args : Array Value) : laidMet P (c2j.map fun x => (x.1, e7s "*errors.errorString" x.2)) ((d7i os).forCall (fun _ _ => 0) ⟨#[], args, []⟩).memory :=
 laidMet_of_run' 8 (by kernel_rfl) (by kernel_rfl)
end Go.Rb.R4
