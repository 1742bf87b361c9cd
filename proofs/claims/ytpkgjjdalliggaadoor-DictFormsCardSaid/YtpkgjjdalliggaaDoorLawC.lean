/- The package-level errors of the program, as they are laid: what the row's condition gives, and a world that meets it. -/
import Derived.Test.YtpkgjjdalliggaaDoorLawB
import Derived.Test.YtpkgjjdalliggaaDoorRbH
import Derived.Test.YtpkgjjdalliggaaDoorRows
import Derived.ChangeSame
import Derived.JoinedOf
import Derived.JoinedAt
import Derived.JoinedStill
import Derived.RowKit
import Derived.ProofKit
import Derived.OpenShut
import Derived.Stop.Texts
set_option linter.unusedVariables false
set_option linter.unusedSimpArgs false
namespace Go.Rb.R2
open Go.ChangeShapes Go.WideShapes Go.ChangeAt Go.RowKit Go.Rb

theorem own : ownKnob Go.Proofs.Tryd.prog.godebug = none := by kernel_rfl
def sents : List (String × List UInt8) := [("rabbet/num.errShort", [101, 110, 100, 115, 32, 116, 111, 111, 32, 115, 111, 111, 110]), ("rabbet/num.errLong", [105, 115, 32, 110, 111, 116, 32, 97, 115, 32, 115, 104, 111, 114, 116, 32, 97, 115, 32, 109, 97, 121, 32, 98, 101]), ("rabbet/dict.errForm", [115, 97, 121, 115, 32, 110, 111, 32, 99, 111, 108, 117, 109, 110])]
theorem star : "*" ++ "errors.errorString" = "*errors.errorString" := by decide
theorem rowE (u : TypeId) (h : P.typeName? 3 u = some "*errors.errorString") : u = 121 :=
  typeName_ptr_named (nm := "errors.errorString") (by rw [star]; kernel_rfl) (by kernel_rfl) (by decide) u (by rw [star]; exact h)
theorem errTy : ErrTy P "*errors.errorString" 53 121 146 9 where
  hi := ifaceB_ok (by kernel_rfl)
  hrow := rowE
  hp := by kernel_rfl
  he := by
    have h : ((P.underlying 146).map fun d => match d with
      | .struct fs => (match fs.toList with
        | [f] => some (f.type, f.offset)
        | _ => none)
      | _ => none) = some (some (9, 0)) := by kernel_rfl
    obtain ⟨d, hd, h2⟩ := Option.map_eq_some_iff.1 h
    cases d with
    | struct fs =>
      obtain ⟨l⟩ := fs
      match l, h2 with
      | [f], h2 =>
        simp only [Option.some.injEq, Prod.mk.injEq] at h2
        exact ⟨f, hd, h2.1, h2.2⟩
      | [], h2 => simp at h2
      | _ :: _ :: _, h2 => simp at h2
    | _ => simp at h2
  hs := by kernel_rfl
  hc := by kernel_rfl
  hcs := by kernel_rfl
theorem gN1 : P.globalNamed "rabbet/num.errShort" = some 1 := by kernel_rfl
theorem gT1 : (P.globals[1]?).map (·.type) = some 53 := by kernel_rfl
theorem gN2 : P.globalNamed "rabbet/num.errLong" = some 2 := by kernel_rfl
theorem gT2 : (P.globals[2]?).map (·.type) = some 53 := by kernel_rfl
theorem gN0 : P.globalNamed "rabbet/dict.errForm" = some 0 := by kernel_rfl
theorem gT0 : (P.globals[0]?).map (·.type) = some 53 := by kernel_rfl

theorem sentsTy : ∀ x, x ∈ sents → ∀ g, P.globalNamed x.1 = some g → (P.globals[g]?).map (·.type) = some 53 := by
  intro x hx g hg
  simp only [sents, List.mem_cons, List.not_mem_nil, or_false] at hx
  rcases hx with rfl | rfl | rfl
  · rw [show P.globalNamed "rabbet/num.errShort" = some 1 from gN1] at hg
    obtain rfl := Option.some.inj hg
    exact gT1
  · rw [show P.globalNamed "rabbet/num.errLong" = some 2 from gN2] at hg
    obtain rfl := Option.some.inj hg
    exact gT2
  · rw [show P.globalNamed "rabbet/dict.errForm" = some 0 from gN0] at hg
    obtain rfl := Option.some.inj hg
    exact gT0

theorem glsOK {C : Ctx} (hC : C.gl = gls) : ∀ g t x, C.gl g = some ⟨t, x⟩ → (∃ y, y ∈ sents ∧ P.globalNamed y.1 = some g) ∧ (⟨t, x⟩ : (t : Ty) × t.den) = ⟨.err, UV.sent g⟩ := by
  intro g t x h
  rw [hC] at h
  have hm := find_mem h
  simp only [List.mem_cons, List.not_mem_nil, or_false, Prod.mk.injEq] at hm
  rcases hm with ⟨rfl, he⟩ | ⟨rfl, he⟩ | ⟨rfl, he⟩
  · exact ⟨⟨("rabbet/dict.errForm", [115, 97, 121, 115, 32, 110, 111, 32, 99, 111, 108, 117, 109, 110]), by simp [sents], gN0⟩, he⟩
  · exact ⟨⟨("rabbet/num.errShort", [101, 110, 100, 115, 32, 116, 111, 111, 32, 115, 111, 111, 110]), by simp [sents], gN1⟩, he⟩
  · exact ⟨⟨("rabbet/num.errLong", [105, 115, 32, 110, 111, 116, 32, 97, 115, 32, 115, 104, 111, 114, 116, 32, 97, 115, 32, 109, 97, 121, 32, 98, 101]), by simp [sents], gN2⟩, he⟩

noncomputable def low : Nat := (World.holding P default ⟨#[], #[], []⟩).heap.size
noncomputable def putE (k : Nat) : Obj → Obj
  | .cells _ t frozen => .cells #[.iface 121 (.pointer (some ⟨low + k, 0, none⟩))] t frozen
  | o => o
noncomputable def laidWorld (os : Os) : World :=
  let w0 := World.holding P os ⟨#[.cells #[.string { data := #[101, 110, 100, 115, 32, 116, 111, 111, 32, 115, 111, 111, 110] }] 146, .cells #[.string { data := #[105, 115, 32, 110, 111, 116, 32, 97, 115, 32, 115, 104, 111, 114, 116, 32, 97, 115, 32, 109, 97, 121, 32, 98, 101] }] 146, .cells #[.string { data := #[115, 97, 121, 115, 32, 110, 111, 32, 99, 111, 108, 117, 109, 110] }] 146], #[], []⟩
  { w0 with heap := (((w0.heap.modify 1 (putE 0)).modify 2 (putE 1)).modify 0 (putE 2)) }
theorem laid_met (os : Os) (args : Array Value) : laidMet P (sents.map fun x => (x.1, sentD "*errors.errorString" x.2)) ((laidWorld os).forCall (fun _ _ => 0) ⟨#[], args, []⟩).memory :=
  laidMet_of_run' 8 (by kernel_rfl) (by kernel_rfl)
end Go.Rb.R2

namespace Go.Rb.R2
open Go.Rb
open Go.RowKit
set_option maxRecDepth 100000
def s4 : Sig := ⟨[], [.val .bool]⟩
/-- rabbet/rabbetlaw7.DictForms -/
def f_law7_DictForms (n : Nat) (x : Unit) : Option ((Bool × Unit) × (Unit)) :=
  ((f_law7_begun n ()).bind fun (y1 : (Bool × Unit) × (Unit)) => (if (!y1.1.1) = true then (some ((false, ()), ())) else ((f_dict_Put n ((4:Int), ([((4:Int), (0:Int), [98], ()), ((4:Int), (0:Int), [97], ()), ((4:Int), (0:Int), [98], ()), ((4:Int), (0:Int), [99], ())] : List (Int × Int × List Int × Unit)), ())).bind fun (y2 : (List Int × Bool × Unit) × (Unit)) => ((f_dict_Put n ((3:Int), ([((3:Int), (1:Int), [], ()), ((3:Int), (1:Int), [], ())] : List (Int × Int × List Int × Unit)), ())).bind fun (y3 : (List Int × Bool × Unit) × (Unit)) => ((f_dict_Put n ((2:Int), [], ())).bind fun (y4 : (List Int × Bool × Unit) × (Unit)) => ((f_dict_Take n ((4:Int), (2:Int), [(2:Int), (1:Int), (98:Int), (1:Int), (97:Int), (1:Int)], ())).bind fun (y5 : ((List (Int × Int × List Int × Unit)) × Bool × Unit) × (Unit)) => ((f_dict_Take n ((4:Int), (1:Int), [(2:Int), (1:Int), (97:Int), (1:Int), (98:Int), (0:Int)], ())).bind fun (y6 : ((List (Int × Int × List Int × Unit)) × Bool × Unit) × (Unit)) => ((f_dict_Take n ((4:Int), (1:Int), [(1:Int), (1:Int), (97:Int)], ())).bind fun (y7 : ((List (Int × Int × List Int × Unit)) × Bool × Unit) × (Unit)) => (if y2.1.2.1 = true then (if (decide (y2.1.1 = [3, 1, 97, 1, 98, 1, 99, 145])) = true then (if y3.1.2.1 = true then (if (decide (y3.1.1 = [1, 1])) = true then (if y4.1.2.1 = true then (if (decide (y4.1.1 = [0])) = true then (if (!y5.1.2.1) = true then (if (!y6.1.2.1) = true then (some ((y7.1.2.1, ()), ())) else (some ((false, ()), ()))) else (some ((false, ()), ()))) else (some ((false, ()), ()))) else (some ((false, ()), ()))) else (some ((false, ()), ()))) else (some ((false, ()), ()))) else (some ((false, ()), ()))) else (some ((false, ()), ())))))))))))
def h4 : Hints := ⟨[], []⟩
def ft4 (n : Nat) : List (Nat × FEnt) := [(6, ⟨s6, f_law7_begun n⟩), (8, ⟨s8, f_dict_Put n⟩), (9, ⟨s9, f_dict_Take n⟩)]
def c4 (n : Nat) : Ctx := ⟨88, find? tys, find? (ft4 n), gls, [], [], []⟩
theorem e4 (n x) : execFn (c4 n) h4 n Go.Proofs.Tryd.f4 s4 x = f_law7_DictForms n x := by kernel_rfl
theorem fn4 : P.funcs[4]? = some Go.Proofs.Tryd.f4 := by kernel_rfl
theorem call4 : Callable P 4 := callB_ok (by kernel_rfl)
theorem S4 (A : Amb) (hA : HA A) (n : Nat) : Sound A P (c4 n) 4 s4 (f_law7_DictForms n) :=
  execFn_sound mixed (tab rfl) (ft_all (C := c4 n) (l := ft4 n) rfl ⟨⟨call6, (S6 A hA n).of rfl⟩, ⟨call8, (S8 A n).of rfl⟩, ⟨call9, (S9 A hA n).of rfl⟩, trivial⟩) fn4 fun x y h => (e4 n x).trans h
end Go.Rb.R2

namespace Go.Rb.R2
open Go.Rb
theorem dictForms_true : f_law7_DictForms 100 () = some ((true, ()), ()) := by decide +kernel
theorem begun_true : f_law7_begun 100 () = some ((true, ()), ()) := by decide +kernel
end Go.Rb.R2
