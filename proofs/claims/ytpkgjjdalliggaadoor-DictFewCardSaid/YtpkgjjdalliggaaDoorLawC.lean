/- The package-level errors of the program, as they are laid: what the row's condition gives, and a world that meets it. -/
import Derived.Test.YtpkgjjdalliggaaDoorLawB
import Derived.Test.YtpkgjjdalliggaaDoorRbH
import Derived.Test.YtpkgjjdalliggaaDoorRows
import Derived.ChangeSame
import Derived.JoinedOf
import Derived.JoinedAt
import Derived.JoinedStill
import Derived.RowKit
import Derived.ProofKit
import Derived.OpenShut
import Derived.Stop.Texts
set_option linter.unusedVariables false
set_option linter.unusedSimpArgs false
namespace Go.Rb.R2
open Go.ChangeShapes Go.WideShapes Go.ChangeAt Go.RowKit Go.Rb

theorem own : ownKnob Go.Proofs.Tryd.prog.godebug = none := by kernel_rfl
def sents : List (String × List UInt8) := [("rabbet/num.errShort", [101, 110, 100, 115, 32, 116, 111, 111, 32, 115, 111, 111, 110]), ("rabbet/num.errLong", [105, 115, 32, 110, 111, 116, 32, 97, 115, 32, 115, 104, 111, 114, 116, 32, 97, 115, 32, 109, 97, 121, 32, 98, 101]), ("rabbet/dict.errForm", [115, 97, 121, 115, 32, 110, 111, 32, 99, 111, 108, 117, 109, 110])]
theorem star : "*" ++ "errors.errorString" = "*errors.errorString" := by decide
theorem rowE (u : TypeId) (h : P.typeName? 3 u = some "*errors.errorString") : u = 121 :=
  typeName_ptr_named (nm := "errors.errorString") (by rw [star]; kernel_rfl) (by kernel_rfl) (by decide) u (by rw [star]; exact h)
theorem errTy : ErrTy P "*errors.errorString" 53 121 146 9 where
  hi := ifaceB_ok (by kernel_rfl)
  hrow := rowE
  hp := by kernel_rfl
  he := by
    have h : ((P.underlying 146).map fun d => match d with
      | .struct fs => (match fs.toList with
        | [f] => some (f.type, f.offset)
        | _ => none)
      | _ => none) = some (some (9, 0)) := by kernel_rfl
    obtain ⟨d, hd, h2⟩ := Option.map_eq_some_iff.1 h
    cases d with
    | struct fs =>
      obtain ⟨l⟩ := fs
      match l, h2 with
      | [f], h2 =>
        simp only [Option.some.injEq, Prod.mk.injEq] at h2
        exact ⟨f, hd, h2.1, h2.2⟩
      | [], h2 => simp at h2
      | _ :: _ :: _, h2 => simp at h2
    | _ => simp at h2
  hs := by kernel_rfl
  hc := by kernel_rfl
  hcs := by kernel_rfl
theorem gN1 : P.globalNamed "rabbet/num.errShort" = some 1 := by kernel_rfl
theorem gT1 : (P.globals[1]?).map (·.type) = some 53 := by kernel_rfl
theorem gN2 : P.globalNamed "rabbet/num.errLong" = some 2 := by kernel_rfl
theorem gT2 : (P.globals[2]?).map (·.type) = some 53 := by kernel_rfl
theorem gN0 : P.globalNamed "rabbet/dict.errForm" = some 0 := by kernel_rfl
theorem gT0 : (P.globals[0]?).map (·.type) = some 53 := by kernel_rfl

theorem sentsTy : ∀ x, x ∈ sents → ∀ g, P.globalNamed x.1 = some g → (P.globals[g]?).map (·.type) = some 53 := by
  intro x hx g hg
  simp only [sents, List.mem_cons, List.not_mem_nil, or_false] at hx
  rcases hx with rfl | rfl | rfl
  · rw [show P.globalNamed "rabbet/num.errShort" = some 1 from gN1] at hg
    obtain rfl := Option.some.inj hg
    exact gT1
  · rw [show P.globalNamed "rabbet/num.errLong" = some 2 from gN2] at hg
    obtain rfl := Option.some.inj hg
    exact gT2
  · rw [show P.globalNamed "rabbet/dict.errForm" = some 0 from gN0] at hg
    obtain rfl := Option.some.inj hg
    exact gT0

theorem glsOK {C : Ctx} (hC : C.gl = gls) : ∀ g t x, C.gl g = some ⟨t, x⟩ → (∃ y, y ∈ sents ∧ P.globalNamed y.1 = some g) ∧ (⟨t, x⟩ : (t : Ty) × t.den) = ⟨.err, UV.sent g⟩ := by
  intro g t x h
  rw [hC] at h
  have hm := find_mem h
  simp only [List.mem_cons, List.not_mem_nil, or_false, Prod.mk.injEq] at hm
  rcases hm with ⟨rfl, he⟩ | ⟨rfl, he⟩ | ⟨rfl, he⟩
  · exact ⟨⟨("rabbet/dict.errForm", [115, 97, 121, 115, 32, 110, 111, 32, 99, 111, 108, 117, 109, 110]), by simp [sents], gN0⟩, he⟩
  · exact ⟨⟨("rabbet/num.errShort", [101, 110, 100, 115, 32, 116, 111, 111, 32, 115, 111, 111, 110]), by simp [sents], gN1⟩, he⟩
  · exact ⟨⟨("rabbet/num.errLong", [105, 115, 32, 110, 111, 116, 32, 97, 115, 32, 115, 104, 111, 114, 116, 32, 97, 115, 32, 109, 97, 121, 32, 98, 101]), by simp [sents], gN2⟩, he⟩

noncomputable def low : Nat := (World.holding P default ⟨#[], #[], []⟩).heap.size
noncomputable def putE (k : Nat) : Obj → Obj
  | .cells _ t frozen => .cells #[.iface 121 (.pointer (some ⟨low + k, 0, none⟩))] t frozen
  | o => o
noncomputable def laidWorld (os : Os) : World :=
  let w0 := World.holding P os ⟨#[.cells #[.string { data := #[101, 110, 100, 115, 32, 116, 111, 111, 32, 115, 111, 111, 110] }] 146, .cells #[.string { data := #[105, 115, 32, 110, 111, 116, 32, 97, 115, 32, 115, 104, 111, 114, 116, 32, 97, 115, 32, 109, 97, 121, 32, 98, 101] }] 146, .cells #[.string { data := #[115, 97, 121, 115, 32, 110, 111, 32, 99, 111, 108, 117, 109, 110] }] 146], #[], []⟩
  { w0 with heap := (((w0.heap.modify 1 (putE 0)).modify 2 (putE 1)).modify 0 (putE 2)) }
theorem laid_met (os : Os) (args : Array Value) : laidMet P (sents.map fun x => (x.1, sentD "*errors.errorString" x.2)) ((laidWorld os).forCall (fun _ _ => 0) ⟨#[], args, []⟩).memory :=
  laidMet_of_run' 8 (by kernel_rfl) (by kernel_rfl)
end Go.Rb.R2

namespace Go.Rb.R2
open Go.Rb
open Go.RowKit
set_option maxRecDepth 100000
def s3 : Sig := ⟨[.val tB, .val (.sl .imm 1 tB), .val (.int .u16), .val tB], [.val .bool]⟩
/-- rabbet/rabbetlaw7.DictBack -/
def f_law7_DictBack (n : Nat) (x : Int × List Int × Int × Int × Unit) : Option ((Bool × Unit) × (Unit)) :=
  ((f_law7_begun n ()).bind fun (y1 : (Bool × Unit) × (Unit)) => (if (!y1.1.1) = true then (some ((false, ()), ())) else (if (decide ((60:Int) < (x.2.1.length : Int))) = true then (some ((true, ()), ())) else ((f_law7_some n (x.2.1, (IntKind.i64.wrap ((1:Int) + (IntKind.i64.wrap (x.1.tmod (4:Int))))), (30:Int), ())).bind fun (y2 : ((List (Int × Int × List Int × Unit)) × Unit) × (Unit)) => ((f_dict_Put n ((IntKind.i64.wrap ((1:Int) + (IntKind.i64.wrap (x.1.tmod (4:Int))))), y2.1.1, ())).bind fun (y3 : (List Int × Bool × Unit) × (Unit)) => ((f_dict_Take n ((IntKind.i64.wrap ((1:Int) + (IntKind.i64.wrap (x.1.tmod (4:Int))))), (y2.1.1.length : Int), y3.1.1, ())).bind fun (y4 : ((List (Int × Int × List Int × Unit)) × Bool × Unit) × (Unit)) => (if (!y3.1.2.1) = true then (some ((false, ()), ())) else (if (!y4.1.2.1) = true then (some ((false, ()), ())) else ((f_ref1_SameValues n (y4.1.1, y2.1.1, ())).bind fun (y5 : (Bool × Unit) × (Unit)) => (if (!y5.1.1) = true then (some ((false, ()), ())) else (if (([] : List (Int)).length + y3.1.1.length) * 1 ≤ room then (if (([] ++ y3.1.1).length + [x.2.2.2.1].length) * 1 ≤ room then ((f_dict_Take n ((IntKind.i64.wrap ((1:Int) + (IntKind.i64.wrap (x.1.tmod (4:Int))))), (y2.1.1.length : Int), (([] ++ y3.1.1) ++ [x.2.2.2.1]), ())).bind fun (y6 : ((List (Int × Int × List Int × Unit)) × Bool × Unit) × (Unit)) => (if y6.1.2.1 = true then (some (((!y6.1.2.1), ()), ())) else (if (decide ((y3.1.1.length : Int) = (0:Int))) = true then (some (((!y6.1.2.1), ()), ())) else (if (y3.1.1.length : Int) = 0 then none else (if 0 ≤ ((IntKind.i64.wrap x.2.2.1).tmod (y3.1.1.length : Int)) ∧ ((IntKind.i64.wrap x.2.2.1).tmod (y3.1.1.length : Int)) ≤ (y3.1.1.length : Int) then ((f_dict_Take n ((IntKind.i64.wrap ((1:Int) + (IntKind.i64.wrap (x.1.tmod (4:Int))))), (y2.1.1.length : Int), ((y3.1.1.take ((IntKind.i64.wrap x.2.2.1).tmod (y3.1.1.length : Int)).toNat).drop (0:Int).toNat), ())).bind fun (y7 : ((List (Int × Int × List Int × Unit)) × Bool × Unit) × (Unit)) => (some (((!y7.1.2.1), ()), ()))) else none))))) else none) else none)))))))))))
def h3 : Hints := ⟨[], []⟩
def ft3 (n : Nat) : List (Nat × FEnt) := [(6, ⟨s6, f_law7_begun n⟩), (7, ⟨s7, f_law7_some n⟩), (8, ⟨s8, f_dict_Put n⟩), (9, ⟨s9, f_dict_Take n⟩), (10, ⟨s10, f_ref1_SameValues n⟩)]
def c3 (n : Nat) : Ctx := ⟨101, find? tys, find? (ft3 n), gls, [], [], []⟩
theorem e3 (n x) : execFn (c3 n) h3 n Go.Proofs.Tryd.f3 s3 x = f_law7_DictBack n x := by kernel_rfl
theorem fn3 : P.funcs[3]? = some Go.Proofs.Tryd.f3 := by kernel_rfl
theorem call3 : Callable P 3 := callB_ok (by kernel_rfl)
theorem S3 (A : Amb) (hA : HA A) (n : Nat) : Sound A P (c3 n) 3 s3 (f_law7_DictBack n) :=
  execFn_sound mixed (tab rfl) (ft_all (C := c3 n) (l := ft3 n) rfl ⟨⟨call6, (S6 A hA n).of rfl⟩, ⟨call7, (S7 A n).of rfl⟩, ⟨call8, (S8 A n).of rfl⟩, ⟨call9, (S9 A hA n).of rfl⟩, ⟨call10, (S10 A n).of rfl⟩, trivial⟩) fn3 fun x y h => (e3 n x).trans h
end Go.Rb.R2

namespace Go.Rb.R2
open Go.Rb
open Go.RowKit
set_option maxRecDepth 100000
def s5 : Sig := ⟨[.val (.sl .imm 1 .bool)], [.val .bool]⟩
/-- rabbet/rabbetlaw7.DictFew -/
def f_law7_DictFew (n : Nat) (x : List Bool × Unit) : Option ((Bool × Unit) × (Unit)) :=
  ((f_law7_begun n ()).bind fun (y1 : (Bool × Unit) × (Unit)) => (if (!y1.1.1) = true then (some ((false, ()), ())) else (if (decide ((x.1.length : Int) < (1:Int))) = true then (some ((true, ()), ())) else (if (decide ((200:Int) < (x.1.length : Int))) = true then (some ((true, ()), ())) else (iterF (fun rec3 (s2 : (List (Int × Int × List Int × Unit)) × Bool × Int) => (if (decide (s2.2.2 < (x.1.length : Int))) = true then (joinF (fun (s4 : Int × Int × List Int × Unit) => (if s2.2.1 = true then (if (s2.1.length + ([s4] : List (Int × Int × List Int × Unit)).length) * 32 ≤ room then (rec3 ((s2.1 ++ ([s4] : List (Int × Int × List Int × Unit))), true, (IntKind.i64.wrap (s2.2.2 + (1:Int))))) else none) else (atI s2.2.2 x.1.length (atI (0:Int) x.1.length (if (s2.1.length + ([s4] : List (Int × Int × List Int × Unit)).length) * 32 ≤ room then (rec3 ((s2.1 ++ ([s4] : List (Int × Int × List Int × Unit))), (!((x.1.getD s2.2.2.toNat false) == (x.1.getD (0:Int).toNat false))), (IntKind.i64.wrap (s2.2.2 + (1:Int))))) else none))))) fun J5 => (atI s2.2.2 x.1.length (if (x.1.getD s2.2.2.toNat false) = true then (J5 ((4:Int), (0:Int), [97, 110, 111, 116, 104, 101, 114, 45, 116, 101, 120, 116, 45, 111, 102, 45, 116, 104, 97, 116], ())) else (J5 ((4:Int), (0:Int), [116, 119, 101, 110, 116, 121, 45, 98, 121, 116, 101, 115, 45, 111, 102, 45, 116, 101, 120, 116], ()))))) else ((f_dict_Put n ((4:Int), s2.1, ())).bind fun (y6 : (List Int × Bool × Unit) × (Unit)) => (if s2.2.1 = true then (if y6.1.2.1 = true then (some (((decide ((y6.1.1.length : Int) = (IntKind.i64.wrap ((43:Int) + (IntKind.i64.wrap ((IntKind.i64.wrap ((s2.1.length : Int) + (7:Int))).tdiv (8:Int))))))), ()), ())) else (some ((false, ()), ()))) else (if y6.1.2.1 = true then (some (((decide ((y6.1.1.length : Int) = (22:Int))), ()), ())) else (some ((false, ()), ()))))))) n ([], false, (0:Int)))))))
def h5 : Hints := ⟨[(0, ⟨[(3, .val (.sl .own 32 (.st (.pair tI (.pair tI (.pair .str .unit)))))), (4, .val .bool), (5, .val tI)], [0], []⟩)], [(26, ⟨[(6, .box (.st (.pair tI (.pair tI (.pair .str .unit)))))], [0, 4, 5], [3]⟩)]⟩
def ft5 (n : Nat) : List (Nat × FEnt) := [(6, ⟨s6, f_law7_begun n⟩), (8, ⟨s8, f_dict_Put n⟩)]
def c5 (n : Nat) : Ctx := ⟨65, find? tys, find? (ft5 n), gls, [], [], []⟩
theorem e5 (n x) : execFn (c5 n) h5 n Go.Proofs.Tryd.f5 s5 x = f_law7_DictFew n x := by kernel_rfl
theorem fn5 : P.funcs[5]? = some Go.Proofs.Tryd.f5 := by kernel_rfl
theorem call5 : Callable P 5 := callB_ok (by kernel_rfl)
theorem S5 (A : Amb) (hA : HA A) (n : Nat) : Sound A P (c5 n) 5 s5 (f_law7_DictFew n) :=
  execFn_sound mixed (tab rfl) (ft_all (C := c5 n) (l := ft5 n) rfl ⟨⟨call6, (S6 A hA n).of rfl⟩, ⟨call8, (S8 A n).of rfl⟩, trivial⟩) fn5 fun x y h => (e5 n x).trans h
end Go.Rb.R2
