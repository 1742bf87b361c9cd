/- The package-level errors of the program, as they are laid: what the row's condition gives, and a world that meets it. -/
import Derived.Test.YtcgaabciagiodaaDoorLawA
import Derived.Test.YtcgaabciagiodaaDoorRbH
import Derived.Test.YtcgaabciagiodaaDoorRows
import Derived.ChangeSame
import Derived.JoinedOf
import Derived.JoinedAt
import Derived.JoinedStill
import Derived.RowKit
import Derived.ProofKit
import Derived.OpenShut
import Derived.Stop.Texts
set_option linter.unusedVariables false
set_option linter.unusedSimpArgs false
namespace Go.Rb.S2
open Go.ChangeShapes Go.WideShapes Go.ChangeAt Go.RowKit Go.Rb

theorem own : ownKnob Go.Proofs.Tryd.prog.godebug = none := by kernel_rfl
def sents : List (String × List UInt8) := [("rabbet/schema.errArg", [119, 104, 97, 116, 32, 109, 97, 121, 32, 110, 111, 116, 32, 98, 101]), ("rabbet/schema.errNone", [110, 111, 32, 115, 117, 99, 104, 32, 99, 111, 108, 117, 109, 110]), ("rabbet/schema.errType", [111, 102, 32, 97, 110, 111, 116, 104, 101, 114, 32, 116, 121, 112, 101]), ("rabbet/schema.errExist", [116, 104, 101, 114, 101, 32, 97, 108, 114, 101, 97, 100, 121]), ("rabbet/schema.errFull", [110, 111, 32, 114, 111, 111, 109])]
theorem star : "*" ++ "errors.errorString" = "*errors.errorString" := by decide
theorem rowE (u : TypeId) (h : P.typeName? 3 u = some "*errors.errorString") : u = 130 :=
  typeName_ptr_named (nm := "errors.errorString") (by rw [star]; kernel_rfl) (by kernel_rfl) (by decide) u (by rw [star]; exact h)
theorem errTy : ErrTy P "*errors.errorString" 77 130 156 9 where
  hi := ifaceB_ok (by kernel_rfl)
  hrow := rowE
  hp := by kernel_rfl
  he := by
    have h : ((P.underlying 156).map fun d => match d with
      | .struct fs => (match fs.toList with
        | [f] => some (f.type, f.offset)
        | _ => none)
      | _ => none) = some (some (9, 0)) := by kernel_rfl
    obtain ⟨d, hd, h2⟩ := Option.map_eq_some_iff.1 h
    cases d with
    | struct fs =>
      obtain ⟨l⟩ := fs
      match l, h2 with
      | [f], h2 =>
        simp only [Option.some.injEq, Prod.mk.injEq] at h2
        exact ⟨f, hd, h2.1, h2.2⟩
      | [], h2 => simp at h2
      | _ :: _ :: _, h2 => simp at h2
    | _ => simp at h2
  hs := by kernel_rfl
  hc := by kernel_rfl
  hcs := by kernel_rfl
theorem gN4 : P.globalNamed "rabbet/schema.errArg" = some 4 := by kernel_rfl
theorem gT4 : (P.globals[4]?).map (·.type) = some 77 := by kernel_rfl
theorem gN0 : P.globalNamed "rabbet/schema.errNone" = some 0 := by kernel_rfl
theorem gT0 : (P.globals[0]?).map (·.type) = some 77 := by kernel_rfl
theorem gN1 : P.globalNamed "rabbet/schema.errType" = some 1 := by kernel_rfl
theorem gT1 : (P.globals[1]?).map (·.type) = some 77 := by kernel_rfl
theorem gN2 : P.globalNamed "rabbet/schema.errExist" = some 2 := by kernel_rfl
theorem gT2 : (P.globals[2]?).map (·.type) = some 77 := by kernel_rfl
theorem gN3 : P.globalNamed "rabbet/schema.errFull" = some 3 := by kernel_rfl
theorem gT3 : (P.globals[3]?).map (·.type) = some 77 := by kernel_rfl

theorem sentsTy : ∀ x, x ∈ sents → ∀ g, P.globalNamed x.1 = some g → (P.globals[g]?).map (·.type) = some 77 := by
  intro x hx g hg
  simp only [sents, List.mem_cons, List.not_mem_nil, or_false] at hx
  rcases hx with rfl | rfl | rfl | rfl | rfl
  · rw [show P.globalNamed "rabbet/schema.errArg" = some 4 from gN4] at hg
    obtain rfl := Option.some.inj hg
    exact gT4
  · rw [show P.globalNamed "rabbet/schema.errNone" = some 0 from gN0] at hg
    obtain rfl := Option.some.inj hg
    exact gT0
  · rw [show P.globalNamed "rabbet/schema.errType" = some 1 from gN1] at hg
    obtain rfl := Option.some.inj hg
    exact gT1
  · rw [show P.globalNamed "rabbet/schema.errExist" = some 2 from gN2] at hg
    obtain rfl := Option.some.inj hg
    exact gT2
  · rw [show P.globalNamed "rabbet/schema.errFull" = some 3 from gN3] at hg
    obtain rfl := Option.some.inj hg
    exact gT3

theorem glsOK {C : Ctx} (hC : C.gl = gls) : ∀ g t x, C.gl g = some ⟨t, x⟩ → (∃ y, y ∈ sents ∧ P.globalNamed y.1 = some g) ∧ (⟨t, x⟩ : (t : Ty) × t.den) = ⟨.err, UV.sent g⟩ := by
  intro g t x h
  rw [hC] at h
  have hm := find_mem h
  simp only [List.mem_cons, List.not_mem_nil, or_false, Prod.mk.injEq] at hm
  rcases hm with ⟨rfl, he⟩ | ⟨rfl, he⟩ | ⟨rfl, he⟩ | ⟨rfl, he⟩ | ⟨rfl, he⟩
  · exact ⟨⟨("rabbet/schema.errNone", [110, 111, 32, 115, 117, 99, 104, 32, 99, 111, 108, 117, 109, 110]), by simp [sents], gN0⟩, he⟩
  · exact ⟨⟨("rabbet/schema.errType", [111, 102, 32, 97, 110, 111, 116, 104, 101, 114, 32, 116, 121, 112, 101]), by simp [sents], gN1⟩, he⟩
  · exact ⟨⟨("rabbet/schema.errExist", [116, 104, 101, 114, 101, 32, 97, 108, 114, 101, 97, 100, 121]), by simp [sents], gN2⟩, he⟩
  · exact ⟨⟨("rabbet/schema.errFull", [110, 111, 32, 114, 111, 111, 109]), by simp [sents], gN3⟩, he⟩
  · exact ⟨⟨("rabbet/schema.errArg", [119, 104, 97, 116, 32, 109, 97, 121, 32, 110, 111, 116, 32, 98, 101]), by simp [sents], gN4⟩, he⟩

noncomputable def low : Nat := (World.holding P default ⟨#[], #[], []⟩).heap.size
noncomputable def putE (k : Nat) : Obj → Obj
  | .cells _ t frozen => .cells #[.iface 130 (.pointer (some ⟨low + k, 0, none⟩))] t frozen
  | o => o
noncomputable def laidWorld (os : Os) : World :=
  let w0 := World.holding P os ⟨#[.cells #[.string { data := #[119, 104, 97, 116, 32, 109, 97, 121, 32, 110, 111, 116, 32, 98, 101] }] 156, .cells #[.string { data := #[110, 111, 32, 115, 117, 99, 104, 32, 99, 111, 108, 117, 109, 110] }] 156, .cells #[.string { data := #[111, 102, 32, 97, 110, 111, 116, 104, 101, 114, 32, 116, 121, 112, 101] }] 156, .cells #[.string { data := #[116, 104, 101, 114, 101, 32, 97, 108, 114, 101, 97, 100, 121] }] 156, .cells #[.string { data := #[110, 111, 32, 114, 111, 111, 109] }] 156], #[], []⟩
  { w0 with heap := (((((w0.heap.modify 4 (putE 0)).modify 0 (putE 1)).modify 1 (putE 2)).modify 2 (putE 3)).modify 3 (putE 4)) }
theorem laid_met (os : Os) (args : Array Value) : laidMet P (sents.map fun x => (x.1, sentD "*errors.errorString" x.2)) ((laidWorld os).forCall (fun _ _ => 0) ⟨#[], args, []⟩).memory :=
  laidMet_of_run' 8 (by kernel_rfl) (by kernel_rfl)
end Go.Rb.S2

namespace Go.Rb.S2
open Go.Rb
open Go.RowKit
set_option maxRecDepth 100000
def s3 : Sig := ⟨[.val (.st (.pair (.sl .imm 32 (.st (.pair tI (.pair .str (.pair tI .unit))))) (.pair tI .unit))), .val (.st (.pair tI (.pair tI (.pair tI (.pair (.sl .imm 8 tI) .unit))))), .val (.st (.pair tI (.pair tI (.pair .str (.pair tI (.pair (.st (.pair tI (.pair tI (.pair .str .unit)))) (.pair tB (.pair tI .unit)))))))), .val (.sl .imm 32 (.st (.pair tI (.pair tI (.pair .str .unit))))), .val .str, .val tI, .val (.sl .imm 1 tB)], [.val .bool]⟩
/-- rabbet/rabbetlaw15.SchemaAll -/
def F3 (n : Nat) (x : (List (Int × List Int × Int × Unit) × Int × Unit) × (Int × Int × Int × List Int × Unit) × (Int × Int × List Int × Int × (Int × Int × List Int × Unit) × Int × Int × Unit) × (List (Int × Int × List Int × Unit)) × List Int × Int × List Int × Unit) : Option ((Bool × Unit) × (Unit)) :=
  ((F8 n ()).bind fun (y1 : (Bool × Unit) × (Unit)) => (if (!y1.1.1) = true then (some ((false, ()), ())) else ((F9 n (x.1, x.2.1, ())).bind fun (y2 : (Bool × Unit) × (Unit)) => (if (!y2.1.1) = true then (some ((true, ()), ())) else (if (decide ((9:Int) < (x.2.2.2.1.length : Int))) = true then (some ((true, ()), ())) else (if (decide ((30:Int) < (x.2.2.2.2.1.length : Int))) = true then (some ((true, ()), ())) else (if (decide ((60:Int) < (IntKind.i64.wrap ((x.2.2.1.2.2.1.length : Int) + (x.2.2.1.2.2.2.2.1.2.2.1.length : Int))))) = true then (some ((true, ()), ())) else (if (decide ((60:Int) < (x.2.2.2.2.2.2.1.length : Int))) = true then (some ((true, ()), ())) else ((F10 n (x.2.2.2.2.2.2.1, ())).bind fun (y3 : ((List Int × Int × Unit) × Unit) × (Unit)) => ((F11 n (y3.1.1, ())).bind fun (y4 : ((List (Int × List Int × Int × Unit) × Int × Unit) × (Int × Int × Int × List Int × Unit) × Unit) × ((List Int × Int × Unit) × Unit)) => ((F12 n (y4.2.1, y4.1.1, ())).bind fun (y5 : ((Int × Int × List Int × Int × (Int × Int × List Int × Unit) × Int × Int × Unit) × Unit) × ((List Int × Int × Unit) × Unit)) => (iterF (fun rec7 (s6 : Int) => (if (decide (s6 < (4:Int))) = true then (atI s6 (([x.1, y4.1.1, y4.1.1, x.1] : List (List (Int × List Int × Int × Unit) × Int × Unit)).length) (atI s6 (([x.2.1, y4.1.2.1, y4.1.2.1, x.2.1] : List (Int × Int × Int × List Int × Unit)).length) (atI s6 (([x.2.2.1, y5.1.1, x.2.2.1, y5.1.1] : List (Int × Int × List Int × Int × (Int × Int × List Int × Unit) × Int × Int × Unit)).length) ((F13 n ((([x.1, y4.1.1, y4.1.1, x.1] : List (List (Int × List Int × Int × Unit) × Int × Unit)).getD s6.toNat ([], (0:Int), ())), (([x.2.1, y4.1.2.1, y4.1.2.1, x.2.1] : List (Int × Int × Int × List Int × Unit)).getD s6.toNat ((0:Int), (0:Int), (0:Int), [], ())), (([x.2.2.1, y5.1.1, x.2.2.1, y5.1.1] : List (Int × Int × List Int × Int × (Int × Int × List Int × Unit) × Int × Int × Unit)).getD s6.toNat ((0:Int), (0:Int), [], (0:Int), ((0:Int), (0:Int), [], ()), (0:Int), (0:Int), ())), ())).bind fun (y8 : ((List (Int × List Int × Int × Unit) × Int × Unit) × (Int × Int × Int × List Int × Unit) × Int × Unit) × (Unit)) => (atI s6 (([x.1, y4.1.1, y4.1.1, x.1] : List (List (Int × List Int × Int × Unit) × Int × Unit)).length) (atI s6 (([x.2.1, y4.1.2.1, y4.1.2.1, x.2.1] : List (Int × Int × Int × List Int × Unit)).length) (atI s6 (([x.2.2.1, y5.1.1, x.2.2.1, y5.1.1] : List (Int × Int × List Int × Int × (Int × Int × List Int × Unit) × Int × Int × Unit)).length) ((F14 n ((([x.1, y4.1.1, y4.1.1, x.1] : List (List (Int × List Int × Int × Unit) × Int × Unit)).getD s6.toNat ([], (0:Int), ())), (([x.2.1, y4.1.2.1, y4.1.2.1, x.2.1] : List (Int × Int × Int × List Int × Unit)).getD s6.toNat ((0:Int), (0:Int), (0:Int), [], ())), (([x.2.2.1, y5.1.1, x.2.2.1, y5.1.1] : List (Int × Int × List Int × Int × (Int × Int × List Int × Unit) × Int × Int × Unit)).getD s6.toNat ((0:Int), (0:Int), [], (0:Int), ((0:Int), (0:Int), [], ()), (0:Int), (0:Int), ())), ())).bind fun (y9 : ((List (Int × List Int × Int × Unit) × Int × Unit) × (Int × Int × Int × List Int × Unit) × Int × Unit) × (Unit)) => (if (!decide (y8.1.2.2.1 = y9.1.2.2.1)) = true then (some ((false, ()), ())) else ((F15 n (y8.1.1, y9.1.1, ())).bind fun (y10 : (Bool × Unit) × (Unit)) => (if (!y10.1.1) = true then (some ((false, ()), ())) else ((F16 n (y8.1.2.1, y9.1.2.1, ())).bind fun (y11 : (Bool × Unit) × (Unit)) => (if (!y11.1.1) = true then (some ((false, ()), ())) else (atI s6 (([x.1, y4.1.1, y4.1.1, x.1] : List (List (Int × List Int × Int × Unit) × Int × Unit)).length) ((F17 n ((([x.1, y4.1.1, y4.1.1, x.1] : List (List (Int × List Int × Int × Unit) × Int × Unit)).getD s6.toNat ([], (0:Int), ())), ())).bind fun (y12 : (Bool × Unit) × (Unit)) => (atI s6 (([x.1, y4.1.1, y4.1.1, x.1] : List (List (Int × List Int × Int × Unit) × Int × Unit)).length) ((F18 n ((([x.1, y4.1.1, y4.1.1, x.1] : List (List (Int × List Int × Int × Unit) × Int × Unit)).getD s6.toNat ([], (0:Int), ())), ())).bind fun (y13 : (Bool × Unit) × (Unit)) => (if (!(y12.1.1 == y13.1.1)) = true then (some ((false, ()), ())) else (atI s6 (([x.1, y4.1.1, y4.1.1, x.1] : List (List (Int × List Int × Int × Unit) × Int × Unit)).length) (atI s6 (([x.2.1, y4.1.2.1, y4.1.2.1, x.2.1] : List (Int × Int × Int × List Int × Unit)).length) ((F19 n ((([x.1, y4.1.1, y4.1.1, x.1] : List (List (Int × List Int × Int × Unit) × Int × Unit)).getD s6.toNat ([], (0:Int), ())), (([x.2.1, y4.1.2.1, y4.1.2.1, x.2.1] : List (Int × Int × Int × List Int × Unit)).getD s6.toNat ((0:Int), (0:Int), (0:Int), [], ())), ())).bind fun (y14 : (Bool × Unit) × (Unit)) => (atI s6 (([x.1, y4.1.1, y4.1.1, x.1] : List (List (Int × List Int × Int × Unit) × Int × Unit)).length) (atI s6 (([x.2.1, y4.1.2.1, y4.1.2.1, x.2.1] : List (Int × Int × Int × List Int × Unit)).length) ((F20 n ((([x.1, y4.1.1, y4.1.1, x.1] : List (List (Int × List Int × Int × Unit) × Int × Unit)).getD s6.toNat ([], (0:Int), ())), (([x.2.1, y4.1.2.1, y4.1.2.1, x.2.1] : List (Int × Int × Int × List Int × Unit)).getD s6.toNat ((0:Int), (0:Int), (0:Int), [], ())), ())).bind fun (y15 : (Bool × Unit) × (Unit)) => (if (!(y14.1.1 == y15.1.1)) = true then (some ((false, ()), ())) else (atI s6 (([x.1, y4.1.1, y4.1.1, x.1] : List (List (Int × List Int × Int × Unit) × Int × Unit)).length) ((F21 n ((([x.1, y4.1.1, y4.1.1, x.1] : List (List (Int × List Int × Int × Unit) × Int × Unit)).getD s6.toNat ([], (0:Int), ())), x.2.2.2.2.1, ())).bind fun (y16 : (Int × Bool × Unit) × (Unit)) => (atI s6 (([x.1, y4.1.1, y4.1.1, x.1] : List (List (Int × List Int × Int × Unit) × Int × Unit)).length) ((F22 n ((([x.1, y4.1.1, y4.1.1, x.1] : List (List (Int × List Int × Int × Unit) × Int × Unit)).getD s6.toNat ([], (0:Int), ())), x.2.2.2.2.1, ())).bind fun (y17 : (Int × Bool × Unit) × (Unit)) => (atI s6 (([x.1, y4.1.1, y4.1.1, x.1] : List (List (Int × List Int × Int × Unit) × Int × Unit)).length) ((F23 n ((([x.1, y4.1.1, y4.1.1, x.1] : List (List (Int × List Int × Int × Unit) × Int × Unit)).getD s6.toNat ([], (0:Int), ())), x.2.2.2.2.2.1, ())).bind fun (y18 : (Int × Bool × Unit) × (Unit)) => (atI s6 (([x.1, y4.1.1, y4.1.1, x.1] : List (List (Int × List Int × Int × Unit) × Int × Unit)).length) ((F24 n ((([x.1, y4.1.1, y4.1.1, x.1] : List (List (Int × List Int × Int × Unit) × Int × Unit)).getD s6.toNat ([], (0:Int), ())), x.2.2.2.2.2.1, ())).bind fun (y19 : (Int × Bool × Unit) × (Unit)) => (if (!decide (y16.1.1 = y17.1.1)) = true then (some ((false, ()), ())) else (if (!(y16.1.2.1 == y17.1.2.1)) = true then (some ((false, ()), ())) else (if (!decide (y18.1.1 = y19.1.1)) = true then (some ((false, ()), ())) else (if (!(y18.1.2.1 == y19.1.2.1)) = true then (some ((false, ()), ())) else (atI s6 (([x.1, y4.1.1, y4.1.1, x.1] : List (List (Int × List Int × Int × Unit) × Int × Unit)).length) ((F25 n ((([x.1, y4.1.1, y4.1.1, x.1] : List (List (Int × List Int × Int × Unit) × Int × Unit)).getD s6.toNat ([], (0:Int), ())), x.2.2.2.1, ())).bind fun (y20 : (Bool × Unit) × (Unit)) => (atI s6 (([x.1, y4.1.1, y4.1.1, x.1] : List (List (Int × List Int × Int × Unit) × Int × Unit)).length) ((F26 n ((([x.1, y4.1.1, y4.1.1, x.1] : List (List (Int × List Int × Int × Unit) × Int × Unit)).getD s6.toNat ([], (0:Int), ())), x.2.2.2.1, ())).bind fun (y21 : (Bool × Unit) × (Unit)) => (if (!(y20.1.1 == y21.1.1)) = true then (some ((false, ()), ())) else (rec7 (IntKind.i64.wrap (s6 + (1:Int)))))))))))))))))))))))))))))))))))))))))))))) else ((F27 n (x.2.2.2.2.1, ())).bind fun (y22 : (Bool × Unit) × (Unit)) => ((F28 n (x.2.2.2.2.1, ())).bind fun (y23 : (Bool × Unit) × (Unit)) => (if (y22.1.1 == y23.1.1) = true then ((F29 n (y5.2.1, y4.1.1, ())).bind fun (y24 : ((List (Int × Int × List Int × Unit)) × Unit) × ((List Int × Int × Unit) × Unit)) => ((F25 n (y4.1.1, y24.1.1, ())).bind fun (y25 : (Bool × Unit) × (Unit)) => (some ((y25.1.1, ()), ())))) else (some ((false, ()), ()))))))) n (0:Int)))))))))))))
def h3 : Hints := ⟨[(0, ⟨[(22, .val tI)], [3, 4, 5, 19, 20, 21], [15, 16]⟩)], []⟩
def ft3 (n : Nat) : List (Nat × FEnt) := [(8, ⟨s8, F8 n⟩), (9, ⟨s9, F9 n⟩), (10, ⟨s10, F10 n⟩), (11, ⟨s11, F11 n⟩), (12, ⟨s12, F12 n⟩), (13, ⟨s13, F13 n⟩), (14, ⟨s14, F14 n⟩), (15, ⟨s15, F15 n⟩), (16, ⟨s16, F16 n⟩), (17, ⟨s17, F17 n⟩), (18, ⟨s18, F18 n⟩), (19, ⟨s19, F19 n⟩), (20, ⟨s20, F20 n⟩), (21, ⟨s21, F21 n⟩), (22, ⟨s22, F22 n⟩), (23, ⟨s23, F23 n⟩), (24, ⟨s24, F24 n⟩), (25, ⟨s25, F25 n⟩), (26, ⟨s26, F26 n⟩), (27, ⟨s27, F27 n⟩), (28, ⟨s28, F28 n⟩), (29, ⟨s29, F29 n⟩)]
def c3 (n : Nat) : Ctx := ⟨262, find? tys, find? (ft3 n), gls, [], [7, 8, 9], []⟩
theorem e3 (n x) : execFn (c3 n) h3 n Go.Proofs.Tryd.f3 s3 x = F3 n x := by kernel_rfl
theorem fn3 : P.funcs[3]? = some Go.Proofs.Tryd.f3 := by kernel_rfl
theorem call3 : Callable P 3 := callB_ok (by kernel_rfl)
theorem S3 (A : Amb) (hA : HA A) (n : Nat) : Sound A P (c3 n) 3 s3 (F3 n) :=
  execFn_sound mixed (tab rfl) (ft_all (C := c3 n) (l := ft3 n) rfl ⟨⟨call8, (S8 A hA n).of rfl⟩, ⟨call9, (S9 A n).of rfl⟩, ⟨call10, (S10 A n).of rfl⟩, ⟨call11, (S11 A n).of rfl⟩, ⟨call12, (S12 A n).of rfl⟩, ⟨call13, (S13 A hA n).of rfl⟩, ⟨call14, (S14 A n).of rfl⟩, ⟨call15, (S15 A n).of rfl⟩, ⟨call16, (S16 A n).of rfl⟩, ⟨call17, (S17 A n).of rfl⟩, ⟨call18, (S18 A n).of rfl⟩, ⟨call19, (S19 A n).of rfl⟩, ⟨call20, (S20 A n).of rfl⟩, ⟨call21, (S21 A n).of rfl⟩, ⟨call22, (S22 A n).of rfl⟩, ⟨call23, (S23 A n).of rfl⟩, ⟨call24, (S24 A n).of rfl⟩, ⟨call25, (S25 A n).of rfl⟩, ⟨call26, (S26 A n).of rfl⟩, ⟨call27, (S27 A n).of rfl⟩, ⟨call28, (S28 A n).of rfl⟩, ⟨call29, (S29 A n).of rfl⟩, trivial⟩) fn3 fun x y h => (e3 n x).trans h
end Go.Rb.S2
