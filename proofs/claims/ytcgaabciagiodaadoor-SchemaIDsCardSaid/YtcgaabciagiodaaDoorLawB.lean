/- The package-level errors of the program, as they are laid: what the row's condition gives, and a world that meets it. -/
import Derived.Test.YtcgaabciagiodaaDoorLawA
import Derived.Test.YtcgaabciagiodaaDoorRbH
import Derived.Test.YtcgaabciagiodaaDoorRows
import Derived.ChangeSame
import Derived.JoinedOf
import Derived.JoinedAt
import Derived.JoinedStill
import Derived.RowKit
import Derived.ProofKit
import Derived.OpenShut
import Derived.Stop.Texts
set_option linter.unusedVariables false
set_option linter.unusedSimpArgs false
namespace Go.Rb.S2
open Go.ChangeShapes Go.WideShapes Go.ChangeAt Go.RowKit Go.Rb

theorem own : ownKnob Go.Proofs.Tryd.prog.godebug = none := by kernel_rfl
def sents : List (String × List UInt8) := [("rabbet/schema.errArg", [119, 104, 97, 116, 32, 109, 97, 121, 32, 110, 111, 116, 32, 98, 101]), ("rabbet/schema.errNone", [110, 111, 32, 115, 117, 99, 104, 32, 99, 111, 108, 117, 109, 110]), ("rabbet/schema.errType", [111, 102, 32, 97, 110, 111, 116, 104, 101, 114, 32, 116, 121, 112, 101]), ("rabbet/schema.errExist", [116, 104, 101, 114, 101, 32, 97, 108, 114, 101, 97, 100, 121]), ("rabbet/schema.errFull", [110, 111, 32, 114, 111, 111, 109])]
theorem star : "*" ++ "errors.errorString" = "*errors.errorString" := by decide
theorem rowE (u : TypeId) (h : P.typeName? 3 u = some "*errors.errorString") : u = 130 :=
  typeName_ptr_named (nm := "errors.errorString") (by rw [star]; kernel_rfl) (by kernel_rfl) (by decide) u (by rw [star]; exact h)
theorem errTy : ErrTy P "*errors.errorString" 77 130 156 9 where
  hi := ifaceB_ok (by kernel_rfl)
  hrow := rowE
  hp := by kernel_rfl
  he := by
    have h : ((P.underlying 156).map fun d => match d with
      | .struct fs => (match fs.toList with
        | [f] => some (f.type, f.offset)
        | _ => none)
      | _ => none) = some (some (9, 0)) := by kernel_rfl
    obtain ⟨d, hd, h2⟩ := Option.map_eq_some_iff.1 h
    cases d with
    | struct fs =>
      obtain ⟨l⟩ := fs
      match l, h2 with
      | [f], h2 =>
        simp only [Option.some.injEq, Prod.mk.injEq] at h2
        exact ⟨f, hd, h2.1, h2.2⟩
      | [], h2 => simp at h2
      | _ :: _ :: _, h2 => simp at h2
    | _ => simp at h2
  hs := by kernel_rfl
  hc := by kernel_rfl
  hcs := by kernel_rfl
theorem gN4 : P.globalNamed "rabbet/schema.errArg" = some 4 := by kernel_rfl
theorem gT4 : (P.globals[4]?).map (·.type) = some 77 := by kernel_rfl
theorem gN0 : P.globalNamed "rabbet/schema.errNone" = some 0 := by kernel_rfl
theorem gT0 : (P.globals[0]?).map (·.type) = some 77 := by kernel_rfl
theorem gN1 : P.globalNamed "rabbet/schema.errType" = some 1 := by kernel_rfl
theorem gT1 : (P.globals[1]?).map (·.type) = some 77 := by kernel_rfl
theorem gN2 : P.globalNamed "rabbet/schema.errExist" = some 2 := by kernel_rfl
theorem gT2 : (P.globals[2]?).map (·.type) = some 77 := by kernel_rfl
theorem gN3 : P.globalNamed "rabbet/schema.errFull" = some 3 := by kernel_rfl
theorem gT3 : (P.globals[3]?).map (·.type) = some 77 := by kernel_rfl

theorem sentsTy : ∀ x, x ∈ sents → ∀ g, P.globalNamed x.1 = some g → (P.globals[g]?).map (·.type) = some 77 := by
  intro x hx g hg
  simp only [sents, List.mem_cons, List.not_mem_nil, or_false] at hx
  rcases hx with rfl | rfl | rfl | rfl | rfl
  · rw [show P.globalNamed "rabbet/schema.errArg" = some 4 from gN4] at hg
    obtain rfl := Option.some.inj hg
    exact gT4
  · rw [show P.globalNamed "rabbet/schema.errNone" = some 0 from gN0] at hg
    obtain rfl := Option.some.inj hg
    exact gT0
  · rw [show P.globalNamed "rabbet/schema.errType" = some 1 from gN1] at hg
    obtain rfl := Option.some.inj hg
    exact gT1
  · rw [show P.globalNamed "rabbet/schema.errExist" = some 2 from gN2] at hg
    obtain rfl := Option.some.inj hg
    exact gT2
  · rw [show P.globalNamed "rabbet/schema.errFull" = some 3 from gN3] at hg
    obtain rfl := Option.some.inj hg
    exact gT3

theorem glsOK {C : Ctx} (hC : C.gl = gls) : ∀ g t x, C.gl g = some ⟨t, x⟩ → (∃ y, y ∈ sents ∧ P.globalNamed y.1 = some g) ∧ (⟨t, x⟩ : (t : Ty) × t.den) = ⟨.err, UV.sent g⟩ := by
  intro g t x h
  rw [hC] at h
  have hm := find_mem h
  simp only [List.mem_cons, List.not_mem_nil, or_false, Prod.mk.injEq] at hm
  rcases hm with ⟨rfl, he⟩ | ⟨rfl, he⟩ | ⟨rfl, he⟩ | ⟨rfl, he⟩ | ⟨rfl, he⟩
  · exact ⟨⟨("rabbet/schema.errNone", [110, 111, 32, 115, 117, 99, 104, 32, 99, 111, 108, 117, 109, 110]), by simp [sents], gN0⟩, he⟩
  · exact ⟨⟨("rabbet/schema.errType", [111, 102, 32, 97, 110, 111, 116, 104, 101, 114, 32, 116, 121, 112, 101]), by simp [sents], gN1⟩, he⟩
  · exact ⟨⟨("rabbet/schema.errExist", [116, 104, 101, 114, 101, 32, 97, 108, 114, 101, 97, 100, 121]), by simp [sents], gN2⟩, he⟩
  · exact ⟨⟨("rabbet/schema.errFull", [110, 111, 32, 114, 111, 111, 109]), by simp [sents], gN3⟩, he⟩
  · exact ⟨⟨("rabbet/schema.errArg", [119, 104, 97, 116, 32, 109, 97, 121, 32, 110, 111, 116, 32, 98, 101]), by simp [sents], gN4⟩, he⟩

noncomputable def low : Nat := (World.holding P default ⟨#[], #[], []⟩).heap.size
noncomputable def putE (k : Nat) : Obj → Obj
  | .cells _ t frozen => .cells #[.iface 130 (.pointer (some ⟨low + k, 0, none⟩))] t frozen
  | o => o
noncomputable def laidWorld (os : Os) : World :=
  let w0 := World.holding P os ⟨#[.cells #[.string { data := #[119, 104, 97, 116, 32, 109, 97, 121, 32, 110, 111, 116, 32, 98, 101] }] 156, .cells #[.string { data := #[110, 111, 32, 115, 117, 99, 104, 32, 99, 111, 108, 117, 109, 110] }] 156, .cells #[.string { data := #[111, 102, 32, 97, 110, 111, 116, 104, 101, 114, 32, 116, 121, 112, 101] }] 156, .cells #[.string { data := #[116, 104, 101, 114, 101, 32, 97, 108, 114, 101, 97, 100, 121] }] 156, .cells #[.string { data := #[110, 111, 32, 114, 111, 111, 109] }] 156], #[], []⟩
  { w0 with heap := (((((w0.heap.modify 4 (putE 0)).modify 0 (putE 1)).modify 1 (putE 2)).modify 2 (putE 3)).modify 3 (putE 4)) }
theorem laid_met (os : Os) (args : Array Value) : laidMet P (sents.map fun x => (x.1, sentD "*errors.errorString" x.2)) ((laidWorld os).forCall (fun _ _ => 0) ⟨#[], args, []⟩).memory :=
  laidMet_of_run' 8 (by kernel_rfl) (by kernel_rfl)
end Go.Rb.S2

namespace Go.Rb.S2
open Go.Rb
open Go.RowKit
set_option maxRecDepth 100000
def s4 : Sig := ⟨[.val (.sl .imm 1 tB), .val (.sl .imm 1 tB)], [.val .bool]⟩
/-- rabbet/rabbetlaw15.SchemaStays -/
def F4 (n : Nat) (x : List Int × List Int × Unit) : Option ((Bool × Unit) × (Unit)) :=
  ((F8 n ()).bind fun (y1 : (Bool × Unit) × (Unit)) => (if (!y1.1.1) = true then (some ((false, ()), ())) else (if (decide ((60:Int) < (x.1.length : Int))) = true then (some ((true, ()), ())) else (if (decide ((100:Int) < (x.2.1.length : Int))) = true then (some ((true, ()), ())) else ((F10 n (x.1, ())).bind fun (y2 : ((List Int × Int × Unit) × Unit) × (Unit)) => ((F11 n (y2.1.1, ())).bind fun (y3 : ((List (Int × List Int × Int × Unit) × Int × Unit) × (Int × Int × Int × List Int × Unit) × Unit) × ((List Int × Int × Unit) × Unit)) => ((F10 n (x.2.1, ())).bind fun (y4 : ((List Int × Int × Unit) × Unit) × (Unit)) => (iterF (fun rec6 (s5 : (List (Int × List Int × Int × Unit) × Int × Unit) × (Int × Int × Int × List Int × Unit) × (List Int × Int × Unit) × Int) => (if (decide (s5.2.2.2 < (12:Int))) = true then ((F30 n (s5.2.2.1, ())).bind fun (y7 : (Bool × Unit) × ((List Int × Int × Unit) × Unit)) => (if (!y7.1.1) = true then ((F12 n (y7.2.1, s5.1, ())).bind fun (y8 : ((Int × Int × List Int × Int × (Int × Int × List Int × Unit) × Int × Int × Unit) × Unit) × ((List Int × Int × Unit) × Unit)) => ((F13 n (s5.1, s5.2.1, y8.1.1, ())).bind fun (y9 : ((List (Int × List Int × Int × Unit) × Int × Unit) × (Int × Int × Int × List Int × Unit) × Int × Unit) × (Unit)) => (if (!decide (y9.1.2.2.1 = (0:Int))) = true then (if (!decide ((IntKind.i64.wrap ((IntKind.i64.wrap ((IntKind.i64.wrap ((IntKind.i64.wrap ((y9.1.1.1.length : Int) + (y9.1.2.1.2.2.2.1.length : Int))) + y9.1.1.2.1)) + y9.1.2.1.1)) + y9.1.2.1.2.2.1)) = (0:Int))) = true then (some ((false, ()), ())) else (rec6 (s5.1, s5.2.1, y8.2.1, (IntKind.i64.wrap (s5.2.2.2 + (1:Int)))))) else ((F17 n (y9.1.1, ())).bind fun (y10 : (Bool × Unit) × (Unit)) => (if (!y10.1.1) = true then (some ((false, ()), ())) else ((F19 n (y9.1.1, y9.1.2.1, ())).bind fun (y11 : (Bool × Unit) × (Unit)) => (if (!y11.1.1) = true then (some ((false, ()), ())) else ((F18 n (y9.1.1, ())).bind fun (y12 : (Bool × Unit) × (Unit)) => (if (!y12.1.1) = true then (some ((false, ()), ())) else ((F20 n (y9.1.1, y9.1.2.1, ())).bind fun (y13 : (Bool × Unit) × (Unit)) => (if (!y13.1.1) = true then (some ((false, ()), ())) else (if (decide (y9.1.1.2.1 < s5.1.2.1)) = true then (some ((false, ()), ())) else (if (decide ((IntKind.i64.wrap (s5.1.2.1 + (1:Int))) < y9.1.1.2.1)) = true then (some ((false, ()), ())) else (iterF (fun rec15 (s14 : (List (Int × List Int × Int × Unit) × Int × Unit) × Int) => (if (decide (s14.2 < (y9.1.1.1.length : Int))) = true then (atI s14.2 y9.1.1.1.length ((F23 n (s14.1, (y9.1.1.1.getD s14.2.toNat ((0:Int), [], (0:Int), ())).1, ())).bind fun (y16 : (Int × Bool × Unit) × (Unit)) => (if (decide (y16.1.1 < (0:Int))) = true then (some ((false, ()), ())) else (if (decide ((s14.1.1.length : Int) ≤ y16.1.1)) = true then (some ((false, ()), ())) else (if (!y16.1.2.1) = true then (if (!decide ((y9.1.1.1.getD s14.2.toNat ((0:Int), [], (0:Int), ())).1 = (IntKind.i64.wrap (s14.1.2.1 + (1:Int))))) = true then (some ((false, ()), ())) else (if y16.1.2.1 = true then (atI y16.1.1 s14.1.1.length (if (!((decide ((y9.1.1.1.getD s14.2.toNat ((0:Int), [], (0:Int), ())).1 = (s14.1.1.getD y16.1.1.toNat ((0:Int), [], (0:Int), ())).1)) && ((decide (((y9.1.1.1.getD s14.2.toNat ((0:Int), [], (0:Int), ())).2).1 = ((s14.1.1.getD y16.1.1.toNat ((0:Int), [], (0:Int), ())).2).1)) && (decide ((((y9.1.1.1.getD s14.2.toNat ((0:Int), [], (0:Int), ())).2).2).1 = (((s14.1.1.getD y16.1.1.toNat ((0:Int), [], (0:Int), ())).2).2).1))))) = true then (if (!decide ((y9.1.1.1.getD s14.2.toNat ((0:Int), [], (0:Int), ())).1 = y8.1.1.2.1)) = true then (some ((false, ()), ())) else (rec15 (s14.1, (IntKind.i64.wrap (s14.2 + (1:Int)))))) else (rec15 (s14.1, (IntKind.i64.wrap (s14.2 + (1:Int))))))) else (rec15 (s14.1, (IntKind.i64.wrap (s14.2 + (1:Int))))))) else (if y16.1.2.1 = true then (atI y16.1.1 s14.1.1.length (if (!((decide ((y9.1.1.1.getD s14.2.toNat ((0:Int), [], (0:Int), ())).1 = (s14.1.1.getD y16.1.1.toNat ((0:Int), [], (0:Int), ())).1)) && ((decide (((y9.1.1.1.getD s14.2.toNat ((0:Int), [], (0:Int), ())).2).1 = ((s14.1.1.getD y16.1.1.toNat ((0:Int), [], (0:Int), ())).2).1)) && (decide ((((y9.1.1.1.getD s14.2.toNat ((0:Int), [], (0:Int), ())).2).2).1 = (((s14.1.1.getD y16.1.1.toNat ((0:Int), [], (0:Int), ())).2).2).1))))) = true then (if (!decide ((y9.1.1.1.getD s14.2.toNat ((0:Int), [], (0:Int), ())).1 = y8.1.1.2.1)) = true then (some ((false, ()), ())) else (rec15 (s14.1, (IntKind.i64.wrap (s14.2 + (1:Int)))))) else (rec15 (s14.1, (IntKind.i64.wrap (s14.2 + (1:Int))))))) else (rec15 (s14.1, (IntKind.i64.wrap (s14.2 + (1:Int))))))))))) else (rec6 (y9.1.1, y9.1.2.1, y8.2.1, (IntKind.i64.wrap (s5.2.2.2 + (1:Int))))))) n (s5.1, (0:Int)))))))))))))))) else (some ((true, ()), ())))) else (some ((true, ()), ())))) n (y3.1.1, y3.1.2.1, y4.1.1, (0:Int))))))))))
def h4 : Hints := ⟨[(2, ⟨[(5, .box (.st (.pair (.sl .imm 32 (.st (.pair tI (.pair .str (.pair tI .unit))))) (.pair tI .unit)))), (13, .val tI)], [8, 9, 10], [6, 7, 11]⟩), (0, ⟨[(5, .box (.st (.pair (.sl .imm 32 (.st (.pair tI (.pair .str (.pair tI .unit))))) (.pair tI .unit)))), (6, .box (.st (.pair tI (.pair tI (.pair tI (.pair (.sl .imm 8 tI) .unit)))))), (7, .box (.st (.pair (.sl .imm 1 tB) (.pair tI .unit)))), (8, .val tI)], [], []⟩)], []⟩
def ft4 (n : Nat) : List (Nat × FEnt) := [(8, ⟨s8, F8 n⟩), (10, ⟨s10, F10 n⟩), (11, ⟨s11, F11 n⟩), (12, ⟨s12, F12 n⟩), (13, ⟨s13, F13 n⟩), (17, ⟨s17, F17 n⟩), (18, ⟨s18, F18 n⟩), (19, ⟨s19, F19 n⟩), (20, ⟨s20, F20 n⟩), (23, ⟨s23, F23 n⟩), (30, ⟨s30, F30 n⟩)]
def c4 (n : Nat) : Ctx := ⟨168, find? tys, find? (ft4 n), gls, [], [], []⟩
theorem e4 (n x) : execFn (c4 n) h4 n Go.Proofs.Tryd.f4 s4 x = F4 n x := by kernel_rfl
theorem fn4 : P.funcs[4]? = some Go.Proofs.Tryd.f4 := by kernel_rfl
theorem call4 : Callable P 4 := callB_ok (by kernel_rfl)
theorem S4 (A : Amb) (hA : HA A) (n : Nat) : Sound A P (c4 n) 4 s4 (F4 n) :=
  execFn_sound mixed (tab rfl) (ft_all (C := c4 n) (l := ft4 n) rfl ⟨⟨call8, (S8 A hA n).of rfl⟩, ⟨call10, (S10 A n).of rfl⟩, ⟨call11, (S11 A n).of rfl⟩, ⟨call12, (S12 A n).of rfl⟩, ⟨call13, (S13 A hA n).of rfl⟩, ⟨call17, (S17 A n).of rfl⟩, ⟨call18, (S18 A n).of rfl⟩, ⟨call19, (S19 A n).of rfl⟩, ⟨call20, (S20 A n).of rfl⟩, ⟨call23, (S23 A n).of rfl⟩, ⟨call30, (S30 A n).of rfl⟩, trivial⟩) fn4 fun x y h => (e4 n x).trans h
end Go.Rb.S2

namespace Go.Rb.S2
open Go.Rb
open Go.RowKit
set_option maxRecDepth 100000
def s7 : Sig := ⟨[.val (.sl .imm 1 tB), .val (.sl .imm 1 tB)], [.val .bool]⟩
/-- rabbet/rabbetlaw15.SchemaIDs -/
def F7 (n : Nat) (x : List Int × List Int × Unit) : Option ((Bool × Unit) × (Unit)) :=
  ((F8 n ()).bind fun (y1 : (Bool × Unit) × (Unit)) => (if (!y1.1.1) = true then (some ((false, ()), ())) else (if (decide ((60:Int) < (x.1.length : Int))) = true then (some ((true, ()), ())) else (if (decide ((60:Int) < (x.2.1.length : Int))) = true then (some ((true, ()), ())) else ((F10 n (x.1, ())).bind fun (y2 : ((List Int × Int × Unit) × Unit) × (Unit)) => ((F11 n (y2.1.1, ())).bind fun (y3 : ((List (Int × List Int × Int × Unit) × Int × Unit) × (Int × Int × Int × List Int × Unit) × Unit) × ((List Int × Int × Unit) × Unit)) => (iterF (fun rec5 (s4 : (List (Int × List Int × Int × Unit) × Int × Unit) × (Int × Int × Int × List Int × Unit) × List Bool × Int) => (if (decide (s4.2.2.2 < (x.2.1.length : Int))) = true then (if (decide (s4.2.2.2 < (30:Int))) = true then (atI s4.2.2.2 x.2.1.length (if (s4.1.1.length : Int) = 0 then none else (atI ((IntKind.i64.wrap (IntKind.u8.wrap ((x.2.1.getD s4.2.2.2.toNat (0:Int)).tdiv (4:Int)))).tmod (s4.1.1.length : Int)) s4.1.1.length (joinF (fun (s6 : Int × Int × List Int × Int × (Int × Int × List Int × Unit) × Int × Int × Unit) => ((F13 n (s4.1, s4.2.1, s6, ())).bind fun (y8 : ((List (Int × List Int × Int × Unit) × Int × Unit) × (Int × Int × Int × List Int × Unit) × Int × Unit) × (Unit)) => (if (!decide (y8.1.2.2.1 = (0:Int))) = true then (rec5 (s4.1, s4.2.1, s4.2.2.1, (IntKind.i64.wrap (s4.2.2.2 + (1:Int))))) else (joinF (fun (s9 : List Bool) => (iterF (fun rec12 (s11 : List Bool × Int) => (if (decide (s11.2 < (y8.1.1.1.length : Int))) = true then (atI s11.2 y8.1.1.1.length (if (decide ((y8.1.1.1.getD s11.2.toNat ((0:Int), [], (0:Int), ())).1 < (1:Int))) = true then (some ((false, ()), ())) else (atI s11.2 y8.1.1.1.length (if (decide ((99:Int) < (y8.1.1.1.getD s11.2.toNat ((0:Int), [], (0:Int), ())).1)) = true then (some ((false, ()), ())) else (atI s11.2 y8.1.1.1.length (atI ((y8.1.1.1.getD s11.2.toNat ((0:Int), [], (0:Int), ())).1) s11.1.length (if (s11.1.getD ((y8.1.1.1.getD s11.2.toNat ((0:Int), [], (0:Int), ())).1).toNat false) = true then (some ((false, ()), ())) else (rec12 (s11.1, (IntKind.i64.wrap (s11.2 + (1:Int)))))))))))) else (if (decide ((y8.1.1.1.length : Int) = (0:Int))) = true then (some ((false, ()), ())) else (rec5 (y8.1.1, y8.1.2.1, s11.1, (IntKind.i64.wrap (s4.2.2.2 + (1:Int)))))))) n (s9, (0:Int)))) fun J10 => (if (decide (s6.1 = (2:Int))) = true then (atI ((s4.1.1.getD ((IntKind.i64.wrap (IntKind.u8.wrap ((x.2.1.getD s4.2.2.2.toNat (0:Int)).tdiv (4:Int)))).tmod (s4.1.1.length : Int)).toNat ((0:Int), [], (0:Int), ())).1) s4.2.2.1.length (J10 (s4.2.2.1.set ((s4.1.1.getD ((IntKind.i64.wrap (IntKind.u8.wrap ((x.2.1.getD s4.2.2.2.toNat (0:Int)).tdiv (4:Int)))).tmod (s4.1.1.length : Int)).toNat ((0:Int), [], (0:Int), ())).1).toNat true))) else (J10 s4.2.2.1)))))) fun J7 => (atI s4.2.2.2 x.2.1.length (if (decide (((x.2.1.getD s4.2.2.2.toNat (0:Int)).tmod (4:Int)) = (0:Int))) = true then (if [120].length + [(IntKind.u8.wrap (IntKind.i64.wrap ((97:Int) + (s4.2.2.2.tmod (26:Int))))), (IntKind.u8.wrap (IntKind.i64.wrap ((97:Int) + (IntKind.i64.wrap (s4.2.2.2.tdiv (26:Int))))))].length ≤ 140737488355328 then (J7 ((1:Int), (0:Int), ([120] ++ [(IntKind.u8.wrap (IntKind.i64.wrap ((97:Int) + (s4.2.2.2.tmod (26:Int))))), (IntKind.u8.wrap (IntKind.i64.wrap ((97:Int) + (IntKind.i64.wrap (s4.2.2.2.tdiv (26:Int))))))]), (4:Int), ((0:Int), (0:Int), [], ()), (0:Int), (0:Int), ())) else none) else (if (decide (((x.2.1.getD s4.2.2.2.toNat (0:Int)).tmod (4:Int)) = (1:Int))) = true then (if [121].length + [(IntKind.u8.wrap (IntKind.i64.wrap ((97:Int) + (s4.2.2.2.tmod (26:Int))))), (IntKind.u8.wrap (IntKind.i64.wrap ((97:Int) + (IntKind.i64.wrap (s4.2.2.2.tdiv (26:Int))))))].length ≤ 140737488355328 then (J7 ((5:Int), (s4.1.1.getD ((IntKind.i64.wrap (IntKind.u8.wrap ((x.2.1.getD s4.2.2.2.toNat (0:Int)).tdiv (4:Int)))).tmod (s4.1.1.length : Int)).toNat ((0:Int), [], (0:Int), ())).1, ([121] ++ [(IntKind.u8.wrap (IntKind.i64.wrap ((97:Int) + (s4.2.2.2.tmod (26:Int))))), (IntKind.u8.wrap (IntKind.i64.wrap ((97:Int) + (IntKind.i64.wrap (s4.2.2.2.tdiv (26:Int))))))]), (0:Int), ((0:Int), (0:Int), [], ()), (58:Int), (0:Int), ())) else none) else (J7 ((2:Int), (s4.1.1.getD ((IntKind.i64.wrap (IntKind.u8.wrap ((x.2.1.getD s4.2.2.2.toNat (0:Int)).tdiv (4:Int)))).tmod (s4.1.1.length : Int)).toNat ((0:Int), [], (0:Int), ())).1, [], (0:Int), ((0:Int), (0:Int), [], ()), (0:Int), (0:Int), ()))))))))) else (some ((true, ()), ()))) else (some ((true, ()), ())))) n (y3.1.1, y3.1.2.1, (List.replicate 100 false), (0:Int)))))))))
def h7 : Hints := ⟨[(3, ⟨[(7, .box (.arr 100 .bool)), (14, .val tI)], [1, 8, 11], [5, 6, 12]⟩), (0, ⟨[(5, .box (.st (.pair (.sl .imm 32 (.st (.pair tI (.pair .str (.pair tI .unit))))) (.pair tI .unit)))), (6, .box (.st (.pair tI (.pair tI (.pair tI (.pair (.sl .imm 8 tI) .unit)))))), (7, .box (.arr 100 .bool)), (8, .val tI)], [1], []⟩)], [(34, ⟨[(10, .box (.st (.pair tI (.pair tI (.pair .str (.pair tI (.pair (.st (.pair tI (.pair tI (.pair .str .unit)))) (.pair tB (.pair tI .unit)))))))))], [1, 8, 9], [5, 6, 7]⟩), (42, ⟨[(7, .box (.arr 100 .bool))], [1, 8], [5, 6, 11, 12]⟩)]⟩
def ft7 (n : Nat) : List (Nat × FEnt) := [(8, ⟨s8, F8 n⟩), (10, ⟨s10, F10 n⟩), (11, ⟨s11, F11 n⟩), (13, ⟨s13, F13 n⟩)]
def c7 (n : Nat) : Ctx := ⟨146, find? tys, find? (ft7 n), gls, [], [], []⟩
theorem e7 (n x) : execFn (c7 n) h7 n Go.Proofs.Tryd.f7 s7 x = F7 n x := by kernel_rfl
theorem fn7 : P.funcs[7]? = some Go.Proofs.Tryd.f7 := by kernel_rfl
theorem call7 : Callable P 7 := callB_ok (by kernel_rfl)
theorem S7 (A : Amb) (hA : HA A) (n : Nat) : Sound A P (c7 n) 7 s7 (F7 n) :=
  execFn_sound mixed (tab rfl) (ft_all (C := c7 n) (l := ft7 n) rfl ⟨⟨call8, (S8 A hA n).of rfl⟩, ⟨call10, (S10 A n).of rfl⟩, ⟨call11, (S11 A n).of rfl⟩, ⟨call13, (S13 A hA n).of rfl⟩, trivial⟩) fn7 fun x y h => (e7 n x).trans h
end Go.Rb.S2
