/- The package-level errors of the program, as they are laid: what the row's condition gives, and a world that meets it. -/
import Derived.Test.YtpkgjjdalliggaaGreatDoorLawB
import Derived.Test.YtpkgjjdalliggaaGreatDoorRbH
import Derived.Test.YtpkgjjdalliggaaGreatDoorRows
import Derived.ChangeSame
import Derived.JoinedOf
import Derived.JoinedAt
import Derived.JoinedStill
import Derived.RowKit
import Derived.ProofKit
import Derived.OpenShut
import Derived.Stop.Texts
set_option linter.unusedVariables false
set_option linter.unusedSimpArgs false
namespace Go.Rb.R3
open Go.ChangeShapes Go.WideShapes Go.ChangeAt Go.RowKit Go.Rb

theorem own : ownKnob Go.Proofs.Tryz.prog.godebug = none := by kernel_rfl
def sents : List (String × List UInt8) := [("rabbet/num.errShort", [101, 110, 100, 115, 32, 116, 111, 111, 32, 115, 111, 111, 110]), ("rabbet/num.errLong", [105, 115, 32, 110, 111, 116, 32, 97, 115, 32, 115, 104, 111, 114, 116, 32, 97, 115, 32, 109, 97, 121, 32, 98, 101]), ("rabbet/dict.errForm", [115, 97, 121, 115, 32, 110, 111, 32, 99, 111, 108, 117, 109, 110])]
theorem star : "*" ++ "errors.errorString" = "*errors.errorString" := by decide
theorem rowE (u : TypeId) (h : P.typeName? 3 u = some "*errors.errorString") : u = 169 :=
  typeName_ptr_named (nm := "errors.errorString") (by rw [star]; kernel_rfl) (by kernel_rfl) (by decide) u (by rw [star]; exact h)
theorem errTy : ErrTy P "*errors.errorString" 69 169 194 9 where
  hi := ifaceB_ok (by kernel_rfl)
  hrow := rowE
  hp := by kernel_rfl
  he := by
    have h : ((P.underlying 194).map fun d => match d with
      | .struct fs => (match fs.toList with
        | [f] => some (f.type, f.offset)
        | _ => none)
      | _ => none) = some (some (9, 0)) := by kernel_rfl
    obtain ⟨d, hd, h2⟩ := Option.map_eq_some_iff.1 h
    cases d with
    | struct fs =>
      obtain ⟨l⟩ := fs
      match l, h2 with
      | [f], h2 =>
        simp only [Option.some.injEq, Prod.mk.injEq] at h2
        exact ⟨f, hd, h2.1, h2.2⟩
      | [], h2 => simp at h2
      | _ :: _ :: _, h2 => simp at h2
    | _ => simp at h2
  hs := by kernel_rfl
  hc := by kernel_rfl
  hcs := by kernel_rfl
theorem gN2 : P.globalNamed "rabbet/num.errShort" = some 2 := by kernel_rfl
theorem gT2 : (P.globals[2]?).map (·.type) = some 69 := by kernel_rfl
theorem gN3 : P.globalNamed "rabbet/num.errLong" = some 3 := by kernel_rfl
theorem gT3 : (P.globals[3]?).map (·.type) = some 69 := by kernel_rfl
theorem gN0 : P.globalNamed "rabbet/dict.errForm" = some 0 := by kernel_rfl
theorem gT0 : (P.globals[0]?).map (·.type) = some 69 := by kernel_rfl

theorem sentsTy : ∀ x, x ∈ sents → ∀ g, P.globalNamed x.1 = some g → (P.globals[g]?).map (·.type) = some 69 := by
  intro x hx g hg
  simp only [sents, List.mem_cons, List.not_mem_nil, or_false] at hx
  rcases hx with rfl | rfl | rfl
  · rw [show P.globalNamed "rabbet/num.errShort" = some 2 from gN2] at hg
    obtain rfl := Option.some.inj hg
    exact gT2
  · rw [show P.globalNamed "rabbet/num.errLong" = some 3 from gN3] at hg
    obtain rfl := Option.some.inj hg
    exact gT3
  · rw [show P.globalNamed "rabbet/dict.errForm" = some 0 from gN0] at hg
    obtain rfl := Option.some.inj hg
    exact gT0

theorem glsOK {C : Ctx} (hC : C.gl = gls) : ∀ g t x, C.gl g = some ⟨t, x⟩ → (∃ y, y ∈ sents ∧ P.globalNamed y.1 = some g) ∧ (⟨t, x⟩ : (t : Ty) × t.den) = ⟨.err, UV.sent g⟩ := by
  intro g t x h
  rw [hC] at h
  have hm := find_mem h
  simp only [List.mem_cons, List.not_mem_nil, or_false, Prod.mk.injEq] at hm
  rcases hm with ⟨rfl, he⟩ | ⟨rfl, he⟩ | ⟨rfl, he⟩
  · exact ⟨⟨("rabbet/dict.errForm", [115, 97, 121, 115, 32, 110, 111, 32, 99, 111, 108, 117, 109, 110]), by simp [sents], gN0⟩, he⟩
  · exact ⟨⟨("rabbet/num.errShort", [101, 110, 100, 115, 32, 116, 111, 111, 32, 115, 111, 111, 110]), by simp [sents], gN2⟩, he⟩
  · exact ⟨⟨("rabbet/num.errLong", [105, 115, 32, 110, 111, 116, 32, 97, 115, 32, 115, 104, 111, 114, 116, 32, 97, 115, 32, 109, 97, 121, 32, 98, 101]), by simp [sents], gN3⟩, he⟩

noncomputable def low : Nat := (World.holding P default ⟨#[], #[], []⟩).heap.size
noncomputable def putE (k : Nat) : Obj → Obj
  | .cells _ t frozen => .cells #[.iface 169 (.pointer (some ⟨low + k, 0, none⟩))] t frozen
  | o => o
noncomputable def laidWorld (os : Os) : World :=
  let w0 := World.holding P os ⟨#[.cells #[.string { data := #[101, 110, 100, 115, 32, 116, 111, 111, 32, 115, 111, 111, 110] }] 194, .cells #[.string { data := #[105, 115, 32, 110, 111, 116, 32, 97, 115, 32, 115, 104, 111, 114, 116, 32, 97, 115, 32, 109, 97, 121, 32, 98, 101] }] 194, .cells #[.string { data := #[115, 97, 121, 115, 32, 110, 111, 32, 99, 111, 108, 117, 109, 110] }] 194], #[], []⟩
  { w0 with heap := (((w0.heap.modify 2 (putE 0)).modify 3 (putE 1)).modify 0 (putE 2)) }
theorem laid_met (os : Os) (args : Array Value) : laidMet P (sents.map fun x => (x.1, sentD "*errors.errorString" x.2)) ((laidWorld os).forCall (fun _ _ => 0) ⟨#[], args, []⟩).memory :=
  laidMet_of_run' 8 (by kernel_rfl) (by kernel_rfl)
end Go.Rb.R3

namespace Go.Rb.R3
open Go.Rb
open Go.RowKit
set_option maxRecDepth 100000
def s4 : Sig := ⟨[.val tB, .val (.sl .imm 1 tB), .val (.arr 3 tB), .val (.arr 3 tB)], [.val .bool]⟩
/-- rabbet/rabbetlaw7.DictTurned -/
def f_law7_DictTurned (n : Nat) (x : Int × List Int × List Int × List Int × Unit) : Option ((Bool × Unit) × (Unit)) :=
  ((f_law7_begun n ()).bind fun (y1 : (Bool × Unit) × (Unit)) => (if (!y1.1.1) = true then (some ((false, ()), ())) else (if (decide ((60:Int) < (x.2.1.length : Int))) = true then (some ((true, ()), ())) else ((f_law7_some n (x.2.1, (IntKind.i64.wrap ((1:Int) + (IntKind.i64.wrap (x.1.tmod (4:Int))))), (30:Int), ())).bind fun (y2 : ((List (Int × Int × List Int × Unit)) × Unit) × (Unit)) => ((f_ref1_Encode n ((3:Int), (IntKind.i64.wrap ((1:Int) + (IntKind.i64.wrap (x.1.tmod (4:Int))))), y2.1.1, ())).bind fun (y3 : (List Int × Bool × Unit) × (Unit)) => (iterF (fun rec5 (s4 : List Int × Int) => (if (decide (s4.2 < (3:Int))) = true then (if (decide ((0:Int) < (s4.1.length : Int))) = true then (joinF (fun (s6 : List Int) => (iterF (fun rec9 (s8 : List Int × Int) => (if (decide (s8.2 ≤ (IntKind.i64.wrap ((y2.1.1.length : Int) + (1:Int))))) = true then ((f_lend_dict_Take n ((IntKind.i64.wrap ((1:Int) + (IntKind.i64.wrap (x.1.tmod (4:Int))))), s8.2, s8.1, ())).bind fun (y10 : ((List (Int × Int × List Int × Unit)) × Bool × Unit) × (List Int × Unit)) => ((f_lend_ref1_Decode n ((3:Int), (IntKind.i64.wrap ((1:Int) + (IntKind.i64.wrap (x.1.tmod (4:Int))))), s8.2, y10.2.1, ())).bind fun (y11 : ((List (Int × Int × List Int × Unit)) × Bool × Unit) × (List Int × Unit)) => (if (!(y10.1.2.1 == y11.1.2.1)) = true then (some ((false, ()), ())) else ((f_ref1_SameValues n (y10.1.1, y11.1.1, ())).bind fun (y12 : (Bool × Unit) × (Unit)) => (if (!y12.1.1) = true then (some ((false, ()), ())) else (rec9 (y11.2.1, (IntKind.i64.wrap (s8.2 + (1:Int)))))))))) else (rec5 (s8.1, (IntKind.i64.wrap (s4.2 + (1:Int))))))) n (s6, (IntKind.i64.wrap ((y2.1.1.length : Int) - (1:Int)))))) fun J7 => (atI s4.2 x.2.2.2.1.length (if (decide ((0:Int) < ((x.2.2.2.1.getD s4.2.toNat (0:Int)).tmod (4:Int)))) = true then (atI s4.2 x.2.2.1.length (if (s4.1.length : Int) = 0 then none else (atI s4.2 x.2.2.2.1.length (atI ((IntKind.i64.wrap (x.2.2.1.getD s4.2.toNat (0:Int))).tmod (s4.1.length : Int)) s4.1.length (J7 (s4.1.set ((IntKind.i64.wrap (x.2.2.1.getD s4.2.toNat (0:Int))).tmod (s4.1.length : Int)).toNat (IntKind.u8.wrap ((x.2.2.2.1.getD s4.2.toNat (0:Int)).tdiv (2:Int))))))))) else (J7 s4.1)))) else (some ((true, ()), ()))) else (some ((true, ()), ())))) n (y3.1.1, (0:Int))))))))
def h4 : Hints := ⟨[(2, ⟨[(11, .val (.sl .own 1 tB)), (14, .val tI)], [6, 7, 9, 10, 13], []⟩), (0, ⟨[(11, .val (.sl .own 1 tB)), (13, .val tI)], [6, 7, 9, 10], []⟩)], [(26, ⟨[(11, .val (.sl .own 1 tB))], [6, 7, 9, 10, 13], []⟩)]⟩
def ft4 (n : Nat) : List (Nat × FEnt) := [(9, ⟨s9, f_law7_begun n⟩), (10, ⟨s10, f_law7_some n⟩), (12, ⟨s12, f_ref1_Encode n⟩), (14, ⟨s1000014, f_lend_dict_Take n⟩), (15, ⟨s1000015, f_lend_ref1_Decode n⟩), (16, ⟨s16, f_ref1_SameValues n⟩)]
def c4 (n : Nat) : Ctx := ⟨97, find? tys, find? (ft4 n), gls, [], [6, 7], []⟩
theorem e4 (n x) : execFn (c4 n) h4 n Go.Proofs.Tryz.f4 s4 x = f_law7_DictTurned n x := by kernel_rfl
theorem fn4 : P.funcs[4]? = some Go.Proofs.Tryz.f4 := by kernel_rfl
theorem call4 : Callable P 4 := callB_ok (by kernel_rfl)
theorem S4 (A : Amb) (hA : HA A) (n : Nat) : Sound A P (c4 n) 4 s4 (f_law7_DictTurned n) :=
  execFn_sound mixed (tab rfl) (ft_all (C := c4 n) (l := ft4 n) rfl ⟨⟨call9, (S9 A hA n).of rfl⟩, ⟨call10, (S10 A n).of rfl⟩, ⟨call12, (S12 A n).of rfl⟩, ⟨call14, (S1000014 A hA n).of rfl⟩, ⟨call15, (S1000015 A n).of rfl⟩, ⟨call16, (S16 A n).of rfl⟩, trivial⟩) fn4 fun x y h => (e4 n x).trans h
end Go.Rb.R3

namespace Go.Rb.R3
open Go.Rb
open Go.RowKit
set_option maxRecDepth 100000
def s3 : Sig := ⟨[.val tI, .val (.sl .imm 1 tB), .val (.sl .imm 32 (.st (.pair tI (.pair tI (.pair .str .unit))))), .val tI, .val (.sl .imm 1 tB)], [.val .bool]⟩
/-- rabbet/rabbetlaw7.DictAll -/
def f_law7_DictAll (n : Nat) (x : Int × List Int × (List (Int × Int × List Int × Unit)) × Int × List Int × Unit) : Option ((Bool × Unit) × (Unit)) :=
  ((f_law7_begun n ()).bind fun (y1 : (Bool × Unit) × (Unit)) => (if (!y1.1.1) = true then (some ((false, ()), ())) else (if (decide ((60:Int) < (x.2.1.length : Int))) = true then (some ((true, ()), ())) else (if (decide ((20:Int) < (x.2.2.1.length : Int))) = true then (some ((true, ()), ())) else (if (decide ((60:Int) < (x.2.2.2.2.1.length : Int))) = true then (some ((true, ()), ())) else (iterF (fun rec3 (s2 : Int) => (if (decide (s2 < (x.2.2.1.length : Int))) = true then (atI s2 x.2.2.1.length (if (decide ((40:Int) < (((((x.2.2.1.getD s2.toNat ((0:Int), (0:Int), [], ())).2).2).1).length : Int))) = true then (some ((true, ()), ())) else (rec3 (IntKind.i64.wrap (s2 + (1:Int)))))) else (iterF (fun rec5 (s4 : Int) => (if (decide (s4 < ([x.1, (1:Int), (2:Int), (3:Int), (4:Int)].length : Int))) = true then (atI s4 ([x.1, (1:Int), (2:Int), (3:Int), (4:Int)].length) ((f_law7_some n (x.2.1, ([x.1, (1:Int), (2:Int), (3:Int), (4:Int)].getD s4.toNat (0:Int)), (30:Int), ())).bind fun (y6 : ((List (Int × Int × List Int × Unit)) × Unit) × (Unit)) => (iterF (fun rec8 (s7 : Int) => (if (decide (s7 < (2:Int))) = true then (atI s4 ([x.1, (1:Int), (2:Int), (3:Int), (4:Int)].length) (atI s7 (([x.2.2.1, y6.1.1] : List (List (Int × Int × List Int × Unit))).length) ((f_dict_Put n (([x.1, (1:Int), (2:Int), (3:Int), (4:Int)].getD s4.toNat (0:Int)), (([x.2.2.1, y6.1.1] : List (List (Int × Int × List Int × Unit))).getD s7.toNat []), ())).bind fun (y9 : (List Int × Bool × Unit) × (Unit)) => (atI s4 ([x.1, (1:Int), (2:Int), (3:Int), (4:Int)].length) (atI s7 (([x.2.2.1, y6.1.1] : List (List (Int × Int × List Int × Unit))).length) ((f_ref1_Encode n ((3:Int), ([x.1, (1:Int), (2:Int), (3:Int), (4:Int)].getD s4.toNat (0:Int)), (([x.2.2.1, y6.1.1] : List (List (Int × Int × List Int × Unit))).getD s7.toNat []), ())).bind fun (y10 : (List Int × Bool × Unit) × (Unit)) => (if (!decide (y9.1.1 = y10.1.1)) = true then (some ((false, ()), ())) else (if (!(y9.1.2.1 == y10.1.2.1)) = true then (some ((false, ()), ())) else (rec8 (IntKind.i64.wrap (s7 + (1:Int)))))))))))) else ((f_law0_Handed n (x.2.2.2.2.1, ())).bind fun (y11 : (List Int × Unit) × (Unit)) => (atI s4 ([x.1, (1:Int), (2:Int), (3:Int), (4:Int)].length) ((f_dict_Take n (([x.1, (1:Int), (2:Int), (3:Int), (4:Int)].getD s4.toNat (0:Int)), x.2.2.2.1, y11.1.1, ())).bind fun (y12 : ((List (Int × Int × List Int × Unit)) × Bool × Unit) × (Unit)) => (atI s4 ([x.1, (1:Int), (2:Int), (3:Int), (4:Int)].length) ((f_ref1_Decode n ((3:Int), ([x.1, (1:Int), (2:Int), (3:Int), (4:Int)].getD s4.toNat (0:Int)), x.2.2.2.1, x.2.2.2.2.1, ())).bind fun (y13 : ((List (Int × Int × List Int × Unit)) × Bool × Unit) × (Unit)) => (if (!(y12.1.2.1 == y13.1.2.1)) = true then (some ((false, ()), ())) else ((f_ref1_SameValues n (y12.1.1, y13.1.1, ())).bind fun (y14 : (Bool × Unit) × (Unit)) => (if (!y14.1.1) = true then (some ((false, ()), ())) else ((f_law0_Same n (y11.1.1, x.2.2.2.2.1, ())).bind fun (y15 : (Bool × Unit) × (Unit)) => (if (!y15.1.1) = true then (some ((false, ()), ())) else (rec5 (IntKind.i64.wrap (s4 + (1:Int)))))))))))))))) n (0:Int)))) else (some ((true, ()), ())))) n (0:Int)))) n (0:Int)))))))
def h3 : Hints := ⟨[(0, ⟨[(11, .val tI)], [0, 1, 2, 3, 4], []⟩), (4, ⟨[(15, .val tI)], [1, 2, 3, 4, 12, 13, 14], []⟩), (2, ⟨[(13, .val tI)], [1, 2, 3, 4, 12], []⟩)], []⟩
def ft3 (n : Nat) : List (Nat × FEnt) := [(9, ⟨s9, f_law7_begun n⟩), (10, ⟨s10, f_law7_some n⟩), (11, ⟨s2000011, f_dict_Put n⟩), (12, ⟨s2000012, f_ref1_Encode n⟩), (13, ⟨s13, f_law0_Handed n⟩), (14, ⟨s2000014, f_dict_Take n⟩), (15, ⟨s2000015, f_ref1_Decode n⟩), (16, ⟨s16, f_ref1_SameValues n⟩), (17, ⟨s17, f_law0_Same n⟩)]
def c3 (n : Nat) : Ctx := ⟨144, find? tys, find? (ft3 n), gls, [], [], []⟩
theorem e3 (n x) : execFn (c3 n) h3 n Go.Proofs.Tryz.f3 s3 x = f_law7_DictAll n x := by kernel_rfl
theorem fn3 : P.funcs[3]? = some Go.Proofs.Tryz.f3 := by kernel_rfl
theorem call3 : Callable P 3 := callB_ok (by kernel_rfl)
theorem S3 (A : Amb) (hA : HA A) (n : Nat) : Sound A P (c3 n) 3 s3 (f_law7_DictAll n) :=
  execFn_sound mixed (tab rfl) (ft_all (C := c3 n) (l := ft3 n) rfl ⟨⟨call9, (S9 A hA n).of rfl⟩, ⟨call10, (S10 A n).of rfl⟩, ⟨call11, (S2000011 A n).of rfl⟩, ⟨call12, (S2000012 A n).of rfl⟩, ⟨call13, (S13 A n).of rfl⟩, ⟨call14, (S2000014 A hA n).of rfl⟩, ⟨call15, (S2000015 A n).of rfl⟩, ⟨call16, (S16 A n).of rfl⟩, ⟨call17, (S17 A n).of rfl⟩, trivial⟩) fn3 fun x y h => (e3 n x).trans h
end Go.Rb.R3
