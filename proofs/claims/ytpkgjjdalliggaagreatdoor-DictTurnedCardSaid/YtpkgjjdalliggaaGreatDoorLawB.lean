/- The functions that the law runs, as pure functions; that their code is computed so, and their contracts. Printed by a program of our own. -/
import Derived.Test.YtpkgjjdalliggaaGreatDoorLawA
import Derived.Laws.Externs
import Derived.Lib.Walk
import Derived.RowKitTokens
import Derived.Shelf.RegionOpenPlain
import Derived.Test.YtpkgjjdalliggaaGreatDoorRbI
import Derived.WalkKit
set_option linter.unusedVariables false
set_option linter.unusedSimpArgs false
namespace Go.Rb.R3
open Go.Rb
open Go.RowKit
set_option maxRecDepth 100000
def lt_8163acee : List Int := [0, 1, 2, 2, 3, 3, 3, 3, 4, 4, 4, 4, 4, 4, 4, 4, 5, 5, 5, 5, 5, 5, 5, 5, 5, 5, 5, 5, 5, 5, 5, 5, 6, 6, 6, 6, 6, 6, 6, 6, 6, 6, 6, 6, 6, 6, 6, 6, 6, 6, 6, 6, 6, 6, 6, 6, 6, 6, 6, 6, 6, 6, 6, 6, 7, 7, 7, 7, 7, 7, 7, 7, 7, 7, 7, 7, 7, 7, 7, 7, 7, 7, 7, 7, 7, 7, 7, 7, 7, 7, 7, 7, 7, 7, 7, 7, 7, 7, 7, 7, 7, 7, 7, 7, 7, 7, 7, 7, 7, 7, 7, 7, 7, 7, 7, 7, 7, 7, 7, 7, 7, 7, 7, 7, 7, 7, 7, 7, 8, 8, 8, 8, 8, 8, 8, 8, 8, 8, 8, 8, 8, 8, 8, 8, 8, 8, 8, 8, 8, 8, 8, 8, 8, 8, 8, 8, 8, 8, 8, 8, 8, 8, 8, 8, 8, 8, 8, 8, 8, 8, 8, 8, 8, 8, 8, 8, 8, 8, 8, 8, 8, 8, 8, 8, 8, 8, 8, 8, 8, 8, 8, 8, 8, 8, 8, 8, 8, 8, 8, 8, 8, 8, 8, 8, 8, 8, 8, 8, 8, 8, 8, 8, 8, 8, 8, 8, 8, 8, 8, 8, 8, 8, 8, 8, 8, 8, 8, 8, 8, 8, 8, 8, 8, 8, 8, 8, 8, 8, 8, 8, 8, 8, 8, 8, 8, 8, 8, 8, 8, 8, 8, 8, 8, 8, 8, 8]
def s64 : Sig := ⟨[.val (.st (.pair tI (.pair tI (.pair .str .unit))))], [.val .bool]⟩
/-- rabbet/value.May -/
def f_value_May (n : Nat) (x : (Int × Int × List Int × Unit) × Unit) : Option ((Bool × Unit) × (Unit)) :=
  (if (decide (x.1.1 = (1:Int))) = true then (if (decide (x.1.2.1 < (-32768:Int))) = true then (some ((false, ()), ())) else (if (decide ((32767:Int) < x.1.2.1)) = true then (some ((false, ()), ())) else (some (((decide (x.1.2.2.1 = [])), ()), ())))) else (if (decide (x.1.1 = (2:Int))) = true then (some (((decide (x.1.2.2.1 = [])), ()), ())) else (if (decide (x.1.1 = (0:Int))) = true then (if (decide (x.1.2.1 = (0:Int))) = true then (some (((decide (x.1.2.2.1 = [])), ()), ())) else (some ((false, ()), ()))) else (if (decide (x.1.1 = (3:Int))) = true then (if (decide (x.1.2.1 = (0:Int))) = true then (some (((decide (x.1.2.2.1 = [])), ()), ())) else (if (decide (x.1.2.1 = (1:Int))) = true then (some (((decide (x.1.2.2.1 = [])), ()), ())) else (some ((false, ()), ())))) else (if (decide (x.1.1 = (4:Int))) = true then (if (decide (x.1.2.1 = (0:Int))) = true then (some (((decide ((x.1.2.2.1.length : Int) ≤ (20:Int))), ()), ())) else (some ((false, ()), ()))) else (some ((false, ()), ())))))))
def h64 : Hints := ⟨[], []⟩
def ft64 (n : Nat) : List (Nat × FEnt) := []
def c64 (n : Nat) : Ctx := ⟨56, find? tys, find? (ft64 n), gls, [], [1], []⟩
theorem e64 (n x) : execFn (c64 n) h64 n Go.Proofs.Tryz.f64 s64 x = f_value_May n x := by kernel_rfl
theorem fn64 : P.funcs[64]? = some Go.Proofs.Tryz.f64 := by kernel_rfl
theorem call64 : Callable P 64 := callB_ok (by kernel_rfl)
theorem S64 (A : Amb) (n : Nat) : Sound A P (c64 n) 64 s64 (f_value_May n) :=
  execFn_sound mixed (tab rfl) (ft_all (C := c64 n) (l := ft64 n) rfl trivial) fn64 fun x y h => (e64 n x).trans h
def s28 : Sig := ⟨[.val tI, .val (.sl .imm 32 (.st (.pair tI (.pair tI (.pair .str .unit)))))], [.val .bool]⟩
/-- rabbet/dict.of -/
def f_dict_of (n : Nat) (x : Int × (List (Int × Int × List Int × Unit)) × Unit) : Option ((Bool × Unit) × (Unit)) :=
  (if (decide (x.1 < (1:Int))) = true then (some ((false, ()), ())) else (if (decide ((4:Int) < x.1)) = true then (some ((false, ()), ())) else (iterF (fun rec2 (s1 : Int) => (if (decide (s1 < (x.2.1.length : Int))) = true then (atI s1 x.2.1.length (if (!decide ((x.2.1.getD s1.toNat ((0:Int), (0:Int), [], ())).1 = x.1)) = true then (some ((false, ()), ())) else ((f_value_May n ((x.2.1.getD s1.toNat ((0:Int), (0:Int), [], ())), ())).bind fun (y3 : (Bool × Unit) × (Unit)) => (if (!y3.1.1) = true then (some ((false, ()), ())) else (rec2 (IntKind.i64.wrap (s1 + (1:Int)))))))) else (some ((true, ()), ())))) n (0:Int))))
def h28 : Hints := ⟨[(0, ⟨[(15, .val tI)], [0, 13, 14], []⟩)], []⟩
def ft28 (n : Nat) : List (Nat × FEnt) := [(64, ⟨s64, f_value_May n⟩)]
def c28 (n : Nat) : Ctx := ⟨29, find? tys, find? (ft28 n), gls, [], [], []⟩
theorem e28 (n x) : execFn (c28 n) h28 n Go.Proofs.Tryz.f28 s28 x = f_dict_of n x := by kernel_rfl
theorem fn28 : P.funcs[28]? = some Go.Proofs.Tryz.f28 := by kernel_rfl
theorem call28 : Callable P 28 := callB_ok (by kernel_rfl)
theorem S28 (A : Amb) (n : Nat) : Sound A P (c28 n) 28 s28 (f_dict_of n) :=
  execFn_sound mixed (tab rfl) (ft_all (C := c28 n) (l := ft28 n) rfl ⟨⟨call64, (S64 A n).of rfl⟩, trivial⟩) fn28 fun x y h => (e28 n x).trans h
def s110 : Sig := ⟨[.val tI], [.val .bool]⟩
/-- cmp.isNaN[int] -/
def f_cmp_isNaN_int (n : Nat) (x : Int × Unit) : Option ((Bool × Unit) × (Unit)) :=
  (some (((!decide (x.1 = x.1)), ()), ()))
def h110 : Hints := ⟨[], []⟩
def ft110 (n : Nat) : List (Nat × FEnt) := []
def c110 (n : Nat) : Ctx := ⟨6, find? tys, find? (ft110 n), gls, [], [], []⟩
theorem e110 (n x) : execFn (c110 n) h110 n Go.Proofs.Tryz.f110 s110 x = f_cmp_isNaN_int n x := by kernel_rfl
theorem S110 (A : Amb) (n : Nat) : Sound A P (c110 n) 110 s110 (f_cmp_isNaN_int n) :=
  execFn_sound mixed (tab rfl) (ft_all (C := c110 n) (l := ft110 n) rfl trivial) fn110 fun x y h => (e110 n x).trans h
def s67 : Sig := ⟨[.val tI, .val tI], [.val tI]⟩
/-- cmp.Compare[int] -/
def f_cmp_Compare_int (n : Nat) (x : Int × Int × Unit) : Option ((Int × Unit) × (Unit)) :=
  ((f_cmp_isNaN_int n (x.1, ())).bind fun (y1 : (Bool × Unit) × (Unit)) => ((f_cmp_isNaN_int n (x.2.1, ())).bind fun (y2 : (Bool × Unit) × (Unit)) => (if y1.1.1 = true then (if y2.1.1 = true then (some (((0:Int), ()), ())) else (some (((-1:Int), ()), ()))) else (if y2.1.1 = true then (some (((1:Int), ()), ())) else (if (decide (x.1 < x.2.1)) = true then (some (((-1:Int), ()), ())) else (if (decide (x.2.1 < x.1)) = true then (some (((1:Int), ()), ())) else (some (((0:Int), ()), ()))))))))
def h67 : Hints := ⟨[], []⟩
def ft67 (n : Nat) : List (Nat × FEnt) := [(110, ⟨s110, f_cmp_isNaN_int n⟩)]
def c67 (n : Nat) : Ctx := ⟨20, find? tys, find? (ft67 n), gls, [], [], []⟩
theorem e67 (n x) : execFn (c67 n) h67 n Go.Proofs.Tryz.f67 s67 x = f_cmp_Compare_int n x := by kernel_rfl
theorem S67 (A : Amb) (n : Nat) : Sound A P (c67 n) 67 s67 (f_cmp_Compare_int n) :=
  execFn_sound mixed (tab rfl) (ft_all (C := c67 n) (l := ft67 n) rfl ⟨⟨call110, (S110 A n).of rfl⟩, trivial⟩) fn67 fun x y h => (e67 n x).trans h
def s68 : Sig := ⟨[.val (.st (.pair tI (.pair tI (.pair .str .unit))))], [.val tI]⟩
/-- rabbet/value.rank -/
def f_value_rank (n : Nat) (x : (Int × Int × List Int × Unit) × Unit) : Option ((Int × Unit) × (Unit)) :=
  (if (decide (x.1.1 = (0:Int))) = true then (some (((0:Int), ()), ())) else (if (decide (x.1.1 = (4:Int))) = true then (some (((2:Int), ()), ())) else (some (((1:Int), ()), ()))))
def h68 : Hints := ⟨[], []⟩
def ft68 (n : Nat) : List (Nat × FEnt) := []
def c68 (n : Nat) : Ctx := ⟨9, find? tys, find? (ft68 n), gls, [], [1], []⟩
theorem e68 (n x) : execFn (c68 n) h68 n Go.Proofs.Tryz.f68 s68 x = f_value_rank n x := by kernel_rfl
theorem S68 (A : Amb) (n : Nat) : Sound A P (c68 n) 68 s68 (f_value_rank n) :=
  execFn_sound mixed (tab rfl) (ft_all (C := c68 n) (l := ft68 n) rfl trivial) fn68 fun x y h => (e68 n x).trans h
def s69 : Sig := ⟨[.val .str, .val .str], [.val tI]⟩
/-- strings.Compare -/
def f_strings_Compare (n : Nat) (x : List Int × List Int × Unit) : Option ((Int × Unit) × (Unit)) :=
  ((f_bytealg_CompareString n (x.1, x.2.1, ())).bind fun (y1 : (Int × Unit) × (Unit)) => (some ((y1.1.1, ()), ())))
def h69 : Hints := ⟨[], []⟩
def ft69 (n : Nat) : List (Nat × FEnt) := [(111, ⟨s111, f_bytealg_CompareString n⟩)]
def c69 (n : Nat) : Ctx := ⟨8, find? tys, find? (ft69 n), gls, [], [], []⟩
theorem e69 (n x) : execFn (c69 n) h69 n Go.Proofs.Tryz.f69 s69 x = f_strings_Compare n x := by kernel_rfl
theorem S69 (A : Amb) (n : Nat) : Sound A P (c69 n) 69 s69 (f_strings_Compare n) :=
  execFn_sound mixed (tab rfl) (ft_all (C := c69 n) (l := ft69 n) rfl ⟨⟨call111, (S111 A n).of rfl⟩, trivial⟩) fn69 fun x y h => (e69 n x).trans h
def s112 : Sig := ⟨[.val tI], [.val .bool]⟩
/-- cmp.isNaN[int64] -/
def f_cmp_isNaN_int64 (n : Nat) (x : Int × Unit) : Option ((Bool × Unit) × (Unit)) :=
  (some (((!decide (x.1 = x.1)), ()), ()))
def h112 : Hints := ⟨[], []⟩
def ft112 (n : Nat) : List (Nat × FEnt) := []
def c112 (n : Nat) : Ctx := ⟨6, find? tys, find? (ft112 n), gls, [], [], []⟩
theorem e112 (n x) : execFn (c112 n) h112 n Go.Proofs.Tryz.f112 s112 x = f_cmp_isNaN_int64 n x := by kernel_rfl
theorem S112 (A : Amb) (n : Nat) : Sound A P (c112 n) 112 s112 (f_cmp_isNaN_int64 n) :=
  execFn_sound mixed (tab rfl) (ft_all (C := c112 n) (l := ft112 n) rfl trivial) fn112 fun x y h => (e112 n x).trans h
def s70 : Sig := ⟨[.val tI, .val tI], [.val tI]⟩
/-- cmp.Compare[int64] -/
def f_cmp_Compare_int64 (n : Nat) (x : Int × Int × Unit) : Option ((Int × Unit) × (Unit)) :=
  ((f_cmp_isNaN_int64 n (x.1, ())).bind fun (y1 : (Bool × Unit) × (Unit)) => ((f_cmp_isNaN_int64 n (x.2.1, ())).bind fun (y2 : (Bool × Unit) × (Unit)) => (if y1.1.1 = true then (if y2.1.1 = true then (some (((0:Int), ()), ())) else (some (((-1:Int), ()), ()))) else (if y2.1.1 = true then (some (((1:Int), ()), ())) else (if (decide (x.1 < x.2.1)) = true then (some (((-1:Int), ()), ())) else (if (decide (x.2.1 < x.1)) = true then (some (((1:Int), ()), ())) else (some (((0:Int), ()), ()))))))))
def h70 : Hints := ⟨[], []⟩
def ft70 (n : Nat) : List (Nat × FEnt) := [(112, ⟨s112, f_cmp_isNaN_int64 n⟩)]
def c70 (n : Nat) : Ctx := ⟨20, find? tys, find? (ft70 n), gls, [], [], []⟩
theorem e70 (n x) : execFn (c70 n) h70 n Go.Proofs.Tryz.f70 s70 x = f_cmp_Compare_int64 n x := by kernel_rfl
theorem S70 (A : Amb) (n : Nat) : Sound A P (c70 n) 70 s70 (f_cmp_Compare_int64 n) :=
  execFn_sound mixed (tab rfl) (ft_all (C := c70 n) (l := ft70 n) rfl ⟨⟨call112, (S112 A n).of rfl⟩, trivial⟩) fn70 fun x y h => (e70 n x).trans h
def s31 : Sig := ⟨[.val (.st (.pair tI (.pair tI (.pair .str .unit)))), .val (.st (.pair tI (.pair tI (.pair .str .unit))))], [.val tI]⟩
/-- rabbet/value.Compare -/
def f_value_Compare (n : Nat) (x : (Int × Int × List Int × Unit) × (Int × Int × List Int × Unit) × Unit) : Option ((Int × Unit) × (Unit)) :=
  ((f_value_rank n (x.1, ())).bind fun (y1 : (Int × Unit) × (Unit)) => ((f_value_rank n (x.2.1, ())).bind fun (y2 : (Int × Unit) × (Unit)) => ((f_cmp_Compare_int n (y1.1.1, y2.1.1, ())).bind fun (y3 : (Int × Unit) × (Unit)) => (if (!decide (y3.1.1 = (0:Int))) = true then (some ((y3.1.1, ()), ())) else (if (decide (x.1.1 = (0:Int))) = true then (some ((y3.1.1, ()), ())) else (if (decide (x.1.1 = (4:Int))) = true then ((f_strings_Compare n (x.1.2.2.1, x.2.1.2.2.1, ())).bind fun (y4 : (Int × Unit) × (Unit)) => (some ((y4.1.1, ()), ()))) else ((f_cmp_Compare_int64 n (x.1.2.1, x.2.1.2.1, ())).bind fun (y5 : (Int × Unit) × (Unit)) => (some ((y5.1.1, ()), ())))))))))
def h31 : Hints := ⟨[], []⟩
def ft31 (n : Nat) : List (Nat × FEnt) := [(67, ⟨s67, f_cmp_Compare_int n⟩), (68, ⟨s68, f_value_rank n⟩), (69, ⟨s69, f_strings_Compare n⟩), (70, ⟨s70, f_cmp_Compare_int64 n⟩)]
def c31 (n : Nat) : Ctx := ⟨32, find? tys, find? (ft31 n), gls, [], [2, 3], []⟩
theorem e31 (n x) : execFn (c31 n) h31 n Go.Proofs.Tryz.f31 s31 x = f_value_Compare n x := by kernel_rfl
theorem S31 (A : Amb) (n : Nat) : Sound A P (c31 n) 31 s31 (f_value_Compare n) :=
  execFn_sound mixed (tab rfl) (ft_all (C := c31 n) (l := ft31 n) rfl ⟨⟨call67, (S67 A n).of rfl⟩, ⟨call68, (S68 A n).of rfl⟩, ⟨call69, (S69 A n).of rfl⟩, ⟨call70, (S70 A n).of rfl⟩, trivial⟩) fn31 fun x y h => (e31 n x).trans h
def s33 : Sig := ⟨[.val tU], [.val (.sl .own 1 tB)]⟩
/-- rabbet/num.Put -/
def f_num_Put (n : Nat) (x : Int × Unit) : Option ((List Int × Unit) × (Unit)) :=
  (iterF (fun rec2 (s1 : Int × List Int) => (if (decide ((127:Int) < s1.1)) = true then (if (s1.2.length + [(bits .or .u8 (IntKind.u8.wrap s1.1) (128:Int))].length) * 1 ≤ room then (rec2 ((s1.1.fdiv (2 ^ min (7:Int).toNat IntKind.u64.bits)), (s1.2 ++ [(bits .or .u8 (IntKind.u8.wrap s1.1) (128:Int))]))) else none) else (if (s1.2.length + [(IntKind.u8.wrap s1.1)].length) * 1 ≤ room then (some (((s1.2 ++ [(IntKind.u8.wrap s1.1)]), ()), ())) else none))) n (x.1, []))
def h33 : Hints := ⟨[(0, ⟨[(0, .val tU), (2, .val (.sl .own 1 tB))], [], []⟩)], []⟩
def ft33 (n : Nat) : List (Nat × FEnt) := []
def c33 (n : Nat) : Ctx := ⟨18, find? tys, find? (ft33 n), gls, [], [], []⟩
theorem e33 (n x) : execFn (c33 n) h33 n Go.Proofs.Tryz.f33 s33 x = f_num_Put n x := by kernel_rfl
theorem fn33 : P.funcs[33]? = some Go.Proofs.Tryz.f33 := by kernel_rfl
theorem call33 : Callable P 33 := callB_ok (by kernel_rfl)
theorem S33 (A : Amb) (n : Nat) : Sound A P (c33 n) 33 s33 (f_num_Put n) :=
  execFn_sound mixed (tab rfl) (ft_all (C := c33 n) (l := ft33 n) rfl trivial) fn33 fun x y h => (e33 n x).trans h
def s71 : Sig := ⟨[.val tI], [.val tU]⟩
/-- rabbet/num.Zig -/
def f_num_Zig (n : Nat) (x : Int × Unit) : Option ((Int × Unit) × (Unit)) :=
  (some (((bits .xor .u64 (IntKind.u64.wrap ((IntKind.u64.wrap x.1) * 2 ^ min (1:Int).toNat IntKind.u64.bits)) (IntKind.u64.wrap (x.1.fdiv (2 ^ min (63:Int).toNat IntKind.i64.bits)))), ()), ()))
def h71 : Hints := ⟨[], []⟩
def ft71 (n : Nat) : List (Nat × FEnt) := []
def c71 (n : Nat) : Ctx := ⟨10, find? tys, find? (ft71 n), gls, [], [], []⟩
theorem e71 (n x) : execFn (c71 n) h71 n Go.Proofs.Tryz.f71 s71 x = f_num_Zig n x := by kernel_rfl
theorem fn71 : P.funcs[71]? = some Go.Proofs.Tryz.f71 := by kernel_rfl
theorem call71 : Callable P 71 := callB_ok (by kernel_rfl)
theorem S71 (A : Amb) (n : Nat) : Sound A P (c71 n) 71 s71 (f_num_Zig n) :=
  execFn_sound mixed (tab rfl) (ft_all (C := c71 n) (l := ft71 n) rfl trivial) fn71 fun x y h => (e71 n x).trans h
def s34 : Sig := ⟨[.val (.sl .own 1 tB), .val (.st (.pair tI (.pair tI (.pair .str .unit))))], [.val (.sl .own 1 tB)]⟩
/-- rabbet/dict.one -/
def f_dict_one (n : Nat) (x : List Int × (Int × Int × List Int × Unit) × Unit) : Option ((List Int × Unit) × (Unit)) :=
  (if (decide (x.2.1.1 = (3:Int))) = true then (if (x.1.length + [(IntKind.u8.wrap x.2.1.2.1)].length) * 1 ≤ room then (some (((x.1 ++ [(IntKind.u8.wrap x.2.1.2.1)]), ()), ())) else none) else (if (decide (x.2.1.1 = (4:Int))) = true then (if (x.1.length + [(IntKind.u8.wrap (x.2.1.2.2.1.length : Int))].length) * 1 ≤ room then (if ((x.1 ++ [(IntKind.u8.wrap (x.2.1.2.2.1.length : Int))]).length + x.2.1.2.2.1.length) * 1 ≤ room then (some ((((x.1 ++ [(IntKind.u8.wrap (x.2.1.2.2.1.length : Int))]) ++ x.2.1.2.2.1), ()), ())) else none) else none) else ((f_num_Zig n (x.2.1.2.1, ())).bind fun (y1 : (Int × Unit) × (Unit)) => ((f_num_Put n (y1.1.1, ())).bind fun (y2 : (List Int × Unit) × (Unit)) => (if (x.1.length + y2.1.1.length) * 1 ≤ room then (some (((x.1 ++ y2.1.1), ()), ())) else none)))))
def h34 : Hints := ⟨[], []⟩
def ft34 (n : Nat) : List (Nat × FEnt) := [(33, ⟨s33, f_num_Put n⟩), (71, ⟨s71, f_num_Zig n⟩)]
def c34 (n : Nat) : Ctx := ⟨33, find? tys, find? (ft34 n), gls, [], [3], []⟩
theorem e34 (n x) : execFn (c34 n) h34 n Go.Proofs.Tryz.f34 s34 x = f_dict_one n x := by kernel_rfl
theorem fn34 : P.funcs[34]? = some Go.Proofs.Tryz.f34 := by kernel_rfl
theorem call34 : Callable P 34 := callB_ok (by kernel_rfl)
theorem S34 (A : Amb) (n : Nat) : Sound A P (c34 n) 34 s34 (f_dict_one n) :=
  execFn_sound mixed (tab rfl) (ft_all (C := c34 n) (l := ft34 n) rfl ⟨⟨call33, (S33 A n).of rfl⟩, ⟨call71, (S71 A n).of rfl⟩, trivial⟩) fn34 fun x y h => (e34 n x).trans h
def s35 : Sig := ⟨[.val (.sl .imm 32 (.st (.pair tI (.pair tI (.pair .str .unit))))), .val (.st (.pair tI (.pair tI (.pair .str .unit)))), .val (.fn2 (.st (.pair tI (.pair tI (.pair .str .unit)))) (.st (.pair tI (.pair tI (.pair .str .unit)))) tI)], [.val tI, .val .bool]⟩
/-- slices.BinarySearchFunc[[]rabbet/api.Value,rabbet/api.Value,rabbet/api.Value] -/
def f_slices_BinarySearchFunc_Lapi_Value_api_Value_api_Value (n : Nat) (x : (List (Int × Int × List Int × Unit)) × (Int × Int × List Int × Unit) × (((Int × Int × List Int × Unit) → (Int × Int × List Int × Unit) → Option (Int))) × Unit) : Option ((Int × Bool × Unit) × (Unit)) :=
  (iterF (fun rec2 (s1 : Int × Int) => (if (decide (s1.1 < s1.2)) = true then (atI (IntKind.i64.wrap ((IntKind.u64.wrap (IntKind.i64.wrap (s1.1 + s1.2))).fdiv (2 ^ min (1:Int).toNat IntKind.u64.bits))) x.1.length ((x.2.2.1 (x.1.getD (IntKind.i64.wrap ((IntKind.u64.wrap (IntKind.i64.wrap (s1.1 + s1.2))).fdiv (2 ^ min (1:Int).toNat IntKind.u64.bits))).toNat ((0:Int), (0:Int), [], ())) x.2.1).bind fun y3 => (if (decide (y3 < (0:Int))) = true then (rec2 ((IntKind.i64.wrap ((IntKind.i64.wrap ((IntKind.u64.wrap (IntKind.i64.wrap (s1.1 + s1.2))).fdiv (2 ^ min (1:Int).toNat IntKind.u64.bits))) + (1:Int))), s1.2)) else (rec2 (s1.1, (IntKind.i64.wrap ((IntKind.u64.wrap (IntKind.i64.wrap (s1.1 + s1.2))).fdiv (2 ^ min (1:Int).toNat IntKind.u64.bits)))))))) else (if (decide (s1.1 < (x.1.length : Int))) = true then (atI s1.1 x.1.length ((x.2.2.1 (x.1.getD s1.1.toNat ((0:Int), (0:Int), [], ())) x.2.1).bind fun y4 => (some ((s1.1, (decide (y4 = (0:Int))), ()), ())))) else (some ((s1.1, false, ()), ()))))) n ((0:Int), (x.1.length : Int)))
def h35 : Hints := ⟨[(0, ⟨[(9, .val tI), (10, .val tI)], [0, 2, 4, 8], []⟩)], []⟩
def ft35 (n : Nat) : List (Nat × FEnt) := []
def c35 (n : Nat) : Ctx := ⟨49, find? tys, find? (ft35 n), gls, [], [4], []⟩
theorem e35 (n x) : execFn (c35 n) h35 n Go.Proofs.Tryz.f35 s35 x = f_slices_BinarySearchFunc_Lapi_Value_api_Value_api_Value n x := by kernel_rfl
theorem fn35 : P.funcs[35]? = some Go.Proofs.Tryz.f35 := by kernel_rfl
theorem call35 : Callable P 35 := callB_ok (by kernel_rfl)
theorem S35 (A : Amb) (n : Nat) : Sound A P (c35 n) 35 s35 (f_slices_BinarySearchFunc_Lapi_Value_api_Value_api_Value n) :=
  execFn_sound mixed (tab rfl) (ft_all (C := c35 n) (l := ft35 n) rfl trivial) fn35 fun x y h => (e35 n x).trans h
def s109 : Sig := ⟨[.val tU], [.val tI]⟩
/-- math/bits.Len64 -/
def f_math_bits_Len64 (n : Nat) (x : Int × Unit) : Option ((Int × Unit) × (Unit)) :=
  (joinF (fun (s1 : Int × Int) => (joinF (fun (s3 : Int × Int) => (if (decide ((256:Int) ≤ s3.1)) = true then (atI (IntKind.u8.wrap (s3.1.fdiv (2 ^ min (8:Int).toNat IntKind.u64.bits))) lt_8163acee.length (some (((IntKind.i64.wrap ((IntKind.i64.wrap (s3.2 + (8:Int))) + (IntKind.i64.wrap (lt_8163acee.getD (IntKind.u8.wrap (s3.1.fdiv (2 ^ min (8:Int).toNat IntKind.u64.bits))).toNat (0:Int))))), ()), ()))) else (atI (IntKind.u8.wrap s3.1) lt_8163acee.length (some (((IntKind.i64.wrap (s3.2 + (IntKind.i64.wrap (lt_8163acee.getD (IntKind.u8.wrap s3.1).toNat (0:Int))))), ()), ()))))) fun J4 => (if (decide ((65536:Int) ≤ s1.1)) = true then (J4 ((s1.1.fdiv (2 ^ min (16:Int).toNat IntKind.u64.bits)), (IntKind.i64.wrap (s1.2 + (16:Int))))) else (J4 (s1.1, s1.2))))) fun J2 => (if (decide ((4294967296:Int) ≤ x.1)) = true then (J2 ((x.1.fdiv (2 ^ min (32:Int).toNat IntKind.u64.bits)), (32:Int))) else (J2 (x.1, (0:Int)))))
def h109 : Hints := ⟨[], [(8, ⟨[(0, .val tU), (2, .val tI)], [], []⟩), (14, ⟨[(0, .val tU), (2, .val tI)], [], []⟩)]⟩
def ft109 (n : Nat) : List (Nat × FEnt) := []
def c109 (n : Nat) : Ctx := ⟨25, find? tys, find? (ft109 n), gls, [], [], []⟩
theorem e109 (n x) : execFn (c109 n) h109 n Go.Proofs.Tryz.f109 s109 x = f_math_bits_Len64 n x := by kernel_rfl
theorem fn109 : P.funcs[109]? = some Go.Proofs.Tryz.f109 := by kernel_rfl
theorem call109 : Callable P 109 := callB_ok (by kernel_rfl)
theorem S109 (A : Amb) (n : Nat) : Sound A P (c109 n) 109 s109 (f_math_bits_Len64 n) :=
  execFn_sound mixed (tab rfl) (ft_all (C := c109 n) (l := ft109 n) rfl trivial) fn109 fun x y h => (e109 n x).trans h
def s72 : Sig := ⟨[.val (.sl .imm 8 tU)], [.val tI]⟩
/-- rabbet/bits.Width -/
def f_bits_Width (n : Nat) (x : List Int × Unit) : Option ((Int × Unit) × (Unit)) :=
  (iterF (fun rec2 (s1 : Int × Int) => (if (decide (s1.2 < (x.1.length : Int))) = true then (atI s1.2 x.1.length ((f_math_bits_Len64 n ((x.1.getD s1.2.toNat (0:Int)), ())).bind fun (y3 : (Int × Unit) × (Unit)) => (rec2 ((if y3.1.1 ≤ s1.1 then s1.1 else y3.1.1), (IntKind.i64.wrap (s1.2 + (1:Int))))))) else (some ((s1.1, ()), ())))) n ((0:Int), (0:Int)))
def h72 : Hints := ⟨[(0, ⟨[(2, .val tI), (7, .val tI)], [5, 6], []⟩)], []⟩
def ft72 (n : Nat) : List (Nat × FEnt) := [(109, ⟨s109, f_math_bits_Len64 n⟩)]
def c72 (n : Nat) : Ctx := ⟨17, find? tys, find? (ft72 n), gls, [], [], []⟩
theorem e72 (n x) : execFn (c72 n) h72 n Go.Proofs.Tryz.f72 s72 x = f_bits_Width n x := by kernel_rfl
theorem fn72 : P.funcs[72]? = some Go.Proofs.Tryz.f72 := by kernel_rfl
theorem call72 : Callable P 72 := callB_ok (by kernel_rfl)
theorem S72 (A : Amb) (n : Nat) : Sound A P (c72 n) 72 s72 (f_bits_Width n) :=
  execFn_sound mixed (tab rfl) (ft_all (C := c72 n) (l := ft72 n) rfl ⟨⟨call109, (S109 A n).of rfl⟩, trivial⟩) fn72 fun x y h => (e72 n x).trans h
def s73 : Sig := ⟨[.val tI], [.val tI]⟩
/-- rabbet/bits.size -/
def f_bits_size (n : Nat) (x : Int × Unit) : Option ((Int × Unit) × (Unit)) :=
  (some (((IntKind.i64.wrap ((IntKind.i64.wrap (x.1 + (7:Int))).tdiv (8:Int))), ()), ()))
def h73 : Hints := ⟨[], []⟩
def ft73 (n : Nat) : List (Nat × FEnt) := []
def c73 (n : Nat) : Ctx := ⟨6, find? tys, find? (ft73 n), gls, [], [], []⟩
theorem e73 (n x) : execFn (c73 n) h73 n Go.Proofs.Tryz.f73 s73 x = f_bits_size n x := by kernel_rfl
theorem fn73 : P.funcs[73]? = some Go.Proofs.Tryz.f73 := by kernel_rfl
theorem call73 : Callable P 73 := callB_ok (by kernel_rfl)
theorem S73 (A : Amb) (n : Nat) : Sound A P (c73 n) 73 s73 (f_bits_size n) :=
  execFn_sound mixed (tab rfl) (ft_all (C := c73 n) (l := ft73 n) rfl trivial) fn73 fun x y h => (e73 n x).trans h
def s36 : Sig := ⟨[.val (.sl .imm 8 tU), .val tI], [.val (.sl .imm 1 tB), .val .bool]⟩
/-- rabbet/bits.Put -/
def f_bits_Put (n : Nat) (x : List Int × Int × Unit) : Option ((List Int × Bool × Unit) × (Unit)) :=
  (if (decide (x.2.1 < (0:Int))) = true then (some (([], false, ()), ())) else (if (decide ((64:Int) < x.2.1)) = true then (some (([], false, ()), ())) else ((f_bits_Width n (x.1, ())).bind fun (y1 : (Int × Unit) × (Unit)) => (if (decide (x.2.1 < y1.1.1)) = true then (some (([], false, ()), ())) else ((f_bits_size n ((IntKind.i64.wrap ((x.1.length : Int) * x.2.1)), ())).bind fun (y2 : (Int × Unit) × (Unit)) => (if 0 ≤ y2.1.1 ∧ y2.1.1 ≤ y2.1.1 ∧ y2.1.1 * 1 ≤ room then (iterF (fun rec4 (s3 : List Int × Int) => (if (decide (s3.2 < (x.1.length : Int))) = true then (atI s3.2 x.1.length (iterF (fun rec6 (s5 : List Int × Int) => (if (decide (s5.2 < x.2.1)) = true then (atI (IntKind.i64.wrap ((IntKind.i64.wrap ((IntKind.i64.wrap (s3.2 * x.2.1)) + s5.2)).tdiv (8:Int))) s5.1.length (if s5.2 < 0 then none else (if ((IntKind.i64.wrap ((IntKind.i64.wrap (s3.2 * x.2.1)) + s5.2)).tmod (8:Int)) < 0 then none else (atI (IntKind.i64.wrap ((IntKind.i64.wrap ((IntKind.i64.wrap (s3.2 * x.2.1)) + s5.2)).tdiv (8:Int))) s5.1.length (rec6 ((s5.1.set (IntKind.i64.wrap ((IntKind.i64.wrap ((IntKind.i64.wrap (s3.2 * x.2.1)) + s5.2)).tdiv (8:Int))).toNat (bits .or .u8 (s5.1.getD (IntKind.i64.wrap ((IntKind.i64.wrap ((IntKind.i64.wrap (s3.2 * x.2.1)) + s5.2)).tdiv (8:Int))).toNat (0:Int)) (IntKind.u8.wrap ((IntKind.u8.wrap (bits .and .u64 ((x.1.getD s3.2.toNat (0:Int)).fdiv (2 ^ min s5.2.toNat IntKind.u64.bits)) (1:Int))) * 2 ^ min ((IntKind.i64.wrap ((IntKind.i64.wrap (s3.2 * x.2.1)) + s5.2)).tmod (8:Int)).toNat IntKind.u8.bits)))), (IntKind.i64.wrap (s5.2 + (1:Int))))))))) else (rec4 (s5.1, (IntKind.i64.wrap (s3.2 + (1:Int))))))) n (s3.1, (0:Int)))) else (some ((s3.1, true, ()), ())))) n ((List.replicate y2.1.1.toNat (0:Int)), (0:Int))) else none))))))
def h36 : Hints := ⟨[(5, ⟨[(6, .val (.sl .own 1 tB)), (37, .val tI)], [1, 7, 8, 29, 30, 31, 36], []⟩), (3, ⟨[(6, .val (.sl .own 1 tB)), (31, .val tI)], [1, 29, 30], []⟩)], []⟩
def ft36 (n : Nat) : List (Nat × FEnt) := [(72, ⟨s72, f_bits_Width n⟩), (73, ⟨s73, f_bits_size n⟩)]
def c36 (n : Nat) : Ctx := ⟨63, find? tys, find? (ft36 n), gls, [], [], []⟩
theorem e36 (n x) : execFn (c36 n) h36 n Go.Proofs.Tryz.f36 s36 x = f_bits_Put n x := by kernel_rfl
theorem fn36 : P.funcs[36]? = some Go.Proofs.Tryz.f36 := by kernel_rfl
theorem call36 : Callable P 36 := callB_ok (by kernel_rfl)
theorem S36 (A : Amb) (n : Nat) : Sound A P (c36 n) 36 s36 (f_bits_Put n) :=
  execFn_sound mixed (tab rfl) (ft_all (C := c36 n) (l := ft36 n) rfl ⟨⟨call72, (S72 A n).of rfl⟩, ⟨call73, (S73 A n).of rfl⟩, trivial⟩) fn36 fun x y h => (e36 n x).trans h
def s37 : Sig := ⟨[.val tI], [.val tI]⟩
/-- rabbet/dict.width -/
def f_dict_width (n : Nat) (x : Int × Unit) : Option ((Int × Unit) × (Unit)) :=
  ((f_bits_Width n ([(IntKind.u64.wrap (if (0:Int) ≤ (IntKind.i64.wrap (x.1 - (1:Int))) then (IntKind.i64.wrap (x.1 - (1:Int))) else (0:Int)))], ())).bind fun (y1 : (Int × Unit) × (Unit)) => (some ((y1.1.1, ()), ())))
def h37 : Hints := ⟨[], []⟩
def ft37 (n : Nat) : List (Nat × FEnt) := [(72, ⟨s72, f_bits_Width n⟩)]
def c37 (n : Nat) : Ctx := ⟨9, find? tys, find? (ft37 n), gls, [], [], []⟩
theorem e37 (n x) : execFn (c37 n) h37 n Go.Proofs.Tryz.f37 s37 x = f_dict_width n x := by kernel_rfl
theorem fn37 : P.funcs[37]? = some Go.Proofs.Tryz.f37 := by kernel_rfl
theorem call37 : Callable P 37 := callB_ok (by kernel_rfl)
theorem S37 (A : Amb) (n : Nat) : Sound A P (c37 n) 37 s37 (f_dict_width n) :=
  execFn_sound mixed (tab rfl) (ft_all (C := c37 n) (l := ft37 n) rfl ⟨⟨call72, (S72 A n).of rfl⟩, trivial⟩) fn37 fun x y h => (e37 n x).trans h
def s11 : Sig := ⟨[.val tI, .val (.sl .imm 32 (.st (.pair tI (.pair tI (.pair .str .unit)))))], [.val (.sl .own 1 tB), .val .bool]⟩
/-- rabbet/dict.Put -/
def f_dict_Put (n : Nat) (x : Int × (List (Int × Int × List Int × Unit)) × Unit) : Option ((List Int × Bool × Unit) × (Unit)) :=
  ((f_dict_of n (x.1, x.2.1, ())).bind fun (y1 : (Bool × Unit) × (Unit)) => (if (!y1.1.1) = true then (some (([], false, ()), ())) else ((f_slices_Clone_Lapi_Value_api_Value n (x.2.1, ())).bind fun (y2 : ((List (Int × Int × List Int × Unit)) × Unit) × (Unit)) => ((f_slices_SortFunc_Lapi_Value_api_Value n (y2.1.1, (), ())).bind fun (y3 : (Unit) × ((List (Int × Int × List Int × Unit)) × Unit)) => ((f_slices_Compact_Lapi_Value_api_Value n (y3.2.1, ())).bind fun (y4 : ((List (Int × Int × List Int × Unit)) × Unit) × (Unit)) => ((f_num_Put n ((IntKind.u64.wrap (y4.1.1.length : Int)), ())).bind fun (y5 : (List Int × Unit) × (Unit)) => (iterF (fun rec7 (s6 : List Int × Int) => (if (decide (s6.2 < (y4.1.1.length : Int))) = true then (atI s6.2 y4.1.1.length ((f_dict_one n (s6.1, (y4.1.1.getD s6.2.toNat ((0:Int), (0:Int), [], ())), ())).bind fun (y8 : (List Int × Unit) × (Unit)) => (rec7 (y8.1.1, (IntKind.i64.wrap (s6.2 + (1:Int))))))) else (iterF (fun rec10 (s9 : List Int × Int) => (if (decide (s9.2 < (x.2.1.length : Int))) = true then (atI s9.2 x.2.1.length ((f_slices_BinarySearchFunc_Lapi_Value_api_Value_api_Value n (y4.1.1, (x.2.1.getD s9.2.toNat ((0:Int), (0:Int), [], ())), (fun c d => (f_value_Compare n (c, d, ())).bind fun r => some r.1.1), ())).bind fun (y11 : (Int × Bool × Unit) × (Unit)) => (if (s9.1.length + [(IntKind.u64.wrap y11.1.1)].length) * 8 ≤ room then (rec10 ((s9.1 ++ [(IntKind.u64.wrap y11.1.1)]), (IntKind.i64.wrap (s9.2 + (1:Int))))) else none))) else ((f_dict_width n ((y4.1.1.length : Int), ())).bind fun (y12 : (Int × Unit) × (Unit)) => ((f_bits_Put n (s9.1, y12.1.1, ())).bind fun (y13 : (List Int × Bool × Unit) × (Unit)) => (if (s6.1.length + y13.1.1.length) * 1 ≤ room then (some (((s6.1 ++ y13.1.1), y13.1.2.1, ()), ())) else none))))) n ([], (0:Int))))) n (y5.1.1, (0:Int)))))))))
def h11 : Hints := ⟨[(0, ⟨[(7, .val (.sl .own 1 tB)), (33, .val tI)], [1, 6, 32, 31], []⟩), (2, ⟨[(10, .val (.sl .own 8 tU)), (43, .val tI)], [6, 41, 42], [7]⟩)], []⟩
def ft11 (n : Nat) : List (Nat × FEnt) := [(28, ⟨s28, f_dict_of n⟩), (29, ⟨s29, f_slices_Clone_Lapi_Value_api_Value n⟩), (30, ⟨s30, f_slices_SortFunc_Lapi_Value_api_Value n⟩), (31, ⟨s31, f_value_Compare n⟩), (32, ⟨s32, f_slices_Compact_Lapi_Value_api_Value n⟩), (33, ⟨s33, f_num_Put n⟩), (34, ⟨s34, f_dict_one n⟩), (35, ⟨s35, f_slices_BinarySearchFunc_Lapi_Value_api_Value_api_Value n⟩), (36, ⟨s36, f_bits_Put n⟩), (37, ⟨s37, f_dict_width n⟩)]
def c11 (n : Nat) : Ctx := ⟨71, find? tys, find? (ft11 n), gls, [], [], []⟩
theorem e11 (n x) : execFn (c11 n) h11 n Go.Proofs.Tryz.f11 s11 x = f_dict_Put n x := by kernel_rfl
theorem fn11 : P.funcs[11]? = some Go.Proofs.Tryz.f11 := by kernel_rfl
theorem call11 : Callable P 11 := callB_ok (by kernel_rfl)
theorem S11 (A : Amb) (n : Nat) : Sound A P (c11 n) 11 s11 (f_dict_Put n) :=
  execFn_sound mixed (tab rfl) (ft_all (C := c11 n) (l := ft11 n) rfl ⟨⟨call28, (S28 A n).of rfl⟩, ⟨call29, (S29 A n).of rfl⟩, ⟨call30, (S30 A n).of rfl⟩, ⟨call31, (S31 A n).of rfl⟩, ⟨call32, (S32 A n).of rfl⟩, ⟨call33, (S33 A n).of rfl⟩, ⟨call34, (S34 A n).of rfl⟩, ⟨call35, (S35 A n).of rfl⟩, ⟨call36, (S36 A n).of rfl⟩, ⟨call37, (S37 A n).of rfl⟩, trivial⟩) fn11 fun x y h => (e11 n x).trans h
def s60 : Sig := ⟨[.val (.sl .imm 1 tB), .val (.sl .imm 1 tB)], [.val .bool]⟩
/-- bytes.Equal -/
def f_bytes_Equal (n : Nat) (x : List Int × List Int × Unit) : Option ((Bool × Unit) × (Unit)) :=
  (some (((decide (x.1 = x.2.1)), ()), ()))
def h60 : Hints := ⟨[], []⟩
def ft60 (n : Nat) : List (Nat × FEnt) := []
def c60 (n : Nat) : Ctx := ⟨10, find? tys, find? (ft60 n), gls, [], [], []⟩
theorem e60 (n x) : execFn (c60 n) h60 n Go.Proofs.Tryz.f60 s60 x = f_bytes_Equal n x := by kernel_rfl
theorem fn60 : P.funcs[60]? = some Go.Proofs.Tryz.f60 := by kernel_rfl
theorem call60 : Callable P 60 := callB_ok (by kernel_rfl)
theorem S60 (A : Amb) (n : Nat) : Sound A P (c60 n) 60 s60 (f_bytes_Equal n) :=
  execFn_sound mixed (tab rfl) (ft_all (C := c60 n) (l := ft60 n) rfl trivial) fn60 fun x y h => (e60 n x).trans h
def s114 : Sig := ⟨[.val (.sl .imm 1 tB)], [.val tU, .val tI, .val .err]⟩
/-- rabbet/num.read -/
def f_num_read (n : Nat) (x : List Int × Unit) : Option ((Int × Int × UV × Unit) × (Unit)) :=
  (iterF (fun rec2 (s1 : Int × Int) => (if (decide (s1.2 < (10:Int))) = true then (if (decide (s1.2 = (x.1.length : Int))) = true then (some (((0:Int), (0:Int), (UV.node t_num_wrap (.pair (.str [98, 121, 116, 101]) (.pair (UV.sent g_num_errShort) .unit))), ()), ())) else (atI s1.2 x.1.length (if (IntKind.i64.wrap ((7:Int) * s1.2)) < 0 then none else (if (decide ((bits .and .u8 (x.1.getD s1.2.toNat (0:Int)) (128:Int)) = (0:Int))) = true then (if (decide ((0:Int) < s1.2)) = true then (if (decide ((x.1.getD s1.2.toNat (0:Int)) = (0:Int))) = true then (some (((0:Int), (0:Int), (UV.node t_num_wrap (.pair (.str [98, 121, 116, 101]) (.pair (UV.sent g_num_errLong) .unit))), ()), ())) else (if (decide (s1.2 = (9:Int))) = true then (if (decide ((1:Int) < (x.1.getD s1.2.toNat (0:Int)))) = true then (some (((0:Int), (0:Int), (UV.node t_num_wrap (.pair (.str [98, 121, 116, 101]) (.pair (UV.sent g_num_errLong) .unit))), ()), ())) else (some (((bits .or .u64 s1.1 (IntKind.u64.wrap ((IntKind.u64.wrap (bits .and .u8 (x.1.getD s1.2.toNat (0:Int)) (127:Int))) * 2 ^ min (IntKind.i64.wrap ((7:Int) * s1.2)).toNat IntKind.u64.bits))), (IntKind.i64.wrap (s1.2 + (1:Int))), UV.nil, ()), ()))) else (some (((bits .or .u64 s1.1 (IntKind.u64.wrap ((IntKind.u64.wrap (bits .and .u8 (x.1.getD s1.2.toNat (0:Int)) (127:Int))) * 2 ^ min (IntKind.i64.wrap ((7:Int) * s1.2)).toNat IntKind.u64.bits))), (IntKind.i64.wrap (s1.2 + (1:Int))), UV.nil, ()), ())))) else (if (decide (s1.2 = (9:Int))) = true then (if (decide ((1:Int) < (x.1.getD s1.2.toNat (0:Int)))) = true then (some (((0:Int), (0:Int), (UV.node t_num_wrap (.pair (.str [98, 121, 116, 101]) (.pair (UV.sent g_num_errLong) .unit))), ()), ())) else (some (((bits .or .u64 s1.1 (IntKind.u64.wrap ((IntKind.u64.wrap (bits .and .u8 (x.1.getD s1.2.toNat (0:Int)) (127:Int))) * 2 ^ min (IntKind.i64.wrap ((7:Int) * s1.2)).toNat IntKind.u64.bits))), (IntKind.i64.wrap (s1.2 + (1:Int))), UV.nil, ()), ()))) else (some (((bits .or .u64 s1.1 (IntKind.u64.wrap ((IntKind.u64.wrap (bits .and .u8 (x.1.getD s1.2.toNat (0:Int)) (127:Int))) * 2 ^ min (IntKind.i64.wrap ((7:Int) * s1.2)).toNat IntKind.u64.bits))), (IntKind.i64.wrap (s1.2 + (1:Int))), UV.nil, ()), ())))) else (rec2 ((bits .or .u64 s1.1 (IntKind.u64.wrap ((IntKind.u64.wrap (bits .and .u8 (x.1.getD s1.2.toNat (0:Int)) (127:Int))) * 2 ^ min (IntKind.i64.wrap ((7:Int) * s1.2)).toNat IntKind.u64.bits))), (IntKind.i64.wrap (s1.2 + (1:Int))))))))) else (some (((0:Int), (0:Int), (UV.node t_num_wrap (.pair (.str [98, 121, 116, 101]) (.pair (UV.sent g_num_errLong) .unit))), ()), ())))) n ((0:Int), (0:Int)))
def h114 : Hints := ⟨[(0, ⟨[(2, .val tU), (3, .val tI)], [0], []⟩)], []⟩
def ft114 (n : Nat) : List (Nat × FEnt) := []
def c114 (n : Nat) : Ctx := ⟨52, find? tys, find? (ft114 n), gls, [], [], []⟩
theorem e114 (n x) : execFn (c114 n) h114 n Go.Proofs.Tryz.f114 s114 x = f_num_read n x := by kernel_rfl
theorem fn114 : P.funcs[114]? = some Go.Proofs.Tryz.f114 := by kernel_rfl
theorem call114 : Callable P 114 := callB_ok (by kernel_rfl)
theorem S114 (A : Amb) (n : Nat) : Sound A P (c114 n) 114 s114 (f_num_read n) :=
  execFn_sound mixed (tab rfl) (ft_all (C := c114 n) (l := ft114 n) rfl trivial) fn114 fun x y h => (e114 n x).trans h
def s78 : Sig := ⟨[.val (.sl .imm 1 tB)], [.val tU, .val tI, .val .bool]⟩
/-- rabbet/num.Take -/
def f_num_Take (n : Nat) (x : List Int × Unit) : Option ((Int × Int × Bool × Unit) × (Unit)) :=
  ((f_num_read n (x.1, ())).bind fun (y1 : (Int × Int × UV × Unit) × (Unit)) => ((f_errors_Is n (y1.1.2.2.1, (UV.sent g_num_errShort), ())).bind fun (y2 : (Bool × Unit) × (Unit)) => (if (!y2.1.1) = true then ((f_errors_Is n (y1.1.2.2.1, (UV.sent g_num_errLong), ())).bind fun (y3 : (Bool × Unit) × (Unit)) => (some ((y1.1.1, y1.1.2.1, (!y3.1.1), ()), ()))) else (some ((y1.1.1, y1.1.2.1, false, ()), ())))))
def h78 : Hints := ⟨[], []⟩
def ft78 (n : Nat) : List (Nat × FEnt) := [(46, ⟨s46, f_errors_Is n⟩), (114, ⟨s114, f_num_read n⟩)]
def c78 (n : Nat) : Ctx := ⟨24, find? tys, find? (ft78 n), gls, [], [], []⟩
theorem e78 (n x) : execFn (c78 n) h78 n Go.Proofs.Tryz.f78 s78 x = f_num_Take n x := by kernel_rfl
theorem fn78 : P.funcs[78]? = some Go.Proofs.Tryz.f78 := by kernel_rfl
theorem call78 : Callable P 78 := callB_ok (by kernel_rfl)
theorem S78 (A : Amb) (hA : HA A) (n : Nat) : Sound A P (c78 n) 78 s78 (f_num_Take n) :=
  execFn_sound mixed (tab rfl) (ft_all (C := c78 n) (l := ft78 n) rfl ⟨⟨call46, (S46 A hA n).of rfl⟩, ⟨call114, (S114 A n).of rfl⟩, trivial⟩) fn78 fun x y h => (e78 n x).trans h
def s115 : Sig := ⟨[.val tU], [.val tI]⟩
/-- rabbet/num.Zag -/
def f_num_Zag (n : Nat) (x : Int × Unit) : Option ((Int × Unit) × (Unit)) :=
  (some (((bits .xor .i64 (IntKind.i64.wrap (x.1.fdiv (2 ^ min (1:Int).toNat IntKind.u64.bits))) (IntKind.i64.wrap (0 - (IntKind.i64.wrap (bits .and .u64 x.1 (1:Int)))))), ()), ()))
def h115 : Hints := ⟨[], []⟩
def ft115 (n : Nat) : List (Nat × FEnt) := []
def c115 (n : Nat) : Ctx := ⟨11, find? tys, find? (ft115 n), gls, [], [], []⟩
theorem e115 (n x) : execFn (c115 n) h115 n Go.Proofs.Tryz.f115 s115 x = f_num_Zag n x := by kernel_rfl
theorem fn115 : P.funcs[115]? = some Go.Proofs.Tryz.f115 := by kernel_rfl
theorem call115 : Callable P 115 := callB_ok (by kernel_rfl)
theorem S115 (A : Amb) (n : Nat) : Sound A P (c115 n) 115 s115 (f_num_Zag n) :=
  execFn_sound mixed (tab rfl) (ft_all (C := c115 n) (l := ft115 n) rfl trivial) fn115 fun x y h => (e115 n x).trans h
def s79 : Sig := ⟨[.val tI, .val (.sl .imm 1 tB)], [.val (.st (.pair tI (.pair tI (.pair .str .unit)))), .val tI, .val .err]⟩
/-- rabbet/dict.first -/
def f_dict_first (n : Nat) (x : Int × List Int × Unit) : Option (((Int × Int × List Int × Unit) × Int × UV × Unit) × (Unit)) :=
  (joinF (fun (s1 : Int × Int × List Int × Unit) => (atI (0:Int) x.2.1.length (if (decide ((x.2.1.length : Int) < (IntKind.i64.wrap ((1:Int) + (IntKind.i64.wrap (x.2.1.getD (0:Int).toNat (0:Int))))))) = true then (some ((s1, (0:Int), (UV.node t_dict_wrap (.pair (.str [111, 102, 32, 98, 121, 116, 101, 115]) (.pair (UV.sent g_dict_errForm) .unit))), ()), ())) else (if 0 ≤ (1:Int) ∧ (1:Int) ≤ (IntKind.i64.wrap ((1:Int) + (IntKind.i64.wrap (x.2.1.getD (0:Int).toNat (0:Int))))) ∧ (IntKind.i64.wrap ((1:Int) + (IntKind.i64.wrap (x.2.1.getD (0:Int).toNat (0:Int))))) ≤ (x.2.1.length : Int) then (some (((s1.1, s1.2.1, ((x.2.1.take (IntKind.i64.wrap ((1:Int) + (IntKind.i64.wrap (x.2.1.getD (0:Int).toNat (0:Int))))).toNat).drop (1:Int).toNat), s1.2.2.2), (IntKind.i64.wrap ((1:Int) + (IntKind.i64.wrap (x.2.1.getD (0:Int).toNat (0:Int))))), UV.nil, ()), ())) else none)))) fun J2 => (if (!decide (x.1 = (3:Int))) = true then (if (!decide (x.1 = (4:Int))) = true then ((f_num_Take n (x.2.1, ())).bind fun (y3 : (Int × Int × Bool × Unit) × (Unit)) => (if (!y3.1.2.2.1) = true then (some (((x.1, (0:Int), [], ()), (0:Int), (UV.node t_dict_wrap (.pair (.str [110, 111, 32, 110, 117, 109, 98, 101, 114]) (.pair (UV.sent g_dict_errForm) .unit))), ()), ())) else ((f_num_Zag n (y3.1.1, ())).bind fun (y4 : (Int × Unit) × (Unit)) => (some (((x.1, y4.1.1, [], ()), y3.1.2.1, UV.nil, ()), ()))))) else (if (decide ((x.2.1.length : Int) = (0:Int))) = true then (some (((x.1, (0:Int), [], ()), (0:Int), (UV.node t_dict_wrap (.pair (.str [110, 111, 32, 98, 121, 116, 101]) (.pair (UV.sent g_dict_errForm) .unit))), ()), ())) else (if (decide (x.1 = (3:Int))) = true then (atI (0:Int) x.2.1.length (some (((x.1, (IntKind.i64.wrap (x.2.1.getD (0:Int).toNat (0:Int))), [], ()), (1:Int), UV.nil, ()), ()))) else (J2 (x.1, (0:Int), [], ()))))) else (if (decide ((x.2.1.length : Int) = (0:Int))) = true then (some (((x.1, (0:Int), [], ()), (0:Int), (UV.node t_dict_wrap (.pair (.str [110, 111, 32, 98, 121, 116, 101]) (.pair (UV.sent g_dict_errForm) .unit))), ()), ())) else (if (decide (x.1 = (3:Int))) = true then (atI (0:Int) x.2.1.length (some (((x.1, (IntKind.i64.wrap (x.2.1.getD (0:Int).toNat (0:Int))), [], ()), (1:Int), UV.nil, ()), ()))) else (J2 (x.1, (0:Int), [], ()))))))
def h79 : Hints := ⟨[], [(26, ⟨[(4, .box (.st (.pair tI (.pair tI (.pair .str .unit)))))], [1], []⟩)]⟩
def ft79 (n : Nat) : List (Nat × FEnt) := [(78, ⟨s78, f_num_Take n⟩), (115, ⟨s115, f_num_Zag n⟩)]
def c79 (n : Nat) : Ctx := ⟨73, find? tys, find? (ft79 n), gls, [], [], []⟩
theorem e79 (n x) : execFn (c79 n) h79 n Go.Proofs.Tryz.f79 s79 x = f_dict_first n x := by kernel_rfl
theorem fn79 : P.funcs[79]? = some Go.Proofs.Tryz.f79 := by kernel_rfl
theorem call79 : Callable P 79 := callB_ok (by kernel_rfl)
theorem S79 (A : Amb) (hA : HA A) (n : Nat) : Sound A P (c79 n) 79 s79 (f_dict_first n) :=
  execFn_sound mixed (tab rfl) (ft_all (C := c79 n) (l := ft79 n) rfl ⟨⟨call78, (S78 A hA n).of rfl⟩, ⟨call115, (S115 A n).of rfl⟩, trivial⟩) fn79 fun x y h => (e79 n x).trans h
def s80 : Sig := ⟨[.val (.sl .imm 1 tB), .val tI, .val tI], [.val (.sl .imm 8 tU), .val .bool]⟩
/-- rabbet/bits.Take -/
def f_bits_Take (n : Nat) (x : List Int × Int × Int × Unit) : Option ((List Int × Bool × Unit) × (Unit)) :=
  (if (decide (x.2.1 < (0:Int))) = true then (some (([], false, ()), ())) else (if (decide ((1000:Int) < x.2.1)) = true then (some (([], false, ()), ())) else (if (decide (x.2.2.1 < (0:Int))) = true then (some (([], false, ()), ())) else (if (decide ((64:Int) < x.2.2.1)) = true then (some (([], false, ()), ())) else ((f_bits_size n ((IntKind.i64.wrap (x.2.1 * x.2.2.1)), ())).bind fun (y1 : (Int × Unit) × (Unit)) => (if (!decide ((x.1.length : Int) = y1.1.1)) = true then (some (([], false, ()), ())) else (if 0 ≤ x.2.1 ∧ x.2.1 ≤ x.2.1 ∧ x.2.1 * 8 ≤ room then (iterF (fun rec3 (s2 : List Int × Int) => (if (decide (s2.2 < (IntKind.i64.wrap (x.2.1 * x.2.2.1)))) = true then (if x.2.2.1 = 0 then none else (atI (IntKind.i64.wrap (s2.2.tdiv x.2.2.1)) s2.1.length (atI (IntKind.i64.wrap (s2.2.tdiv (8:Int))) x.1.length (if (s2.2.tmod (8:Int)) < 0 then none else (if x.2.2.1 = 0 then none else (if (s2.2.tmod x.2.2.1) < 0 then none else (atI (IntKind.i64.wrap (s2.2.tdiv x.2.2.1)) s2.1.length (rec3 ((s2.1.set (IntKind.i64.wrap (s2.2.tdiv x.2.2.1)).toNat (bits .or .u64 (s2.1.getD (IntKind.i64.wrap (s2.2.tdiv x.2.2.1)).toNat (0:Int)) (IntKind.u64.wrap ((IntKind.u64.wrap (bits .and .u8 ((x.1.getD (IntKind.i64.wrap (s2.2.tdiv (8:Int))).toNat (0:Int)).fdiv (2 ^ min (s2.2.tmod (8:Int)).toNat IntKind.u8.bits)) (1:Int))) * 2 ^ min (s2.2.tmod x.2.2.1).toNat IntKind.u64.bits)))), (IntKind.i64.wrap (s2.2 + (1:Int)))))))))))) else ((f_bits_Put n (s2.1, x.2.2.1, ())).bind fun (y4 : (List Int × Bool × Unit) × (Unit)) => ((f_bytes_Equal n (y4.1.1, x.1, ())).bind fun (y5 : (Bool × Unit) × (Unit)) => (if (!y5.1.1) = true then (some (([], false, ()), ())) else (some ((s2.1, true, ()), ()))))))) n ((List.replicate x.2.1.toNat (0:Int)), (0:Int))) else none)))))))
def h80 : Hints := ⟨[(0, ⟨[(8, .val (.sl .own 8 tU)), (40, .val tI)], [0, 2, 39], []⟩)], []⟩
def ft80 (n : Nat) : List (Nat × FEnt) := [(36, ⟨s36, f_bits_Put n⟩), (60, ⟨s60, f_bytes_Equal n⟩), (73, ⟨s73, f_bits_size n⟩)]
def c80 (n : Nat) : Ctx := ⟨77, find? tys, find? (ft80 n), gls, [], [], []⟩
theorem e80 (n x) : execFn (c80 n) h80 n Go.Proofs.Tryz.f80 s80 x = f_bits_Take n x := by kernel_rfl
theorem fn80 : P.funcs[80]? = some Go.Proofs.Tryz.f80 := by kernel_rfl
theorem call80 : Callable P 80 := callB_ok (by kernel_rfl)
theorem S80 (A : Amb) (n : Nat) : Sound A P (c80 n) 80 s80 (f_bits_Take n) :=
  execFn_sound mixed (tab rfl) (ft_all (C := c80 n) (l := ft80 n) rfl ⟨⟨call36, (S36 A n).of rfl⟩, ⟨call60, (S60 A n).of rfl⟩, ⟨call73, (S73 A n).of rfl⟩, trivial⟩) fn80 fun x y h => (e80 n x).trans h
def s1000011 : Sig := ⟨[.val tI, .sio (.sl .own 32 (.st (.pair tI (.pair tI (.pair .str .unit)))))], [.val (.sl .own 1 tB), .val .bool]⟩
/-- rabbet/dict.Put, its last argument lent -/
def f_lend_dict_Put (n : Nat) (x : Int × (List (Int × Int × List Int × Unit)) × Unit) : Option ((List Int × Bool × Unit) × ((List (Int × Int × List Int × Unit)) × Unit)) :=
  (f_dict_Put n (x.1, x.2.1, ())).map fun y => (y.1, x.2.1, ())
theorem S1000011 (A : Amb) (n : Nat) : Sound A P (c11 n) 11 s1000011 (f_lend_dict_Put n) :=
  lend_sound (e := 32) (te := (.st (.pair tI (.pair tI (.pair .str .unit))))) (ts := [tI]) rfl rfl rfl (S11 A n)
def s45 : Sig := ⟨[.val tI, .val tI, .val (.sl .imm 1 tB)], [.val (.sl .own 32 (.st (.pair tI (.pair tI (.pair .str .unit))))), .val .err]⟩
/-- rabbet/dict.read -/
def f_dict_read (n : Nat) (x : Int × Int × List Int × Unit) : Option (((List (Int × Int × List Int × Unit)) × UV × Unit) × (Unit)) :=
  ((f_num_Take n (x.2.2.1, ())).bind fun (y1 : (Int × Int × Bool × Unit) × (Unit)) => (if (decide (x.2.1 < (0:Int))) = true then (some (([], (UV.node t_dict_wrap (.pair (.str [118, 97, 108, 117, 101, 115, 32, 111, 102]) (.pair (UV.sent g_dict_errForm) .unit))), ()), ())) else (if (decide ((1000:Int) < x.2.1)) = true then (some (([], (UV.node t_dict_wrap (.pair (.str [118, 97, 108, 117, 101, 115, 32, 111, 102]) (.pair (UV.sent g_dict_errForm) .unit))), ()), ())) else (if (!y1.1.2.2.1) = true then (some (([], (UV.node t_dict_wrap (.pair (.str [118, 97, 108, 117, 101, 115, 32, 111, 102]) (.pair (UV.sent g_dict_errForm) .unit))), ()), ())) else (if (decide ((IntKind.u64.wrap x.2.1) < y1.1.1)) = true then (some (([], (UV.node t_dict_wrap (.pair (.str [118, 97, 108, 117, 101, 115, 32, 111, 102]) (.pair (UV.sent g_dict_errForm) .unit))), ()), ())) else (if 0 ≤ y1.1.2.1 ∧ y1.1.2.1 ≤ (x.2.2.1.length : Int) then (iterF (fun rec3 (s2 : (List (Int × Int × List Int × Unit)) × List Int × (List (Int × Int × List Int × Unit)) × Int) => (if (decide (s2.2.2.2 < y1.1.1)) = true then ((f_dict_first n (x.1, s2.2.1, ())).bind fun (y4 : ((Int × Int × List Int × Unit) × Int × UV × Unit) × (Unit)) => (if (!decide (y4.1.2.2.1 = UV.nil)) = true then (some (([], y4.1.2.2.1, ()), ())) else (if (s2.2.2.1.length + ([y4.1.1] : List (Int × Int × List Int × Unit)).length) * 32 ≤ room then (if 0 ≤ y4.1.2.1 ∧ y4.1.2.1 ≤ (s2.2.1.length : Int) then (rec3 (s2.1, ((s2.2.1.take (s2.2.1.length : Int).toNat).drop y4.1.2.1.toNat), (s2.2.2.1 ++ ([y4.1.1] : List (Int × Int × List Int × Unit))), (IntKind.u64.wrap (s2.2.2.2 + (1:Int))))) else none) else none))) else ((f_dict_width n ((s2.2.2.1.length : Int), ())).bind fun (y5 : (Int × Unit) × (Unit)) => ((f_bits_Take n (s2.2.1, x.2.1, y5.1.1, ())).bind fun (y6 : (List Int × Bool × Unit) × (Unit)) => (if (!y6.1.2.1) = true then (some (([], (UV.node t_dict_wrap (.pair (.str [110, 111, 32, 112, 108, 97, 99, 101, 115]) (.pair (UV.sent g_dict_errForm) .unit))), ()), ())) else (iterF (fun rec8 (s7 : (List (Int × Int × List Int × Unit)) × Int) => (if (decide (s7.2 < (y6.1.1.length : Int))) = true then (atI s7.2 y6.1.1.length (if (decide (y1.1.1 ≤ (y6.1.1.getD s7.2.toNat (0:Int)))) = true then (some (([], (UV.node t_dict_wrap (.pair (.str [112, 108, 97, 99, 101, 32, 111, 102]) (.pair (UV.sent g_dict_errForm) .unit))), ()), ())) else (atI (y6.1.1.getD s7.2.toNat (0:Int)) s2.2.2.1.length (if (s7.1.length + ([(s2.2.2.1.getD (y6.1.1.getD s7.2.toNat (0:Int)).toNat ((0:Int), (0:Int), [], ()))] : List (Int × Int × List Int × Unit)).length) * 32 ≤ room then (rec8 ((s7.1 ++ ([(s2.2.2.1.getD (y6.1.1.getD s7.2.toNat (0:Int)).toNat ((0:Int), (0:Int), [], ()))] : List (Int × Int × List Int × Unit))), (IntKind.i64.wrap (s7.2 + (1:Int))))) else none)))) else ((f_lend_dict_Put n (x.1, s7.1, ())).bind fun (y9 : (List Int × Bool × Unit) × ((List (Int × Int × List Int × Unit)) × Unit)) => (if (!y9.1.2.1) = true then (some (([], (UV.node t_dict_wrap (.pair (.str [110, 111, 116, 32, 106, 117, 115, 116, 32, 116, 104, 101, 115, 101]) (.pair (UV.sent g_dict_errForm) .unit))), ()), ())) else ((f_bytes_Equal n (y9.1.1, x.2.2.1, ())).bind fun (y10 : (Bool × Unit) × (Unit)) => (if (!y10.1.1) = true then (some (([], (UV.node t_dict_wrap (.pair (.str [110, 111, 116, 32, 106, 117, 115, 116, 32, 116, 104, 101, 115, 101]) (.pair (UV.sent g_dict_errForm) .unit))), ()), ())) else (some ((y9.2.1, UV.nil, ()), ())))))))) n (s2.1, (0:Int)))))))) n ([], ((x.2.2.1.take (x.2.2.1.length : Int).toNat).drop y1.1.2.1.toNat), [], (0:Int))) else none))))))
def h45 : Hints := ⟨[(0, ⟨[(6, .val (.sl .own 32 (.st (.pair tI (.pair tI (.pair .str .unit)))))), (11, .val (.sl .imm 1 tB)), (12, .val (.sl .own 32 (.st (.pair tI (.pair tI (.pair .str .unit)))))), (50, .val tU)], [0, 1, 2, 8, 49], []⟩), (2, ⟨[(6, .val (.sl .own 32 (.st (.pair tI (.pair tI (.pair .str .unit)))))), (86, .val tI)], [0, 2, 8, 12, 84, 85], []⟩)], []⟩
def ft45 (n : Nat) : List (Nat × FEnt) := [(11, ⟨s1000011, f_lend_dict_Put n⟩), (37, ⟨s37, f_dict_width n⟩), (60, ⟨s60, f_bytes_Equal n⟩), (78, ⟨s78, f_num_Take n⟩), (79, ⟨s79, f_dict_first n⟩), (80, ⟨s80, f_bits_Take n⟩)]
def c45 (n : Nat) : Ctx := ⟨122, find? tys, find? (ft45 n), gls, [], [], []⟩
theorem e45 (n x) : execFn (c45 n) h45 n Go.Proofs.Tryz.f45 s45 x = f_dict_read n x := by kernel_rfl
theorem fn45 : P.funcs[45]? = some Go.Proofs.Tryz.f45 := by kernel_rfl
theorem call45 : Callable P 45 := callB_ok (by kernel_rfl)
theorem S45 (A : Amb) (hA : HA A) (n : Nat) : Sound A P (c45 n) 45 s45 (f_dict_read n) :=
  execFn_sound mixed (tab rfl) (ft_all (C := c45 n) (l := ft45 n) rfl ⟨⟨call11, (S1000011 A n).of rfl⟩, ⟨call37, (S37 A n).of rfl⟩, ⟨call60, (S60 A n).of rfl⟩, ⟨call78, (S78 A hA n).of rfl⟩, ⟨call79, (S79 A hA n).of rfl⟩, ⟨call80, (S80 A n).of rfl⟩, trivial⟩) fn45 fun x y h => (e45 n x).trans h
def s14 : Sig := ⟨[.val tI, .val tI, .val (.sl .imm 1 tB)], [.val (.sl .own 32 (.st (.pair tI (.pair tI (.pair .str .unit))))), .val .bool]⟩
/-- rabbet/dict.Take -/
def f_dict_Take (n : Nat) (x : Int × Int × List Int × Unit) : Option (((List (Int × Int × List Int × Unit)) × Bool × Unit) × (Unit)) :=
  ((f_dict_read n (x.1, x.2.1, x.2.2.1, ())).bind fun (y1 : ((List (Int × Int × List Int × Unit)) × UV × Unit) × (Unit)) => ((f_errors_Is n (y1.1.2.1, (UV.sent g_dict_errForm), ())).bind fun (y2 : (Bool × Unit) × (Unit)) => (some ((y1.1.1, (!y2.1.1), ()), ()))))
def h14 : Hints := ⟨[], []⟩
def ft14 (n : Nat) : List (Nat × FEnt) := [(45, ⟨s45, f_dict_read n⟩), (46, ⟨s46, f_errors_Is n⟩)]
def c14 (n : Nat) : Ctx := ⟨22, find? tys, find? (ft14 n), gls, [], [], []⟩
theorem e14 (n x) : execFn (c14 n) h14 n Go.Proofs.Tryz.f14 s14 x = f_dict_Take n x := by kernel_rfl
theorem fn14 : P.funcs[14]? = some Go.Proofs.Tryz.f14 := by kernel_rfl
theorem call14 : Callable P 14 := callB_ok (by kernel_rfl)
theorem S14 (A : Amb) (hA : HA A) (n : Nat) : Sound A P (c14 n) 14 s14 (f_dict_Take n) :=
  execFn_sound mixed (tab rfl) (ft_all (C := c14 n) (l := ft14 n) rfl ⟨⟨call45, (S45 A hA n).of rfl⟩, ⟨call46, (S46 A hA n).of rfl⟩, trivial⟩) fn14 fun x y h => (e14 n x).trans h
def s9 : Sig := ⟨[], [.val .bool]⟩
/-- rabbet/rabbetlaw7.begun -/
def f_law7_begun (n : Nat) (x : Unit) : Option ((Bool × Unit) × (Unit)) :=
  ((f_dict_Put n ((2:Int), ([((2:Int), (5:Int), [], ()), ((2:Int), (5:Int), [], ())] : List (Int × Int × List Int × Unit)), ())).bind fun (y1 : (List Int × Bool × Unit) × (Unit)) => ((f_dict_Take n ((2:Int), (2:Int), y1.1.1, ())).bind fun (y2 : ((List (Int × Int × List Int × Unit)) × Bool × Unit) × (Unit)) => ((f_dict_Put n ((2:Int), ([((0:Int), (0:Int), [], ())] : List (Int × Int × List Int × Unit)), ())).bind fun (y3 : (List Int × Bool × Unit) × (Unit)) => (if y1.1.2.1 = true then (if (decide ((0:Int) < (y1.1.1.length : Int))) = true then (if y2.1.2.1 = true then (if (decide ((y2.1.1.length : Int) = (2:Int))) = true then (atI (1:Int) y2.1.1.length (if (decide (((y2.1.1.getD (1:Int).toNat ((0:Int), (0:Int), [], ())).2).1 = (5:Int))) = true then (some (((!y3.1.2.1), ()), ())) else (some ((false, ()), ())))) else (some ((false, ()), ()))) else (some ((false, ()), ()))) else (some ((false, ()), ()))) else (some ((false, ()), ()))))))
def h9 : Hints := ⟨[], []⟩
def ft9 (n : Nat) : List (Nat × FEnt) := [(11, ⟨s11, f_dict_Put n⟩), (14, ⟨s14, f_dict_Take n⟩)]
def c9 (n : Nat) : Ctx := ⟨52, find? tys, find? (ft9 n), gls, [], [], []⟩
theorem e9 (n x) : execFn (c9 n) h9 n Go.Proofs.Tryz.f9 s9 x = f_law7_begun n x := by kernel_rfl
theorem fn9 : P.funcs[9]? = some Go.Proofs.Tryz.f9 := by kernel_rfl
theorem call9 : Callable P 9 := callB_ok (by kernel_rfl)
theorem S9 (A : Amb) (hA : HA A) (n : Nat) : Sound A P (c9 n) 9 s9 (f_law7_begun n) :=
  execFn_sound mixed (tab rfl) (ft_all (C := c9 n) (l := ft9 n) rfl ⟨⟨call11, (S11 A n).of rfl⟩, ⟨call14, (S14 A hA n).of rfl⟩, trivial⟩) fn9 fun x y h => (e9 n x).trans h
def s26 : Sig := ⟨[.val (.sl .imm 1 tB)], [.box (.st (.pair (.sl .imm 1 tB) (.pair tI .unit)))]⟩
/-- rabbet/rabbetplay.Made -/
def f_play_Made (n : Nat) (x : List Int × Unit) : Option (((List Int × Int × Unit) × Unit) × (Unit)) :=
  (some (((x.1, (0:Int), ()), ()), ()))
def h26 : Hints := ⟨[], []⟩
def ft26 (n : Nat) : List (Nat × FEnt) := []
def c26 (n : Nat) : Ctx := ⟨6, find? tys, find? (ft26 n), gls, [], [], []⟩
theorem e26 (n x) : execFn (c26 n) h26 n Go.Proofs.Tryz.f26 s26 x = f_play_Made n x := by kernel_rfl
theorem fn26 : P.funcs[26]? = some Go.Proofs.Tryz.f26 := by kernel_rfl
theorem call26 : Callable P 26 := callB_ok (by kernel_rfl)
theorem S26 (A : Amb) (n : Nat) : Sound A P (c26 n) 26 s26 (f_play_Made n) :=
  execFn_sound mixed (tab rfl) (ft_all (C := c26 n) (l := ft26 n) rfl trivial) fn26 fun x y h => (e26 n x).trans h
def s62 : Sig := ⟨[.io (.st (.pair (.sl .imm 1 tB) (.pair tI .unit))), .val tI], [.val tI]⟩
/-- (*rabbet/rabbetplay.Picks).Num -/
def f_play_Picks_Num (n : Nat) (x : (List Int × Int × Unit) × Int × Unit) : Option ((Int × Unit) × ((List Int × Int × Unit) × Unit)) :=
  (if (decide ((x.1.1.length : Int) ≤ x.1.2.1)) = true then (some (((0:Int), ()), (x.1, ()))) else (atI (IntKind.i64.wrap ((IntKind.i64.wrap (x.1.2.1 + (1:Int))) - (1:Int))) x.1.1.length (if x.2.1 = 0 then none else (some ((((IntKind.i64.wrap (x.1.1.getD (IntKind.i64.wrap ((IntKind.i64.wrap (x.1.2.1 + (1:Int))) - (1:Int))).toNat (0:Int))).tmod x.2.1), ()), ((x.1.1, (IntKind.i64.wrap (x.1.2.1 + (1:Int))), x.1.2.2), ()))))))
def h62 : Hints := ⟨[], []⟩
def ft62 (n : Nat) : List (Nat × FEnt) := []
def c62 (n : Nat) : Ctx := ⟨36, find? tys, find? (ft62 n), gls, [], [], []⟩
theorem e62 (n x) : execFn (c62 n) h62 n Go.Proofs.Tryz.f62 s62 x = f_play_Picks_Num n x := by kernel_rfl
theorem fn62 : P.funcs[62]? = some Go.Proofs.Tryz.f62 := by kernel_rfl
theorem call62 : Callable P 62 := callB_ok (by kernel_rfl)
theorem S62 (A : Amb) (n : Nat) : Sound A P (c62 n) 62 s62 (f_play_Picks_Num n) :=
  execFn_sound mixed (tab rfl) (ft_all (C := c62 n) (l := ft62 n) rfl trivial) fn62 fun x y h => (e62 n x).trans h
def s63 : Sig := ⟨[.io (.st (.pair (.sl .imm 1 tB) (.pair tI .unit)))], [.val .bool]⟩
/-- (*rabbet/rabbetplay.Picks).Over -/
def f_play_Picks_Over (n : Nat) (x : (List Int × Int × Unit) × Unit) : Option ((Bool × Unit) × ((List Int × Int × Unit) × Unit)) :=
  (some (((decide ((x.1.1.length : Int) ≤ x.1.2.1)), ()), (x.1, ())))
def h63 : Hints := ⟨[], []⟩
def ft63 (n : Nat) : List (Nat × FEnt) := []
def c63 (n : Nat) : Ctx := ⟨13, find? tys, find? (ft63 n), gls, [], [], []⟩
theorem e63 (n x) : execFn (c63 n) h63 n Go.Proofs.Tryz.f63 s63 x = f_play_Picks_Over n x := by kernel_rfl
theorem fn63 : P.funcs[63]? = some Go.Proofs.Tryz.f63 := by kernel_rfl
theorem call63 : Callable P 63 := callB_ok (by kernel_rfl)
theorem S63 (A : Amb) (n : Nat) : Sound A P (c63 n) 63 s63 (f_play_Picks_Over n) :=
  execFn_sound mixed (tab rfl) (ft_all (C := c63 n) (l := ft63 n) rfl trivial) fn63 fun x y h => (e63 n x).trans h
def s27 : Sig := ⟨[.io (.st (.pair (.sl .imm 1 tB) (.pair tI .unit))), .val tI], [.val (.st (.pair tI (.pair tI (.pair .str .unit))))]⟩
/-- (*rabbet/rabbetplay.Picks).Value -/
def f_play_Picks_Value (n : Nat) (x : (List Int × Int × Unit) × Int × Unit) : Option (((Int × Int × List Int × Unit) × Unit) × ((List Int × Int × Unit) × Unit)) :=
  ((f_play_Picks_Num n (x.1, (9:Int), ())).bind fun (y1 : (Int × Unit) × ((List Int × Int × Unit) × Unit)) => (joinF (fun (s2 : (List Int × Int × Unit) × Int × Int × List Int × Unit) => (if (decide (x.2.1 = (1:Int))) = true then (atI y1.1.1 ([(0:Int), (1:Int), (2:Int), (3:Int), (-1:Int), (100:Int), (-32768:Int), (32767:Int), (5:Int)].length) (some (((x.2.1, ([(0:Int), (1:Int), (2:Int), (3:Int), (-1:Int), (100:Int), (-32768:Int), (32767:Int), (5:Int)].getD y1.1.1.toNat (0:Int)), [], ()), ()), (s2.1, ())))) else (if (decide (x.2.1 = (2:Int))) = true then (atI y1.1.1 ([(0:Int), (1:Int), (2:Int), (3:Int), (-1:Int), (1000000:Int), (-9223372036854775808:Int), (9223372036854775807:Int), (4611686018427387904:Int)].length) (some (((x.2.1, ([(0:Int), (1:Int), (2:Int), (3:Int), (-1:Int), (1000000:Int), (-9223372036854775808:Int), (9223372036854775807:Int), (4611686018427387904:Int)].getD y1.1.1.toNat (0:Int)), [], ()), ()), (s2.1, ())))) else (if (decide (x.2.1 = (3:Int))) = true then (some (((x.2.1, (y1.1.1.tmod (2:Int)), [], ()), ()), (s2.1, ()))) else (atI y1.1.1 (([[], [97], [98], [97, 58, 98], [97, 98], [120, 58, 121, 58, 122], [58], [116, 119, 101, 110, 116, 121, 45, 98, 121, 116, 101, 115, 45, 111, 102, 45, 116, 101, 120, 116], [99]] : List (List Int)).length) (some ((((4:Int), (0:Int), (([[], [97], [98], [97, 58, 98], [97, 98], [120, 58, 121, 58, 122], [58], [116, 119, 101, 110, 116, 121, 45, 98, 121, 116, 101, 115, 45, 111, 102, 45, 116, 101, 120, 116], [99]] : List (List Int)).getD y1.1.1.toNat []), ()), ()), (s2.1, ())))))))) fun J3 => (if (decide (y1.1.1 = (0:Int))) = true then ((f_play_Picks_Over n (y1.2.1, ())).bind fun (y4 : (Bool × Unit) × ((List Int × Int × Unit) × Unit)) => (if (!y4.1.1) = true then (some ((((0:Int), (0:Int), [], ()), ()), (y4.2.1, ()))) else (J3 (y4.2.1, (0:Int), (0:Int), [], ())))) else (J3 (y1.2.1, (0:Int), (0:Int), [], ())))))
def h27 : Hints := ⟨[], [(8, ⟨[(0, .box (.st (.pair (.sl .imm 1 tB) (.pair tI .unit)))), (4, .box (.st (.pair tI (.pair tI (.pair .str .unit)))))], [1, 5], []⟩)]⟩
def ft27 (n : Nat) : List (Nat × FEnt) := [(62, ⟨s62, f_play_Picks_Num n⟩), (63, ⟨s63, f_play_Picks_Over n⟩)]
def c27 (n : Nat) : Ctx := ⟨44, find? tys, find? (ft27 n), gls, [], [], []⟩
theorem e27 (n x) : execFn (c27 n) h27 n Go.Proofs.Tryz.f27 s27 x = f_play_Picks_Value n x := by kernel_rfl
theorem fn27 : P.funcs[27]? = some Go.Proofs.Tryz.f27 := by kernel_rfl
theorem call27 : Callable P 27 := callB_ok (by kernel_rfl)
theorem S27 (A : Amb) (n : Nat) : Sound A P (c27 n) 27 s27 (f_play_Picks_Value n) :=
  execFn_sound mixed (tab rfl) (ft_all (C := c27 n) (l := ft27 n) rfl ⟨⟨call62, (S62 A n).of rfl⟩, ⟨call63, (S63 A n).of rfl⟩, trivial⟩) fn27 fun x y h => (e27 n x).trans h
def s10 : Sig := ⟨[.val (.sl .imm 1 tB), .val tI, .val tI], [.val (.sl .imm 32 (.st (.pair tI (.pair tI (.pair .str .unit)))))]⟩
/-- rabbet/rabbetlaw7.some -/
def f_law7_some (n : Nat) (x : List Int × Int × Int × Unit) : Option (((List (Int × Int × List Int × Unit)) × Unit) × (Unit)) :=
  ((f_play_Made n (x.1, ())).bind fun (y1 : ((List Int × Int × Unit) × Unit) × (Unit)) => (iterF (fun rec3 (s2 : (List Int × Int × Unit) × (List (Int × Int × List Int × Unit)) × Int) => (if (decide (s2.2.2 < x.2.2.1)) = true then ((f_play_Picks_Value n (s2.1, x.2.1, ())).bind fun (y4 : ((Int × Int × List Int × Unit) × Unit) × ((List Int × Int × Unit) × Unit)) => (if (!decide (y4.1.1.1 = (0:Int))) = true then (if (s2.2.1.length + ([y4.1.1] : List (Int × Int × List Int × Unit)).length) * 32 ≤ room then (rec3 (y4.2.1, (s2.2.1 ++ ([y4.1.1] : List (Int × Int × List Int × Unit))), (IntKind.i64.wrap (s2.2.2 + (1:Int))))) else none) else (rec3 (y4.2.1, s2.2.1, (IntKind.i64.wrap (s2.2.2 + (1:Int))))))) else (some ((s2.2.1, ()), ())))) n (y1.1.1, [], (0:Int))))
def h10 : Hints := ⟨[(0, ⟨[(7, .box (.st (.pair (.sl .imm 1 tB) (.pair tI .unit)))), (8, .val (.sl .own 32 (.st (.pair tI (.pair tI (.pair .str .unit)))))), (9, .val tI)], [1, 2], []⟩)], []⟩
def ft10 (n : Nat) : List (Nat × FEnt) := [(26, ⟨s26, f_play_Made n⟩), (27, ⟨s27, f_play_Picks_Value n⟩)]
def c10 (n : Nat) : Ctx := ⟨29, find? tys, find? (ft10 n), gls, [], [], []⟩
theorem e10 (n x) : execFn (c10 n) h10 n Go.Proofs.Tryz.f10 s10 x = f_law7_some n x := by kernel_rfl
theorem fn10 : P.funcs[10]? = some Go.Proofs.Tryz.f10 := by kernel_rfl
theorem call10 : Callable P 10 := callB_ok (by kernel_rfl)
theorem S10 (A : Amb) (n : Nat) : Sound A P (c10 n) 10 s10 (f_law7_some n) :=
  execFn_sound mixed (tab rfl) (ft_all (C := c10 n) (l := ft10 n) rfl ⟨⟨call26, (S26 A n).of rfl⟩, ⟨call27, (S27 A n).of rfl⟩, trivial⟩) fn10 fun x y h => (e10 n x).trans h
def s47 : Sig := ⟨[.val tI], [.val .bool]⟩
/-- rabbet/rabbetref1.isType -/
def f_ref1_isType (n : Nat) (x : Int × Unit) : Option ((Bool × Unit) × (Unit)) :=
  (if (decide ((1:Int) ≤ x.1)) = true then (some (((decide (x.1 ≤ (4:Int))), ()), ())) else (some ((false, ()), ())))
def h47 : Hints := ⟨[], []⟩
def ft47 (n : Nat) : List (Nat × FEnt) := []
def c47 (n : Nat) : Ctx := ⟨9, find? tys, find? (ft47 n), gls, [], [], []⟩
theorem e47 (n x) : execFn (c47 n) h47 n Go.Proofs.Tryz.f47 s47 x = f_ref1_isType n x := by kernel_rfl
theorem fn47 : P.funcs[47]? = some Go.Proofs.Tryz.f47 := by kernel_rfl
theorem call47 : Callable P 47 := callB_ok (by kernel_rfl)
theorem S47 (A : Amb) (n : Nat) : Sound A P (c47 n) 47 s47 (f_ref1_isType n) :=
  execFn_sound mixed (tab rfl) (ft_all (C := c47 n) (l := ft47 n) rfl trivial) fn47 fun x y h => (e47 n x).trans h
def s97 : Sig := ⟨[.val (.st (.pair tI (.pair tI (.pair .str .unit))))], [.val .bool]⟩
/-- rabbet/rabbetref1.May -/
def f_ref1_May (n : Nat) (x : (Int × Int × List Int × Unit) × Unit) : Option ((Bool × Unit) × (Unit)) :=
  (if (decide (x.1.1 = (0:Int))) = true then (if (decide (x.1.2.1 = (0:Int))) = true then (some (((decide (x.1.2.2.1 = [])), ()), ())) else (some ((false, ()), ()))) else (if (decide (x.1.1 = (1:Int))) = true then (if (decide ((-32768:Int) ≤ x.1.2.1)) = true then (if (decide (x.1.2.1 ≤ (32767:Int))) = true then (some (((decide (x.1.2.2.1 = [])), ()), ())) else (some ((false, ()), ()))) else (some ((false, ()), ()))) else (if (decide (x.1.1 = (2:Int))) = true then (some (((decide (x.1.2.2.1 = [])), ()), ())) else (if (decide (x.1.1 = (3:Int))) = true then (if (decide (x.1.2.1 = (0:Int))) = true then (some (((decide (x.1.2.2.1 = [])), ()), ())) else (if (decide (x.1.2.1 = (1:Int))) = true then (some (((decide (x.1.2.2.1 = [])), ()), ())) else (some ((false, ()), ())))) else (if (decide (x.1.1 = (4:Int))) = true then (if (decide (x.1.2.1 = (0:Int))) = true then (some (((decide ((x.1.2.2.1.length : Int) ≤ (20:Int))), ()), ())) else (some ((false, ()), ()))) else (some ((false, ()), ())))))))
def h97 : Hints := ⟨[], []⟩
def ft97 (n : Nat) : List (Nat × FEnt) := []
def c97 (n : Nat) : Ctx := ⟨61, find? tys, find? (ft97 n), gls, [], [1], []⟩
theorem e97 (n x) : execFn (c97 n) h97 n Go.Proofs.Tryz.f97 s97 x = f_ref1_May n x := by kernel_rfl
theorem fn97 : P.funcs[97]? = some Go.Proofs.Tryz.f97 := by kernel_rfl
theorem call97 : Callable P 97 := callB_ok (by kernel_rfl)
theorem S97 (A : Amb) (n : Nat) : Sound A P (c97 n) 97 s97 (f_ref1_May n) :=
  execFn_sound mixed (tab rfl) (ft_all (C := c97 n) (l := ft97 n) rfl trivial) fn97 fun x y h => (e97 n x).trans h
def s56 : Sig := ⟨[.val tI, .val (.st (.pair tI (.pair tI (.pair .str .unit))))], [.val .bool]⟩
/-- rabbet/rabbetref1.Fits -/
def f_ref1_Fits (n : Nat) (x : Int × (Int × Int × List Int × Unit) × Unit) : Option ((Bool × Unit) × (Unit)) :=
  ((f_ref1_May n (x.2.1, ())).bind fun (y1 : (Bool × Unit) × (Unit)) => (if y1.1.1 = true then ((f_ref1_isType n (x.1, ())).bind fun (y2 : (Bool × Unit) × (Unit)) => (if y2.1.1 = true then (if (decide (x.2.1.1 = (0:Int))) = true then (some ((true, ()), ())) else (some (((decide (x.2.1.1 = x.1)), ()), ()))) else (some ((false, ()), ())))) else (some ((false, ()), ()))))
def h56 : Hints := ⟨[], []⟩
def ft56 (n : Nat) : List (Nat × FEnt) := [(47, ⟨s47, f_ref1_isType n⟩), (97, ⟨s97, f_ref1_May n⟩)]
def c56 (n : Nat) : Ctx := ⟨22, find? tys, find? (ft56 n), gls, [], [3], []⟩
theorem e56 (n x) : execFn (c56 n) h56 n Go.Proofs.Tryz.f56 s56 x = f_ref1_Fits n x := by kernel_rfl
theorem fn56 : P.funcs[56]? = some Go.Proofs.Tryz.f56 := by kernel_rfl
theorem call56 : Callable P 56 := callB_ok (by kernel_rfl)
theorem S56 (A : Amb) (n : Nat) : Sound A P (c56 n) 56 s56 (f_ref1_Fits n) :=
  execFn_sound mixed (tab rfl) (ft_all (C := c56 n) (l := ft56 n) rfl ⟨⟨call47, (S47 A n).of rfl⟩, ⟨call97, (S97 A n).of rfl⟩, trivial⟩) fn56 fun x y h => (e56 n x).trans h
def s38 : Sig := ⟨[.val tI, .val (.sl .imm 32 (.st (.pair tI (.pair tI (.pair .str .unit)))))], [.val .bool]⟩
/-- rabbet/rabbetref1.right -/
def f_ref1_right (n : Nat) (x : Int × (List (Int × Int × List Int × Unit)) × Unit) : Option ((Bool × Unit) × (Unit)) :=
  (iterF (fun rec2 (s1 : Int) => (if (decide (s1 < (x.2.1.length : Int))) = true then (atI s1 x.2.1.length ((f_ref1_Fits n (x.1, (x.2.1.getD s1.toNat ((0:Int), (0:Int), [], ())), ())).bind fun (y3 : (Bool × Unit) × (Unit)) => (if (!y3.1.1) = true then (some ((false, ()), ())) else (atI s1 x.2.1.length (if (!decide ((x.2.1.getD s1.toNat ((0:Int), (0:Int), [], ())).1 = x.1)) = true then (some ((false, ()), ())) else (rec2 (IntKind.i64.wrap (s1 + (1:Int))))))))) else ((f_ref1_isType n (x.1, ())).bind fun (y4 : (Bool × Unit) × (Unit)) => (some ((y4.1.1, ()), ()))))) n (0:Int))
def h38 : Hints := ⟨[(0, ⟨[(5, .val tI)], [0, 1], []⟩)], []⟩
def ft38 (n : Nat) : List (Nat × FEnt) := [(47, ⟨s47, f_ref1_isType n⟩), (56, ⟨s56, f_ref1_Fits n⟩)]
def c38 (n : Nat) : Ctx := ⟨30, find? tys, find? (ft38 n), gls, [], [], []⟩
theorem e38 (n x) : execFn (c38 n) h38 n Go.Proofs.Tryz.f38 s38 x = f_ref1_right n x := by kernel_rfl
theorem fn38 : P.funcs[38]? = some Go.Proofs.Tryz.f38 := by kernel_rfl
theorem call38 : Callable P 38 := callB_ok (by kernel_rfl)
theorem S38 (A : Amb) (n : Nat) : Sound A P (c38 n) 38 s38 (f_ref1_right n) :=
  execFn_sound mixed (tab rfl) (ft_all (C := c38 n) (l := ft38 n) rfl ⟨⟨call47, (S47 A n).of rfl⟩, ⟨call56, (S56 A n).of rfl⟩, trivial⟩) fn38 fun x y h => (e38 n x).trans h
def s39 : Sig := ⟨[.val tI], [.val .bool]⟩
/-- rabbet/rabbetref1.number -/
def f_ref1_number (n : Nat) (x : Int × Unit) : Option ((Bool × Unit) × (Unit)) :=
  (if (decide (x.1 = (1:Int))) = true then (some ((true, ()), ())) else (if (decide (x.1 = (2:Int))) = true then (some ((true, ()), ())) else (some (((decide (x.1 = (3:Int))), ()), ()))))
def h39 : Hints := ⟨[], []⟩
def ft39 (n : Nat) : List (Nat × FEnt) := []
def c39 (n : Nat) : Ctx := ⟨13, find? tys, find? (ft39 n), gls, [], [], []⟩
theorem e39 (n x) : execFn (c39 n) h39 n Go.Proofs.Tryz.f39 s39 x = f_ref1_number n x := by kernel_rfl
theorem fn39 : P.funcs[39]? = some Go.Proofs.Tryz.f39 := by kernel_rfl
theorem call39 : Callable P 39 := callB_ok (by kernel_rfl)
theorem S39 (A : Amb) (n : Nat) : Sound A P (c39 n) 39 s39 (f_ref1_number n) :=
  execFn_sound mixed (tab rfl) (ft_all (C := c39 n) (l := ft39 n) rfl trivial) fn39 fun x y h => (e39 n x).trans h
def s41 : Sig := ⟨[.val tU], [.val (.sl .own 1 tB)]⟩
/-- rabbet/rabbetref1.PutNum -/
def f_ref1_PutNum (n : Nat) (x : Int × Unit) : Option ((List Int × Unit) × (Unit)) :=
  (iterF (fun rec2 (s1 : Int × List Int) => (if (decide ((128:Int) ≤ s1.1)) = true then (if (s1.2.length + [(IntKind.u8.wrap ((IntKind.u8.wrap (s1.1.tmod (128:Int))) + (128:Int)))].length) * 1 ≤ room then (rec2 ((IntKind.u64.wrap (s1.1.tdiv (128:Int))), (s1.2 ++ [(IntKind.u8.wrap ((IntKind.u8.wrap (s1.1.tmod (128:Int))) + (128:Int)))]))) else none) else (if (s1.2.length + [(IntKind.u8.wrap s1.1)].length) * 1 ≤ room then (some (((s1.2 ++ [(IntKind.u8.wrap s1.1)]), ()), ())) else none))) n (x.1, []))
def h41 : Hints := ⟨[(0, ⟨[(0, .val tU), (3, .val (.sl .own 1 tB))], [], []⟩)], []⟩
def ft41 (n : Nat) : List (Nat × FEnt) := []
def c41 (n : Nat) : Ctx := ⟨20, find? tys, find? (ft41 n), gls, [], [], []⟩
theorem e41 (n x) : execFn (c41 n) h41 n Go.Proofs.Tryz.f41 s41 x = f_ref1_PutNum n x := by kernel_rfl
theorem fn41 : P.funcs[41]? = some Go.Proofs.Tryz.f41 := by kernel_rfl
theorem call41 : Callable P 41 := callB_ok (by kernel_rfl)
theorem S41 (A : Amb) (n : Nat) : Sound A P (c41 n) 41 s41 (f_ref1_PutNum n) :=
  execFn_sound mixed (tab rfl) (ft_all (C := c41 n) (l := ft41 n) rfl trivial) fn41 fun x y h => (e41 n x).trans h
def s44 : Sig := ⟨[.val tI], [.val tU]⟩
/-- rabbet/rabbetref1.Zig -/
def f_ref1_Zig (n : Nat) (x : Int × Unit) : Option ((Int × Unit) × (Unit)) :=
  (if (decide (x.1 < (0:Int))) = true then (some (((IntKind.u64.wrap ((IntKind.u64.wrap ((2:Int) * (IntKind.u64.wrap (IntKind.i64.wrap (0 - (IntKind.i64.wrap (x.1 + (1:Int)))))))) + (1:Int))), ()), ())) else (some (((IntKind.u64.wrap ((2:Int) * (IntKind.u64.wrap x.1))), ()), ())))
def h44 : Hints := ⟨[], []⟩
def ft44 (n : Nat) : List (Nat × FEnt) := []
def c44 (n : Nat) : Ctx := ⟨14, find? tys, find? (ft44 n), gls, [], [], []⟩
theorem e44 (n x) : execFn (c44 n) h44 n Go.Proofs.Tryz.f44 s44 x = f_ref1_Zig n x := by kernel_rfl
theorem fn44 : P.funcs[44]? = some Go.Proofs.Tryz.f44 := by kernel_rfl
theorem call44 : Callable P 44 := callB_ok (by kernel_rfl)
theorem S44 (A : Amb) (n : Nat) : Sound A P (c44 n) 44 s44 (f_ref1_Zig n) :=
  execFn_sound mixed (tab rfl) (ft_all (C := c44 n) (l := ft44 n) rfl trivial) fn44 fun x y h => (e44 n x).trans h
def s40 : Sig := ⟨[.val (.st (.pair tI (.pair tI (.pair .str .unit))))], [.val (.sl .imm 1 tB)]⟩
/-- rabbet/rabbetref1.one -/
def f_ref1_one (n : Nat) (x : (Int × Int × List Int × Unit) × Unit) : Option ((List Int × Unit) × (Unit)) :=
  (if (decide (x.1.1 = (3:Int))) = true then (some (([(IntKind.u8.wrap x.1.2.1)], ()), ())) else (if (decide (x.1.1 = (4:Int))) = true then (if ([(IntKind.u8.wrap (x.1.2.2.1.length : Int))].length + x.1.2.2.1.length) * 1 ≤ room then (some ((([(IntKind.u8.wrap (x.1.2.2.1.length : Int))] ++ x.1.2.2.1), ()), ())) else none) else ((f_ref1_Zig n (x.1.2.1, ())).bind fun (y1 : (Int × Unit) × (Unit)) => ((f_ref1_PutNum n (y1.1.1, ())).bind fun (y2 : (List Int × Unit) × (Unit)) => (some ((y2.1.1, ()), ()))))))
def h40 : Hints := ⟨[], []⟩
def ft40 (n : Nat) : List (Nat × FEnt) := [(41, ⟨s41, f_ref1_PutNum n⟩), (44, ⟨s44, f_ref1_Zig n⟩)]
def c40 (n : Nat) : Ctx := ⟨25, find? tys, find? (ft40 n), gls, [], [1], []⟩
theorem e40 (n x) : execFn (c40 n) h40 n Go.Proofs.Tryz.f40 s40 x = f_ref1_one n x := by kernel_rfl
theorem fn40 : P.funcs[40]? = some Go.Proofs.Tryz.f40 := by kernel_rfl
theorem call40 : Callable P 40 := callB_ok (by kernel_rfl)
theorem S40 (A : Amb) (n : Nat) : Sound A P (c40 n) 40 s40 (f_ref1_one n) :=
  execFn_sound mixed (tab rfl) (ft_all (C := c40 n) (l := ft40 n) rfl ⟨⟨call41, (S41 A n).of rfl⟩, ⟨call44, (S44 A n).of rfl⟩, trivial⟩) fn40 fun x y h => (e40 n x).trans h
def s131 : Sig := ⟨[.val (.st (.pair tI (.pair tI (.pair .str .unit))))], [.val tI]⟩
/-- rabbet/rabbetref1.class -/
def f_ref1_class (n : Nat) (x : (Int × Int × List Int × Unit) × Unit) : Option ((Int × Unit) × (Unit)) :=
  (if (decide (x.1.1 = (0:Int))) = true then (some (((0:Int), ()), ())) else (if (decide (x.1.1 = (4:Int))) = true then (some (((2:Int), ()), ())) else (some (((1:Int), ()), ()))))
def h131 : Hints := ⟨[], []⟩
def ft131 (n : Nat) : List (Nat × FEnt) := []
def c131 (n : Nat) : Ctx := ⟨9, find? tys, find? (ft131 n), gls, [], [1], []⟩
theorem e131 (n x) : execFn (c131 n) h131 n Go.Proofs.Tryz.f131 s131 x = f_ref1_class n x := by kernel_rfl
theorem fn131 : P.funcs[131]? = some Go.Proofs.Tryz.f131 := by kernel_rfl
theorem call131 : Callable P 131 := callB_ok (by kernel_rfl)
theorem S131 (A : Amb) (n : Nat) : Sound A P (c131 n) 131 s131 (f_ref1_class n) :=
  execFn_sound mixed (tab rfl) (ft_all (C := c131 n) (l := ft131 n) rfl trivial) fn131 fun x y h => (e131 n x).trans h
def s113 : Sig := ⟨[.val (.st (.pair tI (.pair tI (.pair .str .unit)))), .val (.st (.pair tI (.pair tI (.pair .str .unit))))], [.val tI]⟩
/-- rabbet/rabbetref1.Compare -/
def f_ref1_Compare (n : Nat) (x : (Int × Int × List Int × Unit) × (Int × Int × List Int × Unit) × Unit) : Option ((Int × Unit) × (Unit)) :=
  ((f_ref1_class n (x.1, ())).bind fun (y1 : (Int × Unit) × (Unit)) => ((f_ref1_class n (x.2.1, ())).bind fun (y2 : (Int × Unit) × (Unit)) => (if (decide (y1.1.1 < y2.1.1)) = true then (some (((-1:Int), ()), ())) else (if (decide (y1.1.1 = y2.1.1)) = true then (if (decide (y1.1.1 = (1:Int))) = true then (if (decide (x.1.2.1 < x.2.1.2.1)) = true then (some (((-1:Int), ()), ())) else (if (decide (y1.1.1 = y2.1.1)) = true then (if (decide (y1.1.1 = (2:Int))) = true then (if (strLess x.1.2.2.1 x.2.1.2.2.1) = true then (some (((-1:Int), ()), ())) else (if (decide (y2.1.1 < y1.1.1)) = true then (some (((1:Int), ()), ())) else (if (decide (y1.1.1 = (1:Int))) = true then (if (decide (x.2.1.2.1 < x.1.2.1)) = true then (some (((1:Int), ()), ())) else (if (decide (y1.1.1 = (2:Int))) = true then (if (strLess x.2.1.2.2.1 x.1.2.2.1) = true then (some (((1:Int), ()), ())) else (some (((0:Int), ()), ()))) else (some (((0:Int), ()), ())))) else (if (decide (y1.1.1 = (2:Int))) = true then (if (strLess x.2.1.2.2.1 x.1.2.2.1) = true then (some (((1:Int), ()), ())) else (some (((0:Int), ()), ()))) else (some (((0:Int), ()), ())))))) else (if (decide (y2.1.1 < y1.1.1)) = true then (some (((1:Int), ()), ())) else (if (decide (y1.1.1 = (1:Int))) = true then (if (decide (x.2.1.2.1 < x.1.2.1)) = true then (some (((1:Int), ()), ())) else (if (decide (y1.1.1 = (2:Int))) = true then (if (strLess x.2.1.2.2.1 x.1.2.2.1) = true then (some (((1:Int), ()), ())) else (some (((0:Int), ()), ()))) else (some (((0:Int), ()), ())))) else (if (decide (y1.1.1 = (2:Int))) = true then (if (strLess x.2.1.2.2.1 x.1.2.2.1) = true then (some (((1:Int), ()), ())) else (some (((0:Int), ()), ()))) else (some (((0:Int), ()), ())))))) else (if (decide (y2.1.1 < y1.1.1)) = true then (some (((1:Int), ()), ())) else (if (decide (y1.1.1 = (1:Int))) = true then (if (decide (x.2.1.2.1 < x.1.2.1)) = true then (some (((1:Int), ()), ())) else (if (decide (y1.1.1 = (2:Int))) = true then (if (strLess x.2.1.2.2.1 x.1.2.2.1) = true then (some (((1:Int), ()), ())) else (some (((0:Int), ()), ()))) else (some (((0:Int), ()), ())))) else (if (decide (y1.1.1 = (2:Int))) = true then (if (strLess x.2.1.2.2.1 x.1.2.2.1) = true then (some (((1:Int), ()), ())) else (some (((0:Int), ()), ()))) else (some (((0:Int), ()), ()))))))) else (if (decide (y1.1.1 = y2.1.1)) = true then (if (decide (y1.1.1 = (2:Int))) = true then (if (strLess x.1.2.2.1 x.2.1.2.2.1) = true then (some (((-1:Int), ()), ())) else (if (decide (y2.1.1 < y1.1.1)) = true then (some (((1:Int), ()), ())) else (if (decide (y1.1.1 = (1:Int))) = true then (if (decide (x.2.1.2.1 < x.1.2.1)) = true then (some (((1:Int), ()), ())) else (if (decide (y1.1.1 = (2:Int))) = true then (if (strLess x.2.1.2.2.1 x.1.2.2.1) = true then (some (((1:Int), ()), ())) else (some (((0:Int), ()), ()))) else (some (((0:Int), ()), ())))) else (if (decide (y1.1.1 = (2:Int))) = true then (if (strLess x.2.1.2.2.1 x.1.2.2.1) = true then (some (((1:Int), ()), ())) else (some (((0:Int), ()), ()))) else (some (((0:Int), ()), ())))))) else (if (decide (y2.1.1 < y1.1.1)) = true then (some (((1:Int), ()), ())) else (if (decide (y1.1.1 = (1:Int))) = true then (if (decide (x.2.1.2.1 < x.1.2.1)) = true then (some (((1:Int), ()), ())) else (if (decide (y1.1.1 = (2:Int))) = true then (if (strLess x.2.1.2.2.1 x.1.2.2.1) = true then (some (((1:Int), ()), ())) else (some (((0:Int), ()), ()))) else (some (((0:Int), ()), ())))) else (if (decide (y1.1.1 = (2:Int))) = true then (if (strLess x.2.1.2.2.1 x.1.2.2.1) = true then (some (((1:Int), ()), ())) else (some (((0:Int), ()), ()))) else (some (((0:Int), ()), ())))))) else (if (decide (y2.1.1 < y1.1.1)) = true then (some (((1:Int), ()), ())) else (if (decide (y1.1.1 = (1:Int))) = true then (if (decide (x.2.1.2.1 < x.1.2.1)) = true then (some (((1:Int), ()), ())) else (if (decide (y1.1.1 = (2:Int))) = true then (if (strLess x.2.1.2.2.1 x.1.2.2.1) = true then (some (((1:Int), ()), ())) else (some (((0:Int), ()), ()))) else (some (((0:Int), ()), ())))) else (if (decide (y1.1.1 = (2:Int))) = true then (if (strLess x.2.1.2.2.1 x.1.2.2.1) = true then (some (((1:Int), ()), ())) else (some (((0:Int), ()), ()))) else (some (((0:Int), ()), ()))))))) else (if (decide (y1.1.1 = y2.1.1)) = true then (if (decide (y1.1.1 = (2:Int))) = true then (if (strLess x.1.2.2.1 x.2.1.2.2.1) = true then (some (((-1:Int), ()), ())) else (if (decide (y2.1.1 < y1.1.1)) = true then (some (((1:Int), ()), ())) else (if (decide (y1.1.1 = (1:Int))) = true then (if (decide (x.2.1.2.1 < x.1.2.1)) = true then (some (((1:Int), ()), ())) else (if (decide (y1.1.1 = (2:Int))) = true then (if (strLess x.2.1.2.2.1 x.1.2.2.1) = true then (some (((1:Int), ()), ())) else (some (((0:Int), ()), ()))) else (some (((0:Int), ()), ())))) else (if (decide (y1.1.1 = (2:Int))) = true then (if (strLess x.2.1.2.2.1 x.1.2.2.1) = true then (some (((1:Int), ()), ())) else (some (((0:Int), ()), ()))) else (some (((0:Int), ()), ())))))) else (if (decide (y2.1.1 < y1.1.1)) = true then (some (((1:Int), ()), ())) else (if (decide (y1.1.1 = (1:Int))) = true then (if (decide (x.2.1.2.1 < x.1.2.1)) = true then (some (((1:Int), ()), ())) else (if (decide (y1.1.1 = (2:Int))) = true then (if (strLess x.2.1.2.2.1 x.1.2.2.1) = true then (some (((1:Int), ()), ())) else (some (((0:Int), ()), ()))) else (some (((0:Int), ()), ())))) else (if (decide (y1.1.1 = (2:Int))) = true then (if (strLess x.2.1.2.2.1 x.1.2.2.1) = true then (some (((1:Int), ()), ())) else (some (((0:Int), ()), ()))) else (some (((0:Int), ()), ())))))) else (if (decide (y2.1.1 < y1.1.1)) = true then (some (((1:Int), ()), ())) else (if (decide (y1.1.1 = (1:Int))) = true then (if (decide (x.2.1.2.1 < x.1.2.1)) = true then (some (((1:Int), ()), ())) else (if (decide (y1.1.1 = (2:Int))) = true then (if (strLess x.2.1.2.2.1 x.1.2.2.1) = true then (some (((1:Int), ()), ())) else (some (((0:Int), ()), ()))) else (some (((0:Int), ()), ())))) else (if (decide (y1.1.1 = (2:Int))) = true then (if (strLess x.2.1.2.2.1 x.1.2.2.1) = true then (some (((1:Int), ()), ())) else (some (((0:Int), ()), ()))) else (some (((0:Int), ()), ()))))))))))
def h113 : Hints := ⟨[], []⟩
def ft113 (n : Nat) : List (Nat × FEnt) := [(131, ⟨s131, f_ref1_class n⟩)]
def c113 (n : Nat) : Ctx := ⟨73, find? tys, find? (ft113 n), gls, [], [2, 3], []⟩
theorem e113 (n x) : execFn (c113 n) h113 n Go.Proofs.Tryz.f113 s113 x = f_ref1_Compare n x := by kernel_rfl
theorem fn113 : P.funcs[113]? = some Go.Proofs.Tryz.f113 := by kernel_rfl
theorem call113 : Callable P 113 := callB_ok (by kernel_rfl)
theorem S113 (A : Amb) (n : Nat) : Sound A P (c113 n) 113 s113 (f_ref1_Compare n) :=
  execFn_sound mixed (tab rfl) (ft_all (C := c113 n) (l := ft113 n) rfl ⟨⟨call131, (S131 A n).of rfl⟩, trivial⟩) fn113 fun x y h => (e113 n x).trans h
def s74 : Sig := ⟨[.val (.sl .imm 32 (.st (.pair tI (.pair tI (.pair .str .unit)))))], [.val (.sl .imm 32 (.st (.pair tI (.pair tI (.pair .str .unit)))))]⟩
/-- rabbet/rabbetref1.values -/
def f_ref1_values (n : Nat) (x : (List (Int × Int × List Int × Unit)) × Unit) : Option (((List (Int × Int × List Int × Unit)) × Unit) × (Unit)) :=
  (iterF (fun rec2 (s1 : (List (Int × Int × List Int × Unit)) × Int) => (if (decide (s1.2 < (x.1.length : Int))) = true then (joinF (fun (s3 : Int) => (if (decide (s3 = (s1.1.length : Int))) = true then (if 0 ≤ s3 ∧ s3 ≤ (s1.1.length : Int) then (if (([] : List (Int × Int × List Int × Unit)).length + ((s1.1.take s3.toNat).drop (0:Int).toNat).length) * 32 ≤ room then (atI s1.2 x.1.length (if ((([] : List (Int × Int × List Int × Unit)) ++ ((s1.1.take s3.toNat).drop (0:Int).toNat)).length + ([(x.1.getD s1.2.toNat ((0:Int), (0:Int), [], ()))] : List (Int × Int × List Int × Unit)).length) * 32 ≤ room then (if 0 ≤ s3 ∧ s3 ≤ (s1.1.length : Int) then (if (((([] : List (Int × Int × List Int × Unit)) ++ ((s1.1.take s3.toNat).drop (0:Int).toNat)) ++ ([(x.1.getD s1.2.toNat ((0:Int), (0:Int), [], ()))] : List (Int × Int × List Int × Unit))).length + ((s1.1.take (s1.1.length : Int).toNat).drop s3.toNat).length) * 32 ≤ room then (rec2 ((((([] : List (Int × Int × List Int × Unit)) ++ ((s1.1.take s3.toNat).drop (0:Int).toNat)) ++ ([(x.1.getD s1.2.toNat ((0:Int), (0:Int), [], ()))] : List (Int × Int × List Int × Unit))) ++ ((s1.1.take (s1.1.length : Int).toNat).drop s3.toNat)), (IntKind.i64.wrap (s1.2 + (1:Int))))) else none) else none) else none)) else none) else none) else (atI s3 s1.1.length (atI s1.2 x.1.length ((f_ref1_Compare n ((s1.1.getD s3.toNat ((0:Int), (0:Int), [], ())), (x.1.getD s1.2.toNat ((0:Int), (0:Int), [], ())), ())).bind fun (y5 : (Int × Unit) × (Unit)) => (if (!decide (y5.1.1 = (0:Int))) = true then (if 0 ≤ s3 ∧ s3 ≤ (s1.1.length : Int) then (if (([] : List (Int × Int × List Int × Unit)).length + ((s1.1.take s3.toNat).drop (0:Int).toNat).length) * 32 ≤ room then (atI s1.2 x.1.length (if ((([] : List (Int × Int × List Int × Unit)) ++ ((s1.1.take s3.toNat).drop (0:Int).toNat)).length + ([(x.1.getD s1.2.toNat ((0:Int), (0:Int), [], ()))] : List (Int × Int × List Int × Unit)).length) * 32 ≤ room then (if 0 ≤ s3 ∧ s3 ≤ (s1.1.length : Int) then (if (((([] : List (Int × Int × List Int × Unit)) ++ ((s1.1.take s3.toNat).drop (0:Int).toNat)) ++ ([(x.1.getD s1.2.toNat ((0:Int), (0:Int), [], ()))] : List (Int × Int × List Int × Unit))).length + ((s1.1.take (s1.1.length : Int).toNat).drop s3.toNat).length) * 32 ≤ room then (rec2 ((((([] : List (Int × Int × List Int × Unit)) ++ ((s1.1.take s3.toNat).drop (0:Int).toNat)) ++ ([(x.1.getD s1.2.toNat ((0:Int), (0:Int), [], ()))] : List (Int × Int × List Int × Unit))) ++ ((s1.1.take (s1.1.length : Int).toNat).drop s3.toNat)), (IntKind.i64.wrap (s1.2 + (1:Int))))) else none) else none) else none)) else none) else none) else (rec2 (s1.1, (IntKind.i64.wrap (s1.2 + (1:Int))))))))))) fun J4 => (iterF (fun rec7 (s6 : Int) => (if (decide (s6 < (s1.1.length : Int))) = true then (atI s6 s1.1.length (atI s1.2 x.1.length ((f_ref1_Compare n ((s1.1.getD s6.toNat ((0:Int), (0:Int), [], ())), (x.1.getD s1.2.toNat ((0:Int), (0:Int), [], ())), ())).bind fun (y8 : (Int × Unit) × (Unit)) => (if (decide (y8.1.1 < (0:Int))) = true then (rec7 (IntKind.i64.wrap (s6 + (1:Int)))) else (J4 s6))))) else (J4 s6))) n (0:Int))) else (some ((s1.1, ()), ())))) n ([], (0:Int)))
def h74 : Hints := ⟨[(2, ⟨[(5, .val tI)], [0, 3, 4], []⟩), (0, ⟨[(3, .val (.sl .imm 32 (.st (.pair tI (.pair tI (.pair .str .unit)))))), (4, .val tI)], [0], []⟩)], [(16, ⟨[(5, .val tI)], [0, 3, 4], []⟩)]⟩
def ft74 (n : Nat) : List (Nat × FEnt) := [(113, ⟨s113, f_ref1_Compare n⟩)]
def c74 (n : Nat) : Ctx := ⟨62, find? tys, find? (ft74 n), gls, [], [], []⟩
theorem e74 (n x) : execFn (c74 n) h74 n Go.Proofs.Tryz.f74 s74 x = f_ref1_values n x := by kernel_rfl
theorem fn74 : P.funcs[74]? = some Go.Proofs.Tryz.f74 := by kernel_rfl
theorem call74 : Callable P 74 := callB_ok (by kernel_rfl)
theorem S74 (A : Amb) (n : Nat) : Sound A P (c74 n) 74 s74 (f_ref1_values n) :=
  execFn_sound mixed (tab rfl) (ft_all (C := c74 n) (l := ft74 n) rfl ⟨⟨call113, (S113 A n).of rfl⟩, trivial⟩) fn74 fun x y h => (e74 n x).trans h
def s76 : Sig := ⟨[.val tU], [.val tI]⟩
/-- rabbet/rabbetref1.width -/
def f_ref1_width (n : Nat) (x : Int × Unit) : Option ((Int × Unit) × (Unit)) :=
  (iterF (fun rec2 (s1 : Int × Int) => (if (decide ((0:Int) < s1.1)) = true then (rec2 ((IntKind.u64.wrap (s1.1.tdiv (2:Int))), (IntKind.i64.wrap (s1.2 + (1:Int))))) else (some ((s1.2, ()), ())))) n (x.1, (0:Int)))
def h76 : Hints := ⟨[(0, ⟨[(0, .val tU), (3, .val tI)], [], []⟩)], []⟩
def ft76 (n : Nat) : List (Nat × FEnt) := []
def c76 (n : Nat) : Ctx := ⟨11, find? tys, find? (ft76 n), gls, [], [], []⟩
theorem e76 (n x) : execFn (c76 n) h76 n Go.Proofs.Tryz.f76 s76 x = f_ref1_width n x := by kernel_rfl
theorem fn76 : P.funcs[76]? = some Go.Proofs.Tryz.f76 := by kernel_rfl
theorem call76 : Callable P 76 := callB_ok (by kernel_rfl)
theorem S76 (A : Amb) (n : Nat) : Sound A P (c76 n) 76 s76 (f_ref1_width n) :=
  execFn_sound mixed (tab rfl) (ft_all (C := c76 n) (l := ft76 n) rfl trivial) fn76 fun x y h => (e76 n x).trans h
def s77 : Sig := ⟨[.val (.sl .imm 8 tU)], [.val tI]⟩
/-- rabbet/rabbetref1.Width -/
def f_ref1_Width (n : Nat) (x : List Int × Unit) : Option ((Int × Unit) × (Unit)) :=
  (iterF (fun rec2 (s1 : Int × Int) => (if (decide (s1.2 < (x.1.length : Int))) = true then (atI s1.2 x.1.length ((f_ref1_width n ((x.1.getD s1.2.toNat (0:Int)), ())).bind fun (y3 : (Int × Unit) × (Unit)) => (rec2 ((if y3.1.1 ≤ s1.1 then s1.1 else y3.1.1), (IntKind.i64.wrap (s1.2 + (1:Int))))))) else (some ((s1.1, ()), ())))) n ((0:Int), (0:Int)))
def h77 : Hints := ⟨[(0, ⟨[(3, .val tI), (4, .val tI)], [0], []⟩)], []⟩
def ft77 (n : Nat) : List (Nat × FEnt) := [(76, ⟨s76, f_ref1_width n⟩)]
def c77 (n : Nat) : Ctx := ⟨19, find? tys, find? (ft77 n), gls, [], [], []⟩
theorem e77 (n x) : execFn (c77 n) h77 n Go.Proofs.Tryz.f77 s77 x = f_ref1_Width n x := by kernel_rfl
theorem fn77 : P.funcs[77]? = some Go.Proofs.Tryz.f77 := by kernel_rfl
theorem call77 : Callable P 77 := callB_ok (by kernel_rfl)
theorem S77 (A : Amb) (n : Nat) : Sound A P (c77 n) 77 s77 (f_ref1_Width n) :=
  execFn_sound mixed (tab rfl) (ft_all (C := c77 n) (l := ft77 n) rfl ⟨⟨call76, (S76 A n).of rfl⟩, trivial⟩) fn77 fun x y h => (e77 n x).trans h
def s75 : Sig := ⟨[.val (.sl .imm 8 tU), .val tI], [.val (.sl .imm 1 tB), .val .bool]⟩
/-- rabbet/rabbetref1.PutBits -/
def f_ref1_PutBits (n : Nat) (x : List Int × Int × Unit) : Option ((List Int × Bool × Unit) × (Unit)) :=
  (if (decide (x.2.1 < (0:Int))) = true then (some (([], false, ()), ())) else (if (decide ((64:Int) < x.2.1)) = true then (some (([], false, ()), ())) else ((f_ref1_Width n (x.1, ())).bind fun (y1 : (Int × Unit) × (Unit)) => (if (decide (x.2.1 < y1.1.1)) = true then (some (([], false, ()), ())) else (if 0 ≤ (IntKind.i64.wrap ((IntKind.i64.wrap ((IntKind.i64.wrap ((x.1.length : Int) * x.2.1)) + (7:Int))).tdiv (8:Int))) ∧ (IntKind.i64.wrap ((IntKind.i64.wrap ((IntKind.i64.wrap ((x.1.length : Int) * x.2.1)) + (7:Int))).tdiv (8:Int))) ≤ (IntKind.i64.wrap ((IntKind.i64.wrap ((IntKind.i64.wrap ((x.1.length : Int) * x.2.1)) + (7:Int))).tdiv (8:Int))) ∧ (IntKind.i64.wrap ((IntKind.i64.wrap ((IntKind.i64.wrap ((x.1.length : Int) * x.2.1)) + (7:Int))).tdiv (8:Int))) * 1 ≤ room then (iterF (fun rec3 (s2 : List Int × Int) => (if (decide (s2.2 < (x.1.length : Int))) = true then (atI s2.2 x.1.length (iterF (fun rec5 (s4 : List Int × Int × Int) => (if (decide (s4.2.2 < x.2.1)) = true then (atI (IntKind.i64.wrap ((IntKind.i64.wrap ((IntKind.i64.wrap (s2.2 * x.2.1)) + s4.2.2)).tdiv (8:Int))) s4.1.length (if ((IntKind.i64.wrap ((IntKind.i64.wrap (s2.2 * x.2.1)) + s4.2.2)).tmod (8:Int)) < 0 then none else (atI (IntKind.i64.wrap ((IntKind.i64.wrap ((IntKind.i64.wrap (s2.2 * x.2.1)) + s4.2.2)).tdiv (8:Int))) s4.1.length (rec5 ((s4.1.set (IntKind.i64.wrap ((IntKind.i64.wrap ((IntKind.i64.wrap (s2.2 * x.2.1)) + s4.2.2)).tdiv (8:Int))).toNat (IntKind.u8.wrap ((s4.1.getD (IntKind.i64.wrap ((IntKind.i64.wrap ((IntKind.i64.wrap (s2.2 * x.2.1)) + s4.2.2)).tdiv (8:Int))).toNat (0:Int)) + (IntKind.u8.wrap ((IntKind.u8.wrap (s4.2.1.tmod (2:Int))) * 2 ^ min ((IntKind.i64.wrap ((IntKind.i64.wrap (s2.2 * x.2.1)) + s4.2.2)).tmod (8:Int)).toNat IntKind.u8.bits))))), (IntKind.u64.wrap (s4.2.1.tdiv (2:Int))), (IntKind.i64.wrap (s4.2.2 + (1:Int)))))))) else (rec3 (s4.1, (IntKind.i64.wrap (s2.2 + (1:Int))))))) n (s2.1, (x.1.getD s2.2.toNat (0:Int)), (0:Int)))) else (some ((s2.1, true, ()), ())))) n ((List.replicate (IntKind.i64.wrap ((IntKind.i64.wrap ((IntKind.i64.wrap ((x.1.length : Int) * x.2.1)) + (7:Int))).tdiv (8:Int))).toNat (0:Int)), (0:Int))) else none)))))
def h75 : Hints := ⟨[(2, ⟨[(6, .val (.sl .own 1 tB)), (8, .val tU), (9, .val tI)], [0, 1, 7], []⟩), (0, ⟨[(6, .val (.sl .own 1 tB)), (7, .val tI)], [0, 1], []⟩)], []⟩
def ft75 (n : Nat) : List (Nat × FEnt) := [(77, ⟨s77, f_ref1_Width n⟩)]
def c75 (n : Nat) : Ctx := ⟨69, find? tys, find? (ft75 n), gls, [], [], []⟩
theorem e75 (n x) : execFn (c75 n) h75 n Go.Proofs.Tryz.f75 s75 x = f_ref1_PutBits n x := by kernel_rfl
theorem fn75 : P.funcs[75]? = some Go.Proofs.Tryz.f75 := by kernel_rfl
theorem call75 : Callable P 75 := callB_ok (by kernel_rfl)
theorem S75 (A : Amb) (n : Nat) : Sound A P (c75 n) 75 s75 (f_ref1_PutBits n) :=
  execFn_sound mixed (tab rfl) (ft_all (C := c75 n) (l := ft75 n) rfl ⟨⟨call77, (S77 A n).of rfl⟩, trivial⟩) fn75 fun x y h => (e75 n x).trans h
def s42 : Sig := ⟨[.val (.sl .imm 32 (.st (.pair tI (.pair tI (.pair .str .unit)))))], [.val (.sl .own 1 tB)]⟩
/-- rabbet/rabbetref1.dict -/
def f_ref1_dict (n : Nat) (x : (List (Int × Int × List Int × Unit)) × Unit) : Option ((List Int × Unit) × (Unit)) :=
  ((f_ref1_values n (x.1, ())).bind fun (y1 : ((List (Int × Int × List Int × Unit)) × Unit) × (Unit)) => ((f_ref1_PutNum n ((IntKind.u64.wrap (y1.1.1.length : Int)), ())).bind fun (y2 : (List Int × Unit) × (Unit)) => (iterF (fun rec4 (s3 : List Int × Int) => (if (decide (s3.2 < (y1.1.1.length : Int))) = true then (atI s3.2 y1.1.1.length ((f_ref1_one n ((y1.1.1.getD s3.2.toNat ((0:Int), (0:Int), [], ())), ())).bind fun (y5 : (List Int × Unit) × (Unit)) => (if (s3.1.length + y5.1.1.length) * 1 ≤ room then (rec4 ((s3.1 ++ y5.1.1), (IntKind.i64.wrap (s3.2 + (1:Int))))) else none))) else (iterF (fun rec7 (s6 : List Int × Int) => (if (decide (s6.2 < (x.1.length : Int))) = true then (iterF (fun rec9 (s8 : List Int × Int) => (if (decide (s8.2 < (y1.1.1.length : Int))) = true then (atI s8.2 y1.1.1.length (atI s6.2 x.1.length (if ((decide ((y1.1.1.getD s8.2.toNat ((0:Int), (0:Int), [], ())).1 = (x.1.getD s6.2.toNat ((0:Int), (0:Int), [], ())).1)) && ((decide (((y1.1.1.getD s8.2.toNat ((0:Int), (0:Int), [], ())).2).1 = ((x.1.getD s6.2.toNat ((0:Int), (0:Int), [], ())).2).1)) && (decide ((((y1.1.1.getD s8.2.toNat ((0:Int), (0:Int), [], ())).2).2).1 = (((x.1.getD s6.2.toNat ((0:Int), (0:Int), [], ())).2).2).1)))) = true then (if (s8.1.length + [(IntKind.u64.wrap s8.2)].length) * 8 ≤ room then (rec9 ((s8.1 ++ [(IntKind.u64.wrap s8.2)]), (IntKind.i64.wrap (s8.2 + (1:Int))))) else none) else (rec9 (s8.1, (IntKind.i64.wrap (s8.2 + (1:Int)))))))) else (rec7 (s8.1, (IntKind.i64.wrap (s6.2 + (1:Int))))))) n (s6.1, (0:Int))) else ((f_ref1_width n ((IntKind.u64.wrap (IntKind.i64.wrap ((if (1:Int) ≤ (y1.1.1.length : Int) then (y1.1.1.length : Int) else (1:Int)) - (1:Int)))), ())).bind fun (y10 : (Int × Unit) × (Unit)) => ((f_ref1_PutBits n (s6.1, y10.1.1, ())).bind fun (y11 : (List Int × Bool × Unit) × (Unit)) => (if (s3.1.length + y11.1.1.length) * 1 ≤ room then (some (((s3.1 ++ y11.1.1), ()), ())) else none))))) n ([], (0:Int))))) n (y2.1.1, (0:Int)))))
def h42 : Hints := ⟨[(0, ⟨[(4, .val (.sl .own 1 tB)), (5, .val tI)], [0, 3], []⟩), (4, ⟨[(6, .val (.sl .own 8 tU)), (8, .val tI)], [0, 3, 7], []⟩), (2, ⟨[(6, .val (.sl .own 8 tU)), (7, .val tI)], [0, 3], [4]⟩)], []⟩
def ft42 (n : Nat) : List (Nat × FEnt) := [(40, ⟨s40, f_ref1_one n⟩), (41, ⟨s41, f_ref1_PutNum n⟩), (74, ⟨s74, f_ref1_values n⟩), (75, ⟨s75, f_ref1_PutBits n⟩), (76, ⟨s76, f_ref1_width n⟩)]
def c42 (n : Nat) : Ctx := ⟨70, find? tys, find? (ft42 n), gls, [], [], []⟩
theorem e42 (n x) : execFn (c42 n) h42 n Go.Proofs.Tryz.f42 s42 x = f_ref1_dict n x := by kernel_rfl
theorem fn42 : P.funcs[42]? = some Go.Proofs.Tryz.f42 := by kernel_rfl
theorem call42 : Callable P 42 := callB_ok (by kernel_rfl)
theorem S42 (A : Amb) (n : Nat) : Sound A P (c42 n) 42 s42 (f_ref1_dict n) :=
  execFn_sound mixed (tab rfl) (ft_all (C := c42 n) (l := ft42 n) rfl ⟨⟨call40, (S40 A n).of rfl⟩, ⟨call41, (S41 A n).of rfl⟩, ⟨call74, (S74 A n).of rfl⟩, ⟨call75, (S75 A n).of rfl⟩, ⟨call76, (S76 A n).of rfl⟩, trivial⟩) fn42 fun x y h => (e42 n x).trans h
def s43 : Sig := ⟨[.val (.sl .imm 32 (.st (.pair tI (.pair tI (.pair .str .unit)))))], [.val (.sl .own 1 tB)]⟩
/-- rabbet/rabbetref1.pack -/
def f_ref1_pack (n : Nat) (x : (List (Int × Int × List Int × Unit)) × Unit) : Option ((List Int × Unit) × (Unit)) :=
  (if (decide ((x.1.length : Int) = (0:Int))) = true then (some (([], ()), ())) else (atI (0:Int) x.1.length (iterF (fun rec2 (s1 : Int × Int) => (if (decide (s1.2 < (x.1.length : Int))) = true then (atI s1.2 x.1.length (rec2 ((if s1.1 ≤ ((x.1.getD s1.2.toNat ((0:Int), (0:Int), [], ())).2).1 then s1.1 else ((x.1.getD s1.2.toNat ((0:Int), (0:Int), [], ())).2).1), (IntKind.i64.wrap (s1.2 + (1:Int)))))) else (iterF (fun rec4 (s3 : List Int × Int) => (if (decide (s3.2 < (x.1.length : Int))) = true then (atI s3.2 x.1.length (if (s3.1.length + [(IntKind.u64.wrap ((IntKind.u64.wrap (((x.1.getD s3.2.toNat ((0:Int), (0:Int), [], ())).2).1)) - (IntKind.u64.wrap s1.1)))].length) * 8 ≤ room then (rec4 ((s3.1 ++ [(IntKind.u64.wrap ((IntKind.u64.wrap (((x.1.getD s3.2.toNat ((0:Int), (0:Int), [], ())).2).1)) - (IntKind.u64.wrap s1.1)))]), (IntKind.i64.wrap (s3.2 + (1:Int))))) else none)) else ((f_ref1_Width n (s3.1, ())).bind fun (y5 : (Int × Unit) × (Unit)) => ((f_ref1_PutBits n (s3.1, y5.1.1, ())).bind fun (y6 : (List Int × Bool × Unit) × (Unit)) => ((f_ref1_Zig n (s1.1, ())).bind fun (y7 : (Int × Unit) × (Unit)) => ((f_ref1_PutNum n (y7.1.1, ())).bind fun (y8 : (List Int × Unit) × (Unit)) => ((f_ref1_Width n (s3.1, ())).bind fun (y9 : (Int × Unit) × (Unit)) => (if (y8.1.1.length + [(IntKind.u8.wrap y9.1.1)].length) * 1 ≤ room then (if ((y8.1.1 ++ [(IntKind.u8.wrap y9.1.1)]).length + y6.1.1.length) * 1 ≤ room then (some ((((y8.1.1 ++ [(IntKind.u8.wrap y9.1.1)]) ++ y6.1.1), ()), ())) else none) else none)))))))) n ([], (0:Int))))) n (((x.1.getD (0:Int).toNat ((0:Int), (0:Int), [], ())).2).1, (0:Int)))))
def h43 : Hints := ⟨[(0, ⟨[(3, .val tI), (4, .val tI)], [0], []⟩), (2, ⟨[(5, .val (.sl .own 8 tU)), (6, .val tI)], [0, 3], []⟩)], []⟩
def ft43 (n : Nat) : List (Nat × FEnt) := [(41, ⟨s41, f_ref1_PutNum n⟩), (44, ⟨s44, f_ref1_Zig n⟩), (75, ⟨s75, f_ref1_PutBits n⟩), (77, ⟨s77, f_ref1_Width n⟩)]
def c43 (n : Nat) : Ctx := ⟨64, find? tys, find? (ft43 n), gls, [], [], []⟩
theorem e43 (n x) : execFn (c43 n) h43 n Go.Proofs.Tryz.f43 s43 x = f_ref1_pack n x := by kernel_rfl
theorem fn43 : P.funcs[43]? = some Go.Proofs.Tryz.f43 := by kernel_rfl
theorem call43 : Callable P 43 := callB_ok (by kernel_rfl)
theorem S43 (A : Amb) (n : Nat) : Sound A P (c43 n) 43 s43 (f_ref1_pack n) :=
  execFn_sound mixed (tab rfl) (ft_all (C := c43 n) (l := ft43 n) rfl ⟨⟨call41, (S41 A n).of rfl⟩, ⟨call44, (S44 A n).of rfl⟩, ⟨call75, (S75 A n).of rfl⟩, ⟨call77, (S77 A n).of rfl⟩, trivial⟩) fn43 fun x y h => (e43 n x).trans h
def s12 : Sig := ⟨[.val tI, .val tI, .val (.sl .imm 32 (.st (.pair tI (.pair tI (.pair .str .unit)))))], [.val (.sl .own 1 tB), .val .bool]⟩
/-- rabbet/rabbetref1.Encode -/
def f_ref1_Encode (n : Nat) (x : Int × Int × (List (Int × Int × List Int × Unit)) × Unit) : Option ((List Int × Bool × Unit) × (Unit)) :=
  (joinF (fun (s1 : Unit) => (if (decide (x.1 = (1:Int))) = true then (iterF (fun rec4 (s3 : List Int × Int) => (if (decide (s3.2 < (x.2.2.1.length : Int))) = true then (atI s3.2 x.2.2.1.length ((f_ref1_one n ((x.2.2.1.getD s3.2.toNat ((0:Int), (0:Int), [], ())), ())).bind fun (y5 : (List Int × Unit) × (Unit)) => (if (s3.1.length + y5.1.1.length) * 1 ≤ room then (rec4 ((s3.1 ++ y5.1.1), (IntKind.i64.wrap (s3.2 + (1:Int))))) else none))) else (some ((s3.1, true, ()), ())))) n ([], (0:Int))) else (if (decide (x.1 = (2:Int))) = true then (iterF (fun rec7 (s6 : List Int × Int) => (if (decide (s6.2 < (x.2.2.1.length : Int))) = true then (joinF (fun (s8 : Int) => ((f_ref1_PutNum n ((IntKind.u64.wrap s8), ())).bind fun (y10 : (List Int × Unit) × (Unit)) => (if (s6.1.length + y10.1.1.length) * 1 ≤ room then (atI s6.2 x.2.2.1.length ((f_ref1_one n ((x.2.2.1.getD s6.2.toNat ((0:Int), (0:Int), [], ())), ())).bind fun (y11 : (List Int × Unit) × (Unit)) => (if ((s6.1 ++ y10.1.1).length + y11.1.1.length) * 1 ≤ room then (rec7 (((s6.1 ++ y10.1.1) ++ y11.1.1), (IntKind.i64.wrap (s6.2 + s8)))) else none))) else none))) fun J9 => (iterF (fun rec13 (s12 : Int) => (if (decide ((IntKind.i64.wrap (s6.2 + s12)) < (x.2.2.1.length : Int))) = true then (atI (IntKind.i64.wrap (s6.2 + s12)) x.2.2.1.length (atI s6.2 x.2.2.1.length (if ((decide ((x.2.2.1.getD (IntKind.i64.wrap (s6.2 + s12)).toNat ((0:Int), (0:Int), [], ())).1 = (x.2.2.1.getD s6.2.toNat ((0:Int), (0:Int), [], ())).1)) && ((decide (((x.2.2.1.getD (IntKind.i64.wrap (s6.2 + s12)).toNat ((0:Int), (0:Int), [], ())).2).1 = ((x.2.2.1.getD s6.2.toNat ((0:Int), (0:Int), [], ())).2).1)) && (decide ((((x.2.2.1.getD (IntKind.i64.wrap (s6.2 + s12)).toNat ((0:Int), (0:Int), [], ())).2).2).1 = (((x.2.2.1.getD s6.2.toNat ((0:Int), (0:Int), [], ())).2).2).1)))) = true then (rec13 (IntKind.i64.wrap (s12 + (1:Int)))) else (J9 s12)))) else (J9 s12))) n (1:Int))) else (some ((s6.1, true, ()), ())))) n ([], (0:Int))) else (if (decide (x.1 = (3:Int))) = true then ((f_ref1_dict n (x.2.2.1, ())).bind fun (y14 : (List Int × Unit) × (Unit)) => (some ((y14.1.1, true, ()), ()))) else (if (decide (x.1 = (4:Int))) = true then ((f_ref1_pack n (x.2.2.1, ())).bind fun (y15 : (List Int × Unit) × (Unit)) => (some ((y15.1.1, true, ()), ()))) else (if (decide (x.1 = (5:Int))) = true then (iterF (fun rec17 (s16 : List Int × Int) => (if (decide (s16.2 < (x.2.2.1.length : Int))) = true then (atI s16.2 x.2.2.1.length (if (decide ((0:Int) < s16.2)) = true then (atI s16.2 x.2.2.1.length (atI (IntKind.i64.wrap (s16.2 - (1:Int))) x.2.2.1.length ((f_ref1_Zig n ((IntKind.i64.wrap ((((x.2.2.1.getD s16.2.toNat ((0:Int), (0:Int), [], ())).2).1) - (((x.2.2.1.getD (IntKind.i64.wrap (s16.2 - (1:Int))).toNat ((0:Int), (0:Int), [], ())).2).1))), ())).bind fun (y18 : (Int × Unit) × (Unit)) => ((f_ref1_PutNum n (y18.1.1, ())).bind fun (y19 : (List Int × Unit) × (Unit)) => (if (s16.1.length + y19.1.1.length) * 1 ≤ room then (rec17 ((s16.1 ++ y19.1.1), (IntKind.i64.wrap (s16.2 + (1:Int))))) else none))))) else ((f_ref1_Zig n (((x.2.2.1.getD s16.2.toNat ((0:Int), (0:Int), [], ())).2).1, ())).bind fun (y20 : (Int × Unit) × (Unit)) => ((f_ref1_PutNum n (y20.1.1, ())).bind fun (y21 : (List Int × Unit) × (Unit)) => (if (s16.1.length + y21.1.1.length) * 1 ≤ room then (rec17 ((s16.1 ++ y21.1.1), (IntKind.i64.wrap (s16.2 + (1:Int))))) else none))))) else (some ((s16.1, true, ()), ())))) n ([], (0:Int))) else (some (([], false, ()), ())))))))) fun J2 => ((f_ref1_right n (x.2.1, x.2.2.1, ())).bind fun (y22 : (Bool × Unit) × (Unit)) => (if (!y22.1.1) = true then (some (([], false, ()), ())) else (if (decide (x.1 = (4:Int))) = true then ((f_ref1_number n (x.2.1, ())).bind fun (y23 : (Bool × Unit) × (Unit)) => (if (!y23.1.1) = true then (some (([], false, ()), ())) else (if (decide (x.1 = (5:Int))) = true then (if (!decide (x.2.1 = (1:Int))) = true then (if (!decide (x.2.1 = (2:Int))) = true then (some (([], false, ()), ())) else (J2 ())) else (J2 ())) else (J2 ())))) else (if (decide (x.1 = (5:Int))) = true then (if (!decide (x.2.1 = (1:Int))) = true then (if (!decide (x.2.1 = (2:Int))) = true then (some (([], false, ()), ())) else (J2 ())) else (J2 ())) else (J2 ()))))))
def h12 : Hints := ⟨[(1, ⟨[(8, .val (.sl .own 1 tB)), (9, .val tI)], [2], []⟩), (5, ⟨[(11, .val tI)], [2, 10], []⟩), (3, ⟨[(8, .val (.sl .own 1 tB)), (10, .val tI)], [2], []⟩), (7, ⟨[(8, .val (.sl .own 1 tB)), (12, .val tI)], [2], []⟩)], [(6, ⟨[], [0, 2], []⟩), (34, ⟨[(11, .val tI)], [2, 10], [8]⟩)]⟩
def ft12 (n : Nat) : List (Nat × FEnt) := [(38, ⟨s38, f_ref1_right n⟩), (39, ⟨s39, f_ref1_number n⟩), (40, ⟨s40, f_ref1_one n⟩), (41, ⟨s41, f_ref1_PutNum n⟩), (42, ⟨s42, f_ref1_dict n⟩), (43, ⟨s43, f_ref1_pack n⟩), (44, ⟨s44, f_ref1_Zig n⟩)]
def c12 (n : Nat) : Ctx := ⟨137, find? tys, find? (ft12 n), gls, [], [], []⟩
theorem e12 (n x) : execFn (c12 n) h12 n Go.Proofs.Tryz.f12 s12 x = f_ref1_Encode n x := by kernel_rfl
theorem fn12 : P.funcs[12]? = some Go.Proofs.Tryz.f12 := by kernel_rfl
theorem call12 : Callable P 12 := callB_ok (by kernel_rfl)
theorem S12 (A : Amb) (n : Nat) : Sound A P (c12 n) 12 s12 (f_ref1_Encode n) :=
  execFn_sound mixed (tab rfl) (ft_all (C := c12 n) (l := ft12 n) rfl ⟨⟨call38, (S38 A n).of rfl⟩, ⟨call39, (S39 A n).of rfl⟩, ⟨call40, (S40 A n).of rfl⟩, ⟨call41, (S41 A n).of rfl⟩, ⟨call42, (S42 A n).of rfl⟩, ⟨call43, (S43 A n).of rfl⟩, ⟨call44, (S44 A n).of rfl⟩, trivial⟩) fn12 fun x y h => (e12 n x).trans h
def s16 : Sig := ⟨[.val (.sl .imm 32 (.st (.pair tI (.pair tI (.pair .str .unit))))), .val (.sl .imm 32 (.st (.pair tI (.pair tI (.pair .str .unit)))))], [.val .bool]⟩
/-- rabbet/rabbetref1.SameValues -/
def f_ref1_SameValues (n : Nat) (x : (List (Int × Int × List Int × Unit)) × (List (Int × Int × List Int × Unit)) × Unit) : Option ((Bool × Unit) × (Unit)) :=
  (if (!decide ((x.1.length : Int) = (x.2.1.length : Int))) = true then (some ((false, ()), ())) else (iterF (fun rec2 (s1 : Int) => (if (decide (s1 < (x.1.length : Int))) = true then (atI s1 x.1.length (atI s1 x.2.1.length (if (!((decide ((x.1.getD s1.toNat ((0:Int), (0:Int), [], ())).1 = (x.2.1.getD s1.toNat ((0:Int), (0:Int), [], ())).1)) && ((decide (((x.1.getD s1.toNat ((0:Int), (0:Int), [], ())).2).1 = ((x.2.1.getD s1.toNat ((0:Int), (0:Int), [], ())).2).1)) && (decide ((((x.1.getD s1.toNat ((0:Int), (0:Int), [], ())).2).2).1 = (((x.2.1.getD s1.toNat ((0:Int), (0:Int), [], ())).2).2).1))))) = true then (some ((false, ()), ())) else (rec2 (IntKind.i64.wrap (s1 + (1:Int))))))) else (some ((true, ()), ())))) n (0:Int)))
def h16 : Hints := ⟨[(0, ⟨[(5, .val tI)], [0, 1], []⟩)], []⟩
def ft16 (n : Nat) : List (Nat × FEnt) := []
def c16 (n : Nat) : Ctx := ⟨26, find? tys, find? (ft16 n), gls, [], [], []⟩
theorem e16 (n x) : execFn (c16 n) h16 n Go.Proofs.Tryz.f16 s16 x = f_ref1_SameValues n x := by kernel_rfl
theorem fn16 : P.funcs[16]? = some Go.Proofs.Tryz.f16 := by kernel_rfl
theorem call16 : Callable P 16 := callB_ok (by kernel_rfl)
theorem S16 (A : Amb) (n : Nat) : Sound A P (c16 n) 16 s16 (f_ref1_SameValues n) :=
  execFn_sound mixed (tab rfl) (ft_all (C := c16 n) (l := ft16 n) rfl trivial) fn16 fun x y h => (e16 n x).trans h
def s1000014 : Sig := ⟨[.val tI, .val tI, .sio (.sl .own 1 tB)], [.val (.sl .own 32 (.st (.pair tI (.pair tI (.pair .str .unit))))), .val .bool]⟩
/-- rabbet/dict.Take, its last argument lent -/
def f_lend_dict_Take (n : Nat) (x : Int × Int × List Int × Unit) : Option (((List (Int × Int × List Int × Unit)) × Bool × Unit) × (List Int × Unit)) :=
  (f_dict_Take n (x.1, x.2.1, x.2.2.1, ())).map fun y => (y.1, x.2.2.1, ())
theorem S1000014 (A : Amb) (hA : HA A) (n : Nat) : Sound A P (c14 n) 14 s1000014 (f_lend_dict_Take n) :=
  lend_sound (e := 1) (te := tB) (ts := [tI, tI]) rfl rfl rfl (S14 A hA n)
def s84 : Sig := ⟨[.val (.sl .imm 1 tB)], [.val tU, .val tI, .val .bool]⟩
/-- rabbet/rabbetref1.TakeNum -/
def f_ref1_TakeNum (n : Nat) (x : List Int × Unit) : Option ((Int × Int × Bool × Unit) × (Unit)) :=
  (iterF (fun rec2 (s1 : Int) => (if (decide (s1 ≤ (10:Int))) = true then (if (decide (s1 ≤ (x.1.length : Int))) = true then (atI (IntKind.i64.wrap (s1 - (1:Int))) x.1.length (if (decide ((128:Int) ≤ (x.1.getD (IntKind.i64.wrap (s1 - (1:Int))).toNat (0:Int)))) = true then (rec2 (IntKind.i64.wrap (s1 + (1:Int)))) else (iterF (fun rec4 (s3 : Int × Int) => (if (decide ((0:Int) ≤ s3.2)) = true then (atI s3.2 x.1.length (rec4 ((IntKind.u64.wrap ((IntKind.u64.wrap (s3.1 * (128:Int))) + (IntKind.u64.wrap ((x.1.getD s3.2.toNat (0:Int)).tmod (128:Int))))), (IntKind.i64.wrap (s3.2 - (1:Int)))))) else ((f_ref1_PutNum n (s3.1, ())).bind fun (y5 : (List Int × Unit) × (Unit)) => (if 0 ≤ s1 ∧ s1 ≤ (x.1.length : Int) then (if (!decide (y5.1.1 = ((x.1.take s1.toNat).drop (0:Int).toNat))) = true then (some (((0:Int), (0:Int), false, ()), ())) else (some ((s3.1, s1, true, ()), ()))) else none)))) n ((0:Int), (IntKind.i64.wrap (s1 - (1:Int))))))) else (some (((0:Int), (0:Int), false, ()), ()))) else (some (((0:Int), (0:Int), false, ()), ())))) n (1:Int))
def h84 : Hints := ⟨[(2, ⟨[(6, .val tU), (7, .val tI)], [0, 5], []⟩), (0, ⟨[(5, .val tI)], [0], []⟩)], []⟩
def ft84 (n : Nat) : List (Nat × FEnt) := [(41, ⟨s41, f_ref1_PutNum n⟩)]
def c84 (n : Nat) : Ctx := ⟨49, find? tys, find? (ft84 n), gls, [], [], []⟩
theorem e84 (n x) : execFn (c84 n) h84 n Go.Proofs.Tryz.f84 s84 x = f_ref1_TakeNum n x := by kernel_rfl
theorem fn84 : P.funcs[84]? = some Go.Proofs.Tryz.f84 := by kernel_rfl
theorem call84 : Callable P 84 := callB_ok (by kernel_rfl)
theorem S84 (A : Amb) (n : Nat) : Sound A P (c84 n) 84 s84 (f_ref1_TakeNum n) :=
  execFn_sound mixed (tab rfl) (ft_all (C := c84 n) (l := ft84 n) rfl ⟨⟨call41, (S41 A n).of rfl⟩, trivial⟩) fn84 fun x y h => (e84 n x).trans h
def s87 : Sig := ⟨[.val tU], [.val tI]⟩
/-- rabbet/rabbetref1.Zag -/
def f_ref1_Zag (n : Nat) (x : Int × Unit) : Option ((Int × Unit) × (Unit)) :=
  (if (decide ((x.1.tmod (2:Int)) = (1:Int))) = true then (some (((IntKind.i64.wrap ((IntKind.i64.wrap (0 - (IntKind.i64.wrap (IntKind.u64.wrap (x.1.tdiv (2:Int)))))) - (1:Int))), ()), ())) else (some (((IntKind.i64.wrap (IntKind.u64.wrap (x.1.tdiv (2:Int)))), ()), ())))
def h87 : Hints := ⟨[], []⟩
def ft87 (n : Nat) : List (Nat × FEnt) := []
def c87 (n : Nat) : Ctx := ⟨14, find? tys, find? (ft87 n), gls, [], [], []⟩
theorem e87 (n x) : execFn (c87 n) h87 n Go.Proofs.Tryz.f87 s87 x = f_ref1_Zag n x := by kernel_rfl
theorem fn87 : P.funcs[87]? = some Go.Proofs.Tryz.f87 := by kernel_rfl
theorem call87 : Callable P 87 := callB_ok (by kernel_rfl)
theorem S87 (A : Amb) (n : Nat) : Sound A P (c87 n) 87 s87 (f_ref1_Zag n) :=
  execFn_sound mixed (tab rfl) (ft_all (C := c87 n) (l := ft87 n) rfl trivial) fn87 fun x y h => (e87 n x).trans h
def s83 : Sig := ⟨[.val tI, .val (.sl .imm 1 tB)], [.val (.st (.pair tI (.pair tI (.pair .str .unit)))), .val tI, .val .bool]⟩
/-- rabbet/rabbetref1.takeOne -/
def f_ref1_takeOne (n : Nat) (x : Int × List Int × Unit) : Option (((Int × Int × List Int × Unit) × Int × Bool × Unit) × (Unit)) :=
  (if (decide ((x.2.1.length : Int) = (0:Int))) = true then (some ((((0:Int), (0:Int), [], ()), (0:Int), false, ()), ())) else (if (decide (x.1 = (3:Int))) = true then (atI (0:Int) x.2.1.length ((f_ref1_May n ((x.1, (IntKind.i64.wrap (x.2.1.getD (0:Int).toNat (0:Int))), [], ()), ())).bind fun (y1 : (Bool × Unit) × (Unit)) => (if y1.1.1 = true then ((f_ref1_isType n (x.1, ())).bind fun (y2 : (Bool × Unit) × (Unit)) => (some (((x.1, (IntKind.i64.wrap (x.2.1.getD (0:Int).toNat (0:Int))), [], ()), (1:Int), y2.1.1, ()), ()))) else (some (((x.1, (IntKind.i64.wrap (x.2.1.getD (0:Int).toNat (0:Int))), [], ()), (1:Int), false, ()), ()))))) else (if (decide (x.1 = (4:Int))) = true then (atI (0:Int) x.2.1.length (if (decide ((x.2.1.length : Int) < (IntKind.i64.wrap ((1:Int) + (IntKind.i64.wrap (x.2.1.getD (0:Int).toNat (0:Int))))))) = true then (some ((((0:Int), (0:Int), [], ()), (0:Int), false, ()), ())) else (if 0 ≤ (1:Int) ∧ (1:Int) ≤ (IntKind.i64.wrap ((1:Int) + (IntKind.i64.wrap (x.2.1.getD (0:Int).toNat (0:Int))))) ∧ (IntKind.i64.wrap ((1:Int) + (IntKind.i64.wrap (x.2.1.getD (0:Int).toNat (0:Int))))) ≤ (x.2.1.length : Int) then ((f_ref1_May n ((x.1, (0:Int), ((x.2.1.take (IntKind.i64.wrap ((1:Int) + (IntKind.i64.wrap (x.2.1.getD (0:Int).toNat (0:Int))))).toNat).drop (1:Int).toNat), ()), ())).bind fun (y3 : (Bool × Unit) × (Unit)) => (if y3.1.1 = true then ((f_ref1_isType n (x.1, ())).bind fun (y4 : (Bool × Unit) × (Unit)) => (some (((x.1, (0:Int), ((x.2.1.take (IntKind.i64.wrap ((1:Int) + (IntKind.i64.wrap (x.2.1.getD (0:Int).toNat (0:Int))))).toNat).drop (1:Int).toNat), ()), (IntKind.i64.wrap ((1:Int) + (IntKind.i64.wrap (x.2.1.getD (0:Int).toNat (0:Int))))), y4.1.1, ()), ()))) else (some (((x.1, (0:Int), ((x.2.1.take (IntKind.i64.wrap ((1:Int) + (IntKind.i64.wrap (x.2.1.getD (0:Int).toNat (0:Int))))).toNat).drop (1:Int).toNat), ()), (IntKind.i64.wrap ((1:Int) + (IntKind.i64.wrap (x.2.1.getD (0:Int).toNat (0:Int))))), false, ()), ())))) else none))) else ((f_ref1_TakeNum n (x.2.1, ())).bind fun (y5 : (Int × Int × Bool × Unit) × (Unit)) => (if (!y5.1.2.2.1) = true then (some ((((0:Int), (0:Int), [], ()), (0:Int), false, ()), ())) else ((f_ref1_Zag n (y5.1.1, ())).bind fun (y6 : (Int × Unit) × (Unit)) => ((f_ref1_May n ((x.1, y6.1.1, [], ()), ())).bind fun (y7 : (Bool × Unit) × (Unit)) => (if y7.1.1 = true then ((f_ref1_isType n (x.1, ())).bind fun (y8 : (Bool × Unit) × (Unit)) => (some (((x.1, y6.1.1, [], ()), y5.1.2.1, y8.1.1, ()), ()))) else (some (((x.1, y6.1.1, [], ()), y5.1.2.1, false, ()), ()))))))))))
def h83 : Hints := ⟨[], []⟩
def ft83 (n : Nat) : List (Nat × FEnt) := [(47, ⟨s47, f_ref1_isType n⟩), (84, ⟨s84, f_ref1_TakeNum n⟩), (87, ⟨s87, f_ref1_Zag n⟩), (97, ⟨s97, f_ref1_May n⟩)]
def c83 (n : Nat) : Ctx := ⟨66, find? tys, find? (ft83 n), gls, [], [], []⟩
theorem e83 (n x) : execFn (c83 n) h83 n Go.Proofs.Tryz.f83 s83 x = f_ref1_takeOne n x := by kernel_rfl
theorem fn83 : P.funcs[83]? = some Go.Proofs.Tryz.f83 := by kernel_rfl
theorem call83 : Callable P 83 := callB_ok (by kernel_rfl)
theorem S83 (A : Amb) (n : Nat) : Sound A P (c83 n) 83 s83 (f_ref1_takeOne n) :=
  execFn_sound mixed (tab rfl) (ft_all (C := c83 n) (l := ft83 n) rfl ⟨⟨call47, (S47 A n).of rfl⟩, ⟨call84, (S84 A n).of rfl⟩, ⟨call87, (S87 A n).of rfl⟩, ⟨call97, (S97 A n).of rfl⟩, trivial⟩) fn83 fun x y h => (e83 n x).trans h
def s99 : Sig := ⟨[.val (.sl .imm 1 tB), .val tI, .val tI], [.val (.sl .imm 8 tU), .val .bool]⟩
/-- rabbet/rabbetref1.TakeBits -/
def f_ref1_TakeBits (n : Nat) (x : List Int × Int × Int × Unit) : Option ((List Int × Bool × Unit) × (Unit)) :=
  (if (decide (x.2.1 < (0:Int))) = true then (some (([], false, ()), ())) else (if (decide ((1000:Int) < x.2.1)) = true then (some (([], false, ()), ())) else (if (decide (x.2.2.1 < (0:Int))) = true then (some (([], false, ()), ())) else (if (decide ((64:Int) < x.2.2.1)) = true then (some (([], false, ()), ())) else (if (!decide ((x.1.length : Int) = (IntKind.i64.wrap ((IntKind.i64.wrap ((IntKind.i64.wrap (x.2.1 * x.2.2.1)) + (7:Int))).tdiv (8:Int))))) = true then (some (([], false, ()), ())) else (if 0 ≤ x.2.1 ∧ x.2.1 ≤ x.2.1 ∧ x.2.1 * 8 ≤ room then (iterF (fun rec2 (s1 : List Int × Int) => (if (decide (s1.2 < x.2.1)) = true then (iterF (fun rec4 (s3 : List Int × Int) => (if (decide ((0:Int) ≤ s3.2)) = true then (atI s1.2 s3.1.length (atI (IntKind.i64.wrap ((IntKind.i64.wrap ((IntKind.i64.wrap (s1.2 * x.2.2.1)) + s3.2)).tdiv (8:Int))) x.1.length (if ((IntKind.i64.wrap ((IntKind.i64.wrap (s1.2 * x.2.2.1)) + s3.2)).tmod (8:Int)) < 0 then none else (atI s1.2 s3.1.length (rec4 ((s3.1.set s1.2.toNat (IntKind.u64.wrap ((IntKind.u64.wrap ((2:Int) * (s3.1.getD s1.2.toNat (0:Int)))) + (IntKind.u64.wrap (((x.1.getD (IntKind.i64.wrap ((IntKind.i64.wrap ((IntKind.i64.wrap (s1.2 * x.2.2.1)) + s3.2)).tdiv (8:Int))).toNat (0:Int)).fdiv (2 ^ min ((IntKind.i64.wrap ((IntKind.i64.wrap (s1.2 * x.2.2.1)) + s3.2)).tmod (8:Int)).toNat IntKind.u8.bits)).tmod (2:Int)))))), (IntKind.i64.wrap (s3.2 - (1:Int))))))))) else (rec2 (s3.1, (IntKind.i64.wrap (s1.2 + (1:Int))))))) n (s1.1, (IntKind.i64.wrap (x.2.2.1 - (1:Int))))) else ((f_ref1_PutBits n (s1.1, x.2.2.1, ())).bind fun (y5 : (List Int × Bool × Unit) × (Unit)) => (if (!decide (y5.1.1 = x.1)) = true then (some (([], false, ()), ())) else (some ((s1.1, true, ()), ())))))) n ((List.replicate x.2.1.toNat (0:Int)), (0:Int))) else none))))))
def h99 : Hints := ⟨[(2, ⟨[(8, .val (.sl .own 8 tU)), (10, .val tI)], [0, 1, 2, 9], []⟩), (0, ⟨[(8, .val (.sl .own 8 tU)), (9, .val tI)], [0, 1, 2], []⟩)], []⟩
def ft99 (n : Nat) : List (Nat × FEnt) := [(75, ⟨s75, f_ref1_PutBits n⟩)]
def c99 (n : Nat) : Ctx := ⟨87, find? tys, find? (ft99 n), gls, [], [], []⟩
theorem e99 (n x) : execFn (c99 n) h99 n Go.Proofs.Tryz.f99 s99 x = f_ref1_TakeBits n x := by kernel_rfl
theorem fn99 : P.funcs[99]? = some Go.Proofs.Tryz.f99 := by kernel_rfl
theorem call99 : Callable P 99 := callB_ok (by kernel_rfl)
theorem S99 (A : Amb) (n : Nat) : Sound A P (c99 n) 99 s99 (f_ref1_TakeBits n) :=
  execFn_sound mixed (tab rfl) (ft_all (C := c99 n) (l := ft99 n) rfl ⟨⟨call75, (S75 A n).of rfl⟩, trivial⟩) fn99 fun x y h => (e99 n x).trans h
def s85 : Sig := ⟨[.val tI, .val tI, .val (.sl .imm 1 tB)], [.val (.sl .own 32 (.st (.pair tI (.pair tI (.pair .str .unit))))), .val .bool]⟩
/-- rabbet/rabbetref1.readDict -/
def f_ref1_readDict (n : Nat) (x : Int × Int × List Int × Unit) : Option (((List (Int × Int × List Int × Unit)) × Bool × Unit) × (Unit)) :=
  ((f_ref1_TakeNum n (x.2.2.1, ())).bind fun (y1 : (Int × Int × Bool × Unit) × (Unit)) => (if (!y1.1.2.2.1) = true then (some (([], false, ()), ())) else (if (decide ((IntKind.u64.wrap x.2.1) < y1.1.1)) = true then (some (([], false, ()), ())) else (if 0 ≤ y1.1.2.1 ∧ y1.1.2.1 ≤ (x.2.2.1.length : Int) then (iterF (fun rec3 (s2 : List Int × (List (Int × Int × List Int × Unit)) × Int) => (if (decide (s2.2.2 < y1.1.1)) = true then ((f_ref1_takeOne n (x.1, s2.1, ())).bind fun (y4 : ((Int × Int × List Int × Unit) × Int × Bool × Unit) × (Unit)) => (if (!y4.1.2.2.1) = true then (some (([], false, ()), ())) else (if (s2.2.1.length + ([y4.1.1] : List (Int × Int × List Int × Unit)).length) * 32 ≤ room then (if 0 ≤ y4.1.2.1 ∧ y4.1.2.1 ≤ (s2.1.length : Int) then (rec3 (((s2.1.take (s2.1.length : Int).toNat).drop y4.1.2.1.toNat), (s2.2.1 ++ ([y4.1.1] : List (Int × Int × List Int × Unit))), (IntKind.u64.wrap (s2.2.2 + (1:Int))))) else none) else none))) else ((f_ref1_width n ((IntKind.u64.wrap (IntKind.i64.wrap ((if (1:Int) ≤ (s2.2.1.length : Int) then (s2.2.1.length : Int) else (1:Int)) - (1:Int)))), ())).bind fun (y5 : (Int × Unit) × (Unit)) => ((f_ref1_TakeBits n (s2.1, x.2.1, y5.1.1, ())).bind fun (y6 : (List Int × Bool × Unit) × (Unit)) => (if (!y6.1.2.1) = true then (some (([], false, ()), ())) else (iterF (fun rec8 (s7 : (List (Int × Int × List Int × Unit)) × Int) => (if (decide (s7.2 < x.2.1)) = true then (atI s7.2 y6.1.1.length (if (decide ((IntKind.u64.wrap (s2.2.1.length : Int)) ≤ (y6.1.1.getD s7.2.toNat (0:Int)))) = true then (some (([], false, ()), ())) else (atI s7.2 y6.1.1.length (atI (y6.1.1.getD s7.2.toNat (0:Int)) s2.2.1.length (if (s7.1.length + ([(s2.2.1.getD (y6.1.1.getD s7.2.toNat (0:Int)).toNat ((0:Int), (0:Int), [], ()))] : List (Int × Int × List Int × Unit)).length) * 32 ≤ room then (rec8 ((s7.1 ++ ([(s2.2.1.getD (y6.1.1.getD s7.2.toNat (0:Int)).toNat ((0:Int), (0:Int), [], ()))] : List (Int × Int × List Int × Unit))), (IntKind.i64.wrap (s7.2 + (1:Int))))) else none))))) else (some ((s7.1, true, ()), ())))) n ([], (0:Int)))))))) n (((x.2.2.1.take (x.2.2.1.length : Int).toNat).drop y1.1.2.1.toNat), [], (0:Int))) else none))))
def h85 : Hints := ⟨[(0, ⟨[(2, .val (.sl .imm 1 tB)), (11, .val (.sl .own 32 (.st (.pair tI (.pair tI (.pair .str .unit)))))), (12, .val tU)], [0, 1, 8], []⟩), (2, ⟨[(17, .val (.sl .own 32 (.st (.pair tI (.pair tI (.pair .str .unit)))))), (18, .val tI)], [1, 11, 16], []⟩)], []⟩
def ft85 (n : Nat) : List (Nat × FEnt) := [(76, ⟨s76, f_ref1_width n⟩), (83, ⟨s83, f_ref1_takeOne n⟩), (84, ⟨s84, f_ref1_TakeNum n⟩), (99, ⟨s99, f_ref1_TakeBits n⟩)]
def c85 (n : Nat) : Ctx := ⟨95, find? tys, find? (ft85 n), gls, [], [], []⟩
theorem e85 (n x) : execFn (c85 n) h85 n Go.Proofs.Tryz.f85 s85 x = f_ref1_readDict n x := by kernel_rfl
theorem fn85 : P.funcs[85]? = some Go.Proofs.Tryz.f85 := by kernel_rfl
theorem call85 : Callable P 85 := callB_ok (by kernel_rfl)
theorem S85 (A : Amb) (n : Nat) : Sound A P (c85 n) 85 s85 (f_ref1_readDict n) :=
  execFn_sound mixed (tab rfl) (ft_all (C := c85 n) (l := ft85 n) rfl ⟨⟨call76, (S76 A n).of rfl⟩, ⟨call83, (S83 A n).of rfl⟩, ⟨call84, (S84 A n).of rfl⟩, ⟨call99, (S99 A n).of rfl⟩, trivial⟩) fn85 fun x y h => (e85 n x).trans h
def s86 : Sig := ⟨[.val tI, .val tI, .val (.sl .imm 1 tB)], [.val (.sl .own 32 (.st (.pair tI (.pair tI (.pair .str .unit))))), .val .bool]⟩
/-- rabbet/rabbetref1.readPack -/
def f_ref1_readPack (n : Nat) (x : Int × Int × List Int × Unit) : Option (((List (Int × Int × List Int × Unit)) × Bool × Unit) × (Unit)) :=
  (if (decide (x.2.1 = (0:Int))) = true then (some (([], (decide ((x.2.2.1.length : Int) = (0:Int))), ()), ())) else ((f_ref1_TakeNum n (x.2.2.1, ())).bind fun (y1 : (Int × Int × Bool × Unit) × (Unit)) => (if (!y1.1.2.2.1) = true then (some (([], false, ()), ())) else (if (decide ((x.2.2.1.length : Int) ≤ y1.1.2.1)) = true then (some (([], false, ()), ())) else (if 0 ≤ (IntKind.i64.wrap (y1.1.2.1 + (1:Int))) ∧ (IntKind.i64.wrap (y1.1.2.1 + (1:Int))) ≤ (x.2.2.1.length : Int) then (atI y1.1.2.1 x.2.2.1.length ((f_ref1_TakeBits n (((x.2.2.1.take (x.2.2.1.length : Int).toNat).drop (IntKind.i64.wrap (y1.1.2.1 + (1:Int))).toNat), x.2.1, (IntKind.i64.wrap (x.2.2.1.getD y1.1.2.1.toNat (0:Int))), ())).bind fun (y2 : (List Int × Bool × Unit) × (Unit)) => (if (!y2.1.2.1) = true then (some (([], false, ()), ())) else (iterF (fun rec4 (s3 : (List (Int × Int × List Int × Unit)) × Int) => (if (decide (s3.2 < x.2.1)) = true then ((f_ref1_Zag n (y1.1.1, ())).bind fun (y5 : (Int × Unit) × (Unit)) => (atI s3.2 y2.1.1.length (if (s3.1.length + ([(x.1, (IntKind.i64.wrap (IntKind.u64.wrap ((IntKind.u64.wrap y5.1.1) + (y2.1.1.getD s3.2.toNat (0:Int))))), [], ())] : List (Int × Int × List Int × Unit)).length) * 32 ≤ room then (rec4 ((s3.1 ++ ([(x.1, (IntKind.i64.wrap (IntKind.u64.wrap ((IntKind.u64.wrap y5.1.1) + (y2.1.1.getD s3.2.toNat (0:Int))))), [], ())] : List (Int × Int × List Int × Unit))), (IntKind.i64.wrap (s3.2 + (1:Int))))) else none))) else (some ((s3.1, true, ()), ())))) n ([], (0:Int)))))) else none)))))
def h86 : Hints := ⟨[(0, ⟨[(12, .val (.sl .own 32 (.st (.pair tI (.pair tI (.pair .str .unit)))))), (13, .val tI)], [0, 1, 8, 11], []⟩)], []⟩
def ft86 (n : Nat) : List (Nat × FEnt) := [(84, ⟨s84, f_ref1_TakeNum n⟩), (87, ⟨s87, f_ref1_Zag n⟩), (99, ⟨s99, f_ref1_TakeBits n⟩)]
def c86 (n : Nat) : Ctx := ⟨69, find? tys, find? (ft86 n), gls, [], [], []⟩
theorem e86 (n x) : execFn (c86 n) h86 n Go.Proofs.Tryz.f86 s86 x = f_ref1_readPack n x := by kernel_rfl
theorem fn86 : P.funcs[86]? = some Go.Proofs.Tryz.f86 := by kernel_rfl
theorem call86 : Callable P 86 := callB_ok (by kernel_rfl)
theorem S86 (A : Amb) (n : Nat) : Sound A P (c86 n) 86 s86 (f_ref1_readPack n) :=
  execFn_sound mixed (tab rfl) (ft_all (C := c86 n) (l := ft86 n) rfl ⟨⟨call84, (S84 A n).of rfl⟩, ⟨call87, (S87 A n).of rfl⟩, ⟨call99, (S99 A n).of rfl⟩, trivial⟩) fn86 fun x y h => (e86 n x).trans h
def s48 : Sig := ⟨[.val tI, .val tI, .val tI, .val (.sl .imm 1 tB)], [.val (.sl .own 32 (.st (.pair tI (.pair tI (.pair .str .unit))))), .val .bool]⟩
/-- rabbet/rabbetref1.read -/
def f_ref1_read (n : Nat) (x : Int × Int × Int × List Int × Unit) : Option (((List (Int × Int × List Int × Unit)) × Bool × Unit) × (Unit)) :=
  (if (decide (x.1 = (1:Int))) = true then (iterF (fun rec2 (s1 : List Int × List (Int × Int × List Int × Unit)) => (if (decide ((s1.2.length : Int) < x.2.2.1)) = true then ((f_ref1_takeOne n (x.2.1, s1.1, ())).bind fun (y3 : ((Int × Int × List Int × Unit) × Int × Bool × Unit) × (Unit)) => (if (!y3.1.2.2.1) = true then (some (([], false, ()), ())) else (if (s1.2.length + ([y3.1.1] : List (Int × Int × List Int × Unit)).length) * 32 ≤ room then (if 0 ≤ y3.1.2.1 ∧ y3.1.2.1 ≤ (s1.1.length : Int) then (rec2 (((s1.1.take (s1.1.length : Int).toNat).drop y3.1.2.1.toNat), (s1.2 ++ ([y3.1.1] : List (Int × Int × List Int × Unit))))) else none) else none))) else (some ((s1.2, true, ()), ())))) n (x.2.2.2.1, [])) else (if (decide (x.1 = (2:Int))) = true then (iterF (fun rec5 (s4 : List Int × List (Int × Int × List Int × Unit)) => (if (decide ((s4.2.length : Int) < x.2.2.1)) = true then ((f_ref1_TakeNum n (s4.1, ())).bind fun (y6 : (Int × Int × Bool × Unit) × (Unit)) => (if (!y6.1.2.2.1) = true then (some (([], false, ()), ())) else (if (decide (y6.1.1 = (0:Int))) = true then (some (([], false, ()), ())) else (if (decide ((IntKind.u64.wrap (IntKind.i64.wrap (x.2.2.1 - (s4.2.length : Int)))) < y6.1.1)) = true then (some (([], false, ()), ())) else (if 0 ≤ y6.1.2.1 ∧ y6.1.2.1 ≤ (s4.1.length : Int) then ((f_ref1_takeOne n (x.2.1, ((s4.1.take (s4.1.length : Int).toNat).drop y6.1.2.1.toNat), ())).bind fun (y7 : ((Int × Int × List Int × Unit) × Int × Bool × Unit) × (Unit)) => (if (!y7.1.2.2.1) = true then (some (([], false, ()), ())) else (iterF (fun rec9 (s8 : (List (Int × Int × List Int × Unit)) × Int) => (if (decide (s8.2 < y6.1.1)) = true then (if (s8.1.length + ([y7.1.1] : List (Int × Int × List Int × Unit)).length) * 32 ≤ room then (rec9 ((s8.1 ++ ([y7.1.1] : List (Int × Int × List Int × Unit))), (IntKind.u64.wrap (s8.2 + (1:Int))))) else none) else (if 0 ≤ (IntKind.i64.wrap (y6.1.2.1 + y7.1.2.1)) ∧ (IntKind.i64.wrap (y6.1.2.1 + y7.1.2.1)) ≤ (s4.1.length : Int) then (rec5 (((s4.1.take (s4.1.length : Int).toNat).drop (IntKind.i64.wrap (y6.1.2.1 + y7.1.2.1)).toNat), s8.1)) else none))) n (s4.2, (0:Int))))) else none))))) else (some ((s4.2, true, ()), ())))) n (x.2.2.2.1, [])) else (if (decide (x.1 = (3:Int))) = true then ((f_ref1_readDict n (x.2.1, x.2.2.1, x.2.2.2.1, ())).bind fun (y10 : ((List (Int × Int × List Int × Unit)) × Bool × Unit) × (Unit)) => (some ((y10.1.1, y10.1.2.1, ()), ()))) else (if (decide (x.1 = (4:Int))) = true then ((f_ref1_readPack n (x.2.1, x.2.2.1, x.2.2.2.1, ())).bind fun (y11 : ((List (Int × Int × List Int × Unit)) × Bool × Unit) × (Unit)) => (some ((y11.1.1, y11.1.2.1, ()), ()))) else (if (decide (x.1 = (5:Int))) = true then (iterF (fun rec13 (s12 : List Int × (List (Int × Int × List Int × Unit)) × Int) => (if (decide ((s12.2.1.length : Int) < x.2.2.1)) = true then ((f_ref1_TakeNum n (s12.1, ())).bind fun (y14 : (Int × Int × Bool × Unit) × (Unit)) => (if (!y14.1.2.2.1) = true then (some (([], false, ()), ())) else ((f_ref1_Zag n (y14.1.1, ())).bind fun (y15 : (Int × Unit) × (Unit)) => (if 0 ≤ y14.1.2.1 ∧ y14.1.2.1 ≤ (s12.1.length : Int) then (if (s12.2.1.length + ([(x.2.1, (IntKind.i64.wrap (s12.2.2 + y15.1.1)), [], ())] : List (Int × Int × List Int × Unit)).length) * 32 ≤ room then (rec13 (((s12.1.take (s12.1.length : Int).toNat).drop y14.1.2.1.toNat), (s12.2.1 ++ ([(x.2.1, (IntKind.i64.wrap (s12.2.2 + y15.1.1)), [], ())] : List (Int × Int × List Int × Unit))), (IntKind.i64.wrap (s12.2.2 + y15.1.1)))) else none) else none)))) else (some ((s12.2.1, true, ()), ())))) n (x.2.2.2.1, [], (0:Int))) else (some (([], true, ()), ())))))))
def h48 : Hints := ⟨[(1, ⟨[(3, .val (.sl .imm 1 tB)), (10, .val (.sl .own 32 (.st (.pair tI (.pair tI (.pair .str .unit))))))], [1, 2], []⟩), (5, ⟨[(10, .val (.sl .own 32 (.st (.pair tI (.pair tI (.pair .str .unit)))))), (20, .val tU)], [1, 2, 3, 14, 15, 17, 18], []⟩), (3, ⟨[(3, .val (.sl .imm 1 tB)), (10, .val (.sl .own 32 (.st (.pair tI (.pair tI (.pair .str .unit))))))], [1, 2], []⟩), (7, ⟨[(3, .val (.sl .imm 1 tB)), (10, .val (.sl .own 32 (.st (.pair tI (.pair tI (.pair .str .unit)))))), (21, .val tI)], [1, 2], []⟩)], []⟩
def ft48 (n : Nat) : List (Nat × FEnt) := [(83, ⟨s83, f_ref1_takeOne n⟩), (84, ⟨s84, f_ref1_TakeNum n⟩), (85, ⟨s85, f_ref1_readDict n⟩), (86, ⟨s86, f_ref1_readPack n⟩), (87, ⟨s87, f_ref1_Zag n⟩)]
def c48 (n : Nat) : Ctx := ⟨144, find? tys, find? (ft48 n), gls, [], [], []⟩
theorem e48 (n x) : execFn (c48 n) h48 n Go.Proofs.Tryz.f48 s48 x = f_ref1_read n x := by kernel_rfl
theorem fn48 : P.funcs[48]? = some Go.Proofs.Tryz.f48 := by kernel_rfl
theorem call48 : Callable P 48 := callB_ok (by kernel_rfl)
theorem S48 (A : Amb) (n : Nat) : Sound A P (c48 n) 48 s48 (f_ref1_read n) :=
  execFn_sound mixed (tab rfl) (ft_all (C := c48 n) (l := ft48 n) rfl ⟨⟨call83, (S83 A n).of rfl⟩, ⟨call84, (S84 A n).of rfl⟩, ⟨call85, (S85 A n).of rfl⟩, ⟨call86, (S86 A n).of rfl⟩, ⟨call87, (S87 A n).of rfl⟩, trivial⟩) fn48 fun x y h => (e48 n x).trans h
def s1000012 : Sig := ⟨[.val tI, .val tI, .sio (.sl .own 32 (.st (.pair tI (.pair tI (.pair .str .unit)))))], [.val (.sl .own 1 tB), .val .bool]⟩
/-- rabbet/rabbetref1.Encode, its last argument lent -/
def f_lend_ref1_Encode (n : Nat) (x : Int × Int × (List (Int × Int × List Int × Unit)) × Unit) : Option ((List Int × Bool × Unit) × ((List (Int × Int × List Int × Unit)) × Unit)) :=
  (f_ref1_Encode n (x.1, x.2.1, x.2.2.1, ())).map fun y => (y.1, x.2.2.1, ())
theorem S1000012 (A : Amb) (n : Nat) : Sound A P (c12 n) 12 s1000012 (f_lend_ref1_Encode n) :=
  lend_sound (e := 32) (te := (.st (.pair tI (.pair tI (.pair .str .unit))))) (ts := [tI, tI]) rfl rfl rfl (S12 A n)
def s15 : Sig := ⟨[.val tI, .val tI, .val tI, .val (.sl .imm 1 tB)], [.val (.sl .own 32 (.st (.pair tI (.pair tI (.pair .str .unit))))), .val .bool]⟩
/-- rabbet/rabbetref1.Decode -/
def f_ref1_Decode (n : Nat) (x : Int × Int × Int × List Int × Unit) : Option (((List (Int × Int × List Int × Unit)) × Bool × Unit) × (Unit)) :=
  (if (decide (x.2.2.1 < (0:Int))) = true then (some (([], false, ()), ())) else (if (decide ((1000:Int) < x.2.2.1)) = true then (some (([], false, ()), ())) else ((f_ref1_isType n (x.2.1, ())).bind fun (y1 : (Bool × Unit) × (Unit)) => (if (!y1.1.1) = true then (some (([], false, ()), ())) else ((f_ref1_read n (x.1, x.2.1, x.2.2.1, x.2.2.2.1, ())).bind fun (y2 : ((List (Int × Int × List Int × Unit)) × Bool × Unit) × (Unit)) => ((f_lend_ref1_Encode n (x.1, x.2.1, y2.1.1, ())).bind fun (y3 : (List Int × Bool × Unit) × ((List (Int × Int × List Int × Unit)) × Unit)) => (if (!y2.1.2.1) = true then (some (([], false, ()), ())) else (if (!y3.1.2.1) = true then (some (([], false, ()), ())) else (if (!decide ((y3.2.1.length : Int) = x.2.2.1)) = true then (some (([], false, ()), ())) else (if (!decide (y3.1.1 = x.2.2.2.1)) = true then (some (([], false, ()), ())) else (some ((y3.2.1, true, ()), ()))))))))))))
def h15 : Hints := ⟨[], []⟩
def ft15 (n : Nat) : List (Nat × FEnt) := [(12, ⟨s1000012, f_lend_ref1_Encode n⟩), (47, ⟨s47, f_ref1_isType n⟩), (48, ⟨s48, f_ref1_read n⟩)]
def c15 (n : Nat) : Ctx := ⟨60, find? tys, find? (ft15 n), gls, [], [], []⟩
theorem e15 (n x) : execFn (c15 n) h15 n Go.Proofs.Tryz.f15 s15 x = f_ref1_Decode n x := by kernel_rfl
theorem fn15 : P.funcs[15]? = some Go.Proofs.Tryz.f15 := by kernel_rfl
theorem call15 : Callable P 15 := callB_ok (by kernel_rfl)
theorem S15 (A : Amb) (n : Nat) : Sound A P (c15 n) 15 s15 (f_ref1_Decode n) :=
  execFn_sound mixed (tab rfl) (ft_all (C := c15 n) (l := ft15 n) rfl ⟨⟨call12, (S1000012 A n).of rfl⟩, ⟨call47, (S47 A n).of rfl⟩, ⟨call48, (S48 A n).of rfl⟩, trivial⟩) fn15 fun x y h => (e15 n x).trans h
def s1000015 : Sig := ⟨[.val tI, .val tI, .val tI, .sio (.sl .own 1 tB)], [.val (.sl .own 32 (.st (.pair tI (.pair tI (.pair .str .unit))))), .val .bool]⟩
/-- rabbet/rabbetref1.Decode, its last argument lent -/
def f_lend_ref1_Decode (n : Nat) (x : Int × Int × Int × List Int × Unit) : Option (((List (Int × Int × List Int × Unit)) × Bool × Unit) × (List Int × Unit)) :=
  (f_ref1_Decode n (x.1, x.2.1, x.2.2.1, x.2.2.2.1, ())).map fun y => (y.1, x.2.2.2.1, ())
theorem S1000015 (A : Amb) (n : Nat) : Sound A P (c15 n) 15 s1000015 (f_lend_ref1_Decode n) :=
  lend_sound (e := 1) (te := tB) (ts := [tI, tI, tI]) rfl rfl rfl (S15 A n)
def s13 : Sig := ⟨[.val (.sl .imm 1 tB)], [.val (.lf .hnd)]⟩
/-- rabbet/rabbetlaw0.Handed -/
def f_law0_Handed (_n : Nat) (x : List Int × Unit) : Option ((List Int × Unit) × (Unit)) := handedF x
theorem nt13 : Go.Proofs.Tryz.f13.ntmps = 45 := by kernel_rfl
theorem fn13 : P.funcs[13]? = some Go.Proofs.Tryz.f13 := by kernel_rfl
theorem call13 : Callable P 13 := callB_ok (by kernel_rfl)
theorem inf13 : (P.info? 5).map (fun i => (i.zero, i.size, i.bytes)) = some (some (Value.int .u8 0), 1, 1) := by kernel_rfl
theorem uT13 : P.underlying 22 = some (.slice 5) := by kernel_rfl
theorem mk13 (n : Nat) (hn : n + 5 ≤ 140737488355328) (w : World) : (Instr.makeSlice 22 (.int .i64 (n : Int)) (.int .i64 ((n : Int) + 5))).run P w = .ok (.slice (some ⟨w.heap.size, 0, none⟩) n (n + 5)) (w.alloc (.cells (madeCells #[.int .u8 0] (n + 5)) 5)) := by
  obtain ⟨i, hi, hzz⟩ := Option.map_eq_some_iff.1 inf13
  simp only [Prod.mk.injEq] at hzz
  obtain ⟨hz, hs, hb⟩ := hzz
  have := run_make (P := P) w 22 5 i _ uT13 hi hz .i64 .i64 (n : Int) ((n : Int) + 5) (by omega) (by omega) (by rw [hb]; omega) (by omega)
  rw [hs, Nat.mul_one, Int.toNat_natCast, show ((n : Int) + 5).toNat = n + 5 by omega] at this
  exact this
set_option maxHeartbeats 4000000 in
set_option maxRecDepth 1000000 in
theorem handed_raw13 (bs os n cap : Nat) (xs : List Int) (w : World) (hr : ∀ i, i < n → 0 ≤ xs.getD i 0 ∧ xs.getD i 0 < 256) (hsrc : ∀ i, i < n → w.cell? ⟨bs, os + i, none⟩ = some (.int .u8 (xs.getD i 0))) (hb : bs < w.heap.size) (hbig : n + 5 ≤ 140737488355328) :
    Calls P 13 #[.slice (some ⟨bs, os, none⟩) n cap] w fun e w' => e = .returned (.slice (some ⟨w.heap.size, 0, none⟩) n (n + 5)) ∧ w'.rowIs w.heap.size 5 (n + 5) (HF xs n 5) ∧ Below w.heap.size w w' := by
  have hmk := mk13 n hbig
  have HS : Hid (∀ i, i < n → w.cell? ⟨bs, os + i, none⟩ = some (.int .u8 (xs.getD i 0))) := hsrc
  have HR : Hid (∀ i, i < n → 0 ≤ xs.getD i 0 ∧ xs.getD i 0 < 256) := hr
  clear hsrc hr
  go_enter fn13, nt13
  go_wp2
  go_loopw [4] (fun v4 wr => ∃ k : Nat, k ≤ n ∧ v4 = .int .i64 k ∧ Hid (wr.rowIs w.heap.size 5 (n + 5) (HG xs k)) ∧ Hid (Below w.heap.size w wr)) (fun v4 _ => n - (RowKit.intOf v4).toNat)
  case atStart => exact ⟨0, Nat.zero_le _, rfl, (World.rowIs_made w _ _ _).congr (fun j _ => by simp [HG]), (Below.refl _ w).alloc (Nat.le_refl _) _⟩
  case round =>
    obtain ⟨k, hk, rfl, hrw, hbw⟩ := hrel
    obtain ⟨x, hxk⟩ : ∃ x, x = xs.getD k 0 := ⟨_, rfl⟩
    have hcx : k < n → wr.cell? ⟨bs, os + k, none⟩ = some (.int .u8 x) := fun h => by rw [hxk]; exact (hbw.out.cell hb).trans (HS.out k h)
    have HX : Hid (x = xs.getD k 0) := hxk
    clear hxk
    have hf1 : wr.frozen? ⟨w.heap.size, k, none⟩ = false := hrw.out.frozen _
    have hc1 : k < n → wr.cell? ⟨w.heap.size, k, none⟩ = some (HG xs k k) := fun h => hrw.out.cell (by omega)
    go_wp2
    · have hlt : k < n := by assumption
      go_roundw
      case rel =>
        refine ⟨k + 1, by omega, by go_num, (hrw.out.set _ _).congr (fun j _ => ?_), hbw.out.setCell (Nat.le_refl _) _⟩
        simp only [HG]
        by_cases hjk : j = k
        · subst hjk
          rw [if_pos rfl, if_pos (by omega), HX.out]
        · rw [if_neg hjk]
          by_cases h : j < k
          · rw [if_pos h, if_pos (by omega)]
          · rw [if_neg h, if_neg (by omega)]
      case measure => simp [RowKit.intOf]; omega
    · have hk2 : k = n := by omega
      subst hk2
      go_loopw [6] (fun v6 wr2 => ∃ m : Nat, m ≤ 5 ∧ v6 = .int .i64 m ∧ Hid (wr2.rowIs w.heap.size 5 (k + 5) (HF xs k m)) ∧ Hid (Below w.heap.size w wr2)) (fun v6 _ => 5 - (RowKit.intOf v6).toNat)
      case atStart =>
        refine ⟨0, Nat.zero_le _, rfl, hrw.out.congr (fun j _ => ?_), hbw.out⟩
        simp only [HG, HF]
        by_cases h : j < k
        · rw [if_pos h, if_pos h]
        · rw [if_neg h, if_neg h, if_neg (by omega)]
      case round =>
        obtain ⟨m, hm, rfl, hrw2, hbw2⟩ := hrel
        have hf2 : wr.frozen? ⟨w.heap.size, k + m, none⟩ = false := hrw2.out.frozen _
        have hc2 : (m : Int) < 5 → wr.cell? ⟨w.heap.size, k + m, none⟩ = some (HF xs k m (k + m)) := fun h => hrw2.out.cell (by omega)
        clear hrw hbw hcx hf1 hc1
        go_wp2
        · have hlt : (m : Int) < 5 := by assumption
          go_roundw
          case rel =>
            refine ⟨m + 1, by omega, by go_num, (hrw2.out.set _ _).congr (fun j _ => ?_), hbw2.out.setCell (Nat.le_refl _) _⟩
            simp only [HF]
            by_cases hjk : j = k + m
            · subst hjk
              rw [if_pos rfl, if_neg (by omega), if_pos (by omega)]
              congr 1
              omega
            · rw [if_neg hjk]
              by_cases h : j < k
              · rw [if_pos h, if_pos h]
              · rw [if_neg h, if_neg h]
                by_cases h2 : j < k + m
                · rw [if_pos h2, if_pos (by omega)]
                · rw [if_neg h2, if_neg (by omega)]
          case measure => simp [RowKit.intOf]; omega
        · obtain rfl : m = 5 := by omega
          go_ret
          exact ⟨rfl, hrw2.out, hbw2.out⟩
set_option maxHeartbeats 4000000 in
set_option maxRecDepth 1000000 in
theorem handed_nil13 (a : Option Addr) (cap : Nat) (w : World) :
    Calls P 13 #[.slice a 0 cap] w fun e w' => e = .returned (.slice (some ⟨w.heap.size, 0, none⟩) 0 5) ∧ w'.rowIs w.heap.size 5 5 (HF [] 0 5) ∧ Below w.heap.size w w' := by
  have hmk : ∀ w : World, (Instr.makeSlice 22 (.int .i64 0) (.int .i64 5)).run P w = .ok (.slice (some ⟨w.heap.size, 0, none⟩) 0 5) (w.alloc (.cells (madeCells #[.int .u8 0] 5) 5)) := fun w => mk13 0 (by omega) w
  go_enter fn13, nt13
  go_wp2
  go_loopw [4] (fun v4 wr => v4 = .int .i64 0 ∧ Hid (wr.rowIs w.heap.size 5 5 (HF [] 0 0)) ∧ Hid (Below w.heap.size w wr)) (fun v4 _ => 0)
  case atStart => exact ⟨rfl, (World.rowIs_made w _ _ _).congr (fun j _ => by simp [HF]), (Below.refl _ w).alloc (Nat.le_refl _) _⟩
  case round =>
    obtain ⟨rfl, hrw, hbw⟩ := hrel
    go_wp2
    go_loopw [6] (fun v6 wr2 => ∃ m : Nat, m ≤ 5 ∧ v6 = .int .i64 m ∧ Hid (wr2.rowIs w.heap.size 5 5 (HF [] 0 m)) ∧ Hid (Below w.heap.size w wr2)) (fun v6 _ => 5 - (RowKit.intOf v6).toNat)
    case atStart => exact ⟨0, Nat.zero_le _, rfl, hrw.out, hbw.out⟩
    case round =>
      obtain ⟨m, hm, rfl, hrw2, hbw2⟩ := hrel
      have hf2 : wr.frozen? ⟨w.heap.size, m, none⟩ = false := hrw2.out.frozen _
      have hc2 : (m : Int) < 5 → wr.cell? ⟨w.heap.size, m, none⟩ = some (HF [] 0 m m) := fun h => hrw2.out.cell (by omega)
      clear hrw hbw
      go_wp2
      · have hlt : (m : Int) < 5 := by assumption
        go_roundw
        case rel =>
          refine ⟨m + 1, by omega, by go_num, (hrw2.out.set _ _).congr (fun j _ => ?_), hbw2.out.setCell (Nat.le_refl _) _⟩
          simp only [HF]
          by_cases hjk : j = m
          · subst hjk
            rw [if_pos rfl, if_neg (by omega), if_pos (by omega)]
            congr 1
          · rw [if_neg hjk]
            simp only [Nat.not_lt_zero, if_false, Nat.zero_add]
            by_cases h2 : j < m
            · rw [if_pos h2, if_pos (by omega)]
            · rw [if_neg h2, if_neg (by omega)]
        case measure => simp [RowKit.intOf]; omega
      · obtain rfl : m = 5 := by omega
        go_ret
        exact ⟨rfl, hrw2.out, hbw2.out⟩
theorem S13 (A : Amb) (n : Nat) : Sound A P cH 13 s13 (f_law0_Handed n) := handed_sound handed_nil13 handed_raw13
def s17 : Sig := ⟨[.val (.lf .hnd), .val (.sl .imm 1 tB)], [.val .bool]⟩
/-- rabbet/rabbetlaw0.Same -/
def f_law0_Same (_n : Nat) (x : List Int × List Int × Unit) : Option ((Bool × Unit) × (Unit)) := sameF x
theorem nt17 : Go.Proofs.Tryz.f17.ntmps = 40 := by kernel_rfl
theorem fn17 : P.funcs[17]? = some Go.Proofs.Tryz.f17 := by kernel_rfl
theorem call17 : Callable P 17 := callB_ok (by kernel_rfl)
set_option maxHeartbeats 4000000 in
set_option maxRecDepth 1000000 in
theorem same_no17 (bx n m capb : Nat) (b : Option Addr) (sx sy : ByteArray) (w : World) (h1 : (convert 22 9 (.slice (some ⟨bx, 0, none⟩) n (n + 5))).run P w = .ok (.string sx) w) (h2 : (convert 22 9 (.slice b m capb)).run P w = .ok (.string sy) w) (hne : ¬ sx.toList = sy.toList) :
    Calls P 17 #[.slice (some ⟨bx, 0, none⟩) n (n + 5), .slice b m capb] w fun e w' => e = .returned (.bool false) ∧ w' = w := by
  go_enter fn17, nt17
  go_wp2
  go_ret
  exact ⟨rfl, rfl⟩
set_option maxHeartbeats 4000000 in
set_option maxRecDepth 1000000 in
theorem same_yes17 (bx n capb : Nat) (b : Option Addr) (sx : ByteArray) (w : World) (h1 : (convert 22 9 (.slice (some ⟨bx, 0, none⟩) n (n + 5))).run P w = .ok (.string sx) w) (h2 : (convert 22 9 (.slice b n capb)).run P w = .ok (.string sx) w) (hcell : ∀ i : Nat, i < 5 → w.cell? ⟨bx, n + i, none⟩ = some (.int .u8 (161 + (i : Int)))) (hbig : n + 5 ≤ 140737488355328) :
    Calls P 17 #[.slice (some ⟨bx, 0, none⟩) n (n + 5), .slice b n capb] w fun e w' => e = .returned (.bool true) ∧ w' = w := by
  have HC : Hid (∀ i : Nat, i < 5 → w.cell? ⟨bx, n + i, none⟩ = some (.int .u8 (161 + (i : Int)))) := hcell
  clear hcell
  go_enter fn17, nt17
  go_wp2
  go_loop [6] (fun v6 => ∃ m : Nat, m ≤ 5 ∧ v6 = .int .i64 m) (fun v6 => 5 - (RowKit.intOf v6).toNat)
  case atStart => exact ⟨0, Nat.zero_le _, rfl⟩
  case round =>
    obtain ⟨m, hm, rfl⟩ := hrel
    have hc2 : (m : Int) < 5 → w.cell? ⟨bx, n + m, none⟩ = some (.int .u8 (161 + (m : Int))) := fun h => HC.out m (by omega)
    go_wp2
    · have hlt : (m : Int) < 5 := by assumption
      go_round
      case rel => exact ⟨m + 1, by omega, by go_num⟩
      case measure => simp [RowKit.intOf]; omega
    · go_ret
      exact ⟨rfl, rfl⟩
theorem S17 (A : Amb) (n : Nat) : Sound A P cH 17 s17 (f_law0_Same n) := same_sound (T := 22) (E := 5) (S := 9) (by kernel_rfl) (by kernel_rfl) (by kernel_rfl) same_no17 same_yes17
def s2000011 : Sig := ⟨[.val tI, .val (.sl .imm 32 (.st (.pair tI (.pair tI (.pair .str .unit)))))], [.val (.sl .imm 1 tB), .val .bool]⟩
theorem S2000011 (A : Amb) (n : Nat) : Sound A P (c11 n) 11 s2000011 (f_dict_Put n) :=
  froze_sound (e := 1) (te := tB) rfl rfl rfl (S11 A n)
def s2000012 : Sig := ⟨[.val tI, .val tI, .val (.sl .imm 32 (.st (.pair tI (.pair tI (.pair .str .unit)))))], [.val (.sl .imm 1 tB), .val .bool]⟩
theorem S2000012 (A : Amb) (n : Nat) : Sound A P (c12 n) 12 s2000012 (f_ref1_Encode n) :=
  froze_sound (e := 1) (te := tB) rfl rfl rfl (S12 A n)
def s2000014 : Sig := ⟨[.val tI, .val tI, .val (.sl .imm 1 tB)], [.val (.sl .imm 32 (.st (.pair tI (.pair tI (.pair .str .unit))))), .val .bool]⟩
theorem S2000014 (A : Amb) (hA : HA A) (n : Nat) : Sound A P (c14 n) 14 s2000014 (f_dict_Take n) :=
  froze_sound (e := 32) (te := (.st (.pair tI (.pair tI (.pair .str .unit))))) rfl rfl rfl (S14 A hA n)
def s2000015 : Sig := ⟨[.val tI, .val tI, .val tI, .val (.sl .imm 1 tB)], [.val (.sl .imm 32 (.st (.pair tI (.pair tI (.pair .str .unit))))), .val .bool]⟩
theorem S2000015 (A : Amb) (n : Nat) : Sound A P (c15 n) 15 s2000015 (f_ref1_Decode n) :=
  froze_sound (e := 32) (te := (.st (.pair tI (.pair tI (.pair .str .unit))))) rfl rfl rfl (S15 A n)
end Go.Rb.R3
