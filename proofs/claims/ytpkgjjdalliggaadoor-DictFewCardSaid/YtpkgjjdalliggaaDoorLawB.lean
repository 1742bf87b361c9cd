/- The functions that the law runs, as pure functions; that their code is computed so, and their contracts. Printed by a program of our own. -/
import Derived.Test.YtpkgjjdalliggaaDoorLawA
set_option linter.unusedVariables false
set_option linter.unusedSimpArgs false
namespace Go.Rb.R2
open Go.Rb
open Go.RowKit
set_option maxRecDepth 100000
def lt_8163acee : List Int := [0, 1, 2, 2, 3, 3, 3, 3, 4, 4, 4, 4, 4, 4, 4, 4, 5, 5, 5, 5, 5, 5, 5, 5, 5, 5, 5, 5, 5, 5, 5, 5, 6, 6, 6, 6, 6, 6, 6, 6, 6, 6, 6, 6, 6, 6, 6, 6, 6, 6, 6, 6, 6, 6, 6, 6, 6, 6, 6, 6, 6, 6, 6, 6, 7, 7, 7, 7, 7, 7, 7, 7, 7, 7, 7, 7, 7, 7, 7, 7, 7, 7, 7, 7, 7, 7, 7, 7, 7, 7, 7, 7, 7, 7, 7, 7, 7, 7, 7, 7, 7, 7, 7, 7, 7, 7, 7, 7, 7, 7, 7, 7, 7, 7, 7, 7, 7, 7, 7, 7, 7, 7, 7, 7, 7, 7, 7, 7, 8, 8, 8, 8, 8, 8, 8, 8, 8, 8, 8, 8, 8, 8, 8, 8, 8, 8, 8, 8, 8, 8, 8, 8, 8, 8, 8, 8, 8, 8, 8, 8, 8, 8, 8, 8, 8, 8, 8, 8, 8, 8, 8, 8, 8, 8, 8, 8, 8, 8, 8, 8, 8, 8, 8, 8, 8, 8, 8, 8, 8, 8, 8, 8, 8, 8, 8, 8, 8, 8, 8, 8, 8, 8, 8, 8, 8, 8, 8, 8, 8, 8, 8, 8, 8, 8, 8, 8, 8, 8, 8, 8, 8, 8, 8, 8, 8, 8, 8, 8, 8, 8, 8, 8, 8, 8, 8, 8, 8, 8, 8, 8, 8, 8, 8, 8, 8, 8, 8, 8, 8, 8, 8, 8, 8, 8, 8, 8]
def s27 : Sig := ⟨[.val (.st (.pair tI (.pair tI (.pair .str .unit))))], [.val .bool]⟩
/-- rabbet/value.May -/
def f_value_May (n : Nat) (x : (Int × Int × List Int × Unit) × Unit) : Option ((Bool × Unit) × (Unit)) :=
  (if (decide (x.1.1 = (1:Int))) = true then (if (decide (x.1.2.1 < (-32768:Int))) = true then (some ((false, ()), ())) else (if (decide ((32767:Int) < x.1.2.1)) = true then (some ((false, ()), ())) else (some (((decide (x.1.2.2.1 = [])), ()), ())))) else (if (decide (x.1.1 = (2:Int))) = true then (some (((decide (x.1.2.2.1 = [])), ()), ())) else (if (decide (x.1.1 = (0:Int))) = true then (if (decide (x.1.2.1 = (0:Int))) = true then (some (((decide (x.1.2.2.1 = [])), ()), ())) else (some ((false, ()), ()))) else (if (decide (x.1.1 = (3:Int))) = true then (if (decide (x.1.2.1 = (0:Int))) = true then (some (((decide (x.1.2.2.1 = [])), ()), ())) else (if (decide (x.1.2.1 = (1:Int))) = true then (some (((decide (x.1.2.2.1 = [])), ()), ())) else (some ((false, ()), ())))) else (if (decide (x.1.1 = (4:Int))) = true then (if (decide (x.1.2.1 = (0:Int))) = true then (some (((decide ((x.1.2.2.1.length : Int) ≤ (20:Int))), ()), ())) else (some ((false, ()), ()))) else (some ((false, ()), ())))))))
def h27 : Hints := ⟨[], []⟩
def ft27 (n : Nat) : List (Nat × FEnt) := []
def c27 (n : Nat) : Ctx := ⟨56, find? tys, find? (ft27 n), gls, [], [1], []⟩
theorem e27 (n x) : execFn (c27 n) h27 n Go.Proofs.Tryd.f27 s27 x = f_value_May n x := by kernel_rfl
theorem fn27 : P.funcs[27]? = some Go.Proofs.Tryd.f27 := by kernel_rfl
theorem call27 : Callable P 27 := callB_ok (by kernel_rfl)
theorem S27 (A : Amb) (n : Nat) : Sound A P (c27 n) 27 s27 (f_value_May n) :=
  execFn_sound mixed (tab rfl) (ft_all (C := c27 n) (l := ft27 n) rfl trivial) fn27 fun x y h => (e27 n x).trans h
def s13 : Sig := ⟨[.val tI, .val (.sl .imm 32 (.st (.pair tI (.pair tI (.pair .str .unit)))))], [.val .bool]⟩
/-- rabbet/dict.of -/
def f_dict_of (n : Nat) (x : Int × (List (Int × Int × List Int × Unit)) × Unit) : Option ((Bool × Unit) × (Unit)) :=
  (if (decide (x.1 < (1:Int))) = true then (some ((false, ()), ())) else (if (decide ((4:Int) < x.1)) = true then (some ((false, ()), ())) else (iterF (fun rec2 (s1 : Int) => (if (decide (s1 < (x.2.1.length : Int))) = true then (atI s1 x.2.1.length (if (!decide ((x.2.1.getD s1.toNat ((0:Int), (0:Int), [], ())).1 = x.1)) = true then (some ((false, ()), ())) else ((f_value_May n ((x.2.1.getD s1.toNat ((0:Int), (0:Int), [], ())), ())).bind fun (y3 : (Bool × Unit) × (Unit)) => (if (!y3.1.1) = true then (some ((false, ()), ())) else (rec2 (IntKind.i64.wrap (s1 + (1:Int)))))))) else (some ((true, ()), ())))) n (0:Int))))
def h13 : Hints := ⟨[(0, ⟨[(15, .val tI)], [0, 13, 14], []⟩)], []⟩
def ft13 (n : Nat) : List (Nat × FEnt) := [(27, ⟨s27, f_value_May n⟩)]
def c13 (n : Nat) : Ctx := ⟨29, find? tys, find? (ft13 n), gls, [], [], []⟩
theorem e13 (n x) : execFn (c13 n) h13 n Go.Proofs.Tryd.f13 s13 x = f_dict_of n x := by kernel_rfl
theorem fn13 : P.funcs[13]? = some Go.Proofs.Tryd.f13 := by kernel_rfl
theorem call13 : Callable P 13 := callB_ok (by kernel_rfl)
theorem S13 (A : Amb) (n : Nat) : Sound A P (c13 n) 13 s13 (f_dict_of n) :=
  execFn_sound mixed (tab rfl) (ft_all (C := c13 n) (l := ft13 n) rfl ⟨⟨call27, (S27 A n).of rfl⟩, trivial⟩) fn13 fun x y h => (e13 n x).trans h
def s53 : Sig := ⟨[.val tI], [.val .bool]⟩
/-- cmp.isNaN[int] -/
def f_cmp_isNaN_int (n : Nat) (x : Int × Unit) : Option ((Bool × Unit) × (Unit)) :=
  (some (((!decide (x.1 = x.1)), ()), ()))
def h53 : Hints := ⟨[], []⟩
def ft53 (n : Nat) : List (Nat × FEnt) := []
def c53 (n : Nat) : Ctx := ⟨6, find? tys, find? (ft53 n), gls, [], [], []⟩
theorem e53 (n x) : execFn (c53 n) h53 n Go.Proofs.Tryd.f53 s53 x = f_cmp_isNaN_int n x := by kernel_rfl
theorem S53 (A : Amb) (n : Nat) : Sound A P (c53 n) 53 s53 (f_cmp_isNaN_int n) :=
  execFn_sound mixed (tab rfl) (ft_all (C := c53 n) (l := ft53 n) rfl trivial) fn53 fun x y h => (e53 n x).trans h
def s30 : Sig := ⟨[.val tI, .val tI], [.val tI]⟩
/-- cmp.Compare[int] -/
def f_cmp_Compare_int (n : Nat) (x : Int × Int × Unit) : Option ((Int × Unit) × (Unit)) :=
  ((f_cmp_isNaN_int n (x.1, ())).bind fun (y1 : (Bool × Unit) × (Unit)) => ((f_cmp_isNaN_int n (x.2.1, ())).bind fun (y2 : (Bool × Unit) × (Unit)) => (if y1.1.1 = true then (if y2.1.1 = true then (some (((0:Int), ()), ())) else (some (((-1:Int), ()), ()))) else (if y2.1.1 = true then (some (((1:Int), ()), ())) else (if (decide (x.1 < x.2.1)) = true then (some (((-1:Int), ()), ())) else (if (decide (x.2.1 < x.1)) = true then (some (((1:Int), ()), ())) else (some (((0:Int), ()), ()))))))))
def h30 : Hints := ⟨[], []⟩
def ft30 (n : Nat) : List (Nat × FEnt) := [(53, ⟨s53, f_cmp_isNaN_int n⟩)]
def c30 (n : Nat) : Ctx := ⟨20, find? tys, find? (ft30 n), gls, [], [], []⟩
theorem e30 (n x) : execFn (c30 n) h30 n Go.Proofs.Tryd.f30 s30 x = f_cmp_Compare_int n x := by kernel_rfl
theorem S30 (A : Amb) (n : Nat) : Sound A P (c30 n) 30 s30 (f_cmp_Compare_int n) :=
  execFn_sound mixed (tab rfl) (ft_all (C := c30 n) (l := ft30 n) rfl ⟨⟨call53, (S53 A n).of rfl⟩, trivial⟩) fn30 fun x y h => (e30 n x).trans h
def s31 : Sig := ⟨[.val (.st (.pair tI (.pair tI (.pair .str .unit))))], [.val tI]⟩
/-- rabbet/value.rank -/
def f_value_rank (n : Nat) (x : (Int × Int × List Int × Unit) × Unit) : Option ((Int × Unit) × (Unit)) :=
  (if (decide (x.1.1 = (0:Int))) = true then (some (((0:Int), ()), ())) else (if (decide (x.1.1 = (4:Int))) = true then (some (((2:Int), ()), ())) else (some (((1:Int), ()), ()))))
def h31 : Hints := ⟨[], []⟩
def ft31 (n : Nat) : List (Nat × FEnt) := []
def c31 (n : Nat) : Ctx := ⟨9, find? tys, find? (ft31 n), gls, [], [1], []⟩
theorem e31 (n x) : execFn (c31 n) h31 n Go.Proofs.Tryd.f31 s31 x = f_value_rank n x := by kernel_rfl
theorem S31 (A : Amb) (n : Nat) : Sound A P (c31 n) 31 s31 (f_value_rank n) :=
  execFn_sound mixed (tab rfl) (ft_all (C := c31 n) (l := ft31 n) rfl trivial) fn31 fun x y h => (e31 n x).trans h
def s32 : Sig := ⟨[.val .str, .val .str], [.val tI]⟩
/-- strings.Compare -/
def f_strings_Compare (n : Nat) (x : List Int × List Int × Unit) : Option ((Int × Unit) × (Unit)) :=
  ((f_bytealg_CompareString n (x.1, x.2.1, ())).bind fun (y1 : (Int × Unit) × (Unit)) => (some ((y1.1.1, ()), ())))
def h32 : Hints := ⟨[], []⟩
def ft32 (n : Nat) : List (Nat × FEnt) := [(54, ⟨s54, f_bytealg_CompareString n⟩)]
def c32 (n : Nat) : Ctx := ⟨8, find? tys, find? (ft32 n), gls, [], [], []⟩
theorem e32 (n x) : execFn (c32 n) h32 n Go.Proofs.Tryd.f32 s32 x = f_strings_Compare n x := by kernel_rfl
theorem S32 (A : Amb) (n : Nat) : Sound A P (c32 n) 32 s32 (f_strings_Compare n) :=
  execFn_sound mixed (tab rfl) (ft_all (C := c32 n) (l := ft32 n) rfl ⟨⟨call54, (S54 A n).of rfl⟩, trivial⟩) fn32 fun x y h => (e32 n x).trans h
def s55 : Sig := ⟨[.val tI], [.val .bool]⟩
/-- cmp.isNaN[int64] -/
def f_cmp_isNaN_int64 (n : Nat) (x : Int × Unit) : Option ((Bool × Unit) × (Unit)) :=
  (some (((!decide (x.1 = x.1)), ()), ()))
def h55 : Hints := ⟨[], []⟩
def ft55 (n : Nat) : List (Nat × FEnt) := []
def c55 (n : Nat) : Ctx := ⟨6, find? tys, find? (ft55 n), gls, [], [], []⟩
theorem e55 (n x) : execFn (c55 n) h55 n Go.Proofs.Tryd.f55 s55 x = f_cmp_isNaN_int64 n x := by kernel_rfl
theorem S55 (A : Amb) (n : Nat) : Sound A P (c55 n) 55 s55 (f_cmp_isNaN_int64 n) :=
  execFn_sound mixed (tab rfl) (ft_all (C := c55 n) (l := ft55 n) rfl trivial) fn55 fun x y h => (e55 n x).trans h
def s33 : Sig := ⟨[.val tI, .val tI], [.val tI]⟩
/-- cmp.Compare[int64] -/
def f_cmp_Compare_int64 (n : Nat) (x : Int × Int × Unit) : Option ((Int × Unit) × (Unit)) :=
  ((f_cmp_isNaN_int64 n (x.1, ())).bind fun (y1 : (Bool × Unit) × (Unit)) => ((f_cmp_isNaN_int64 n (x.2.1, ())).bind fun (y2 : (Bool × Unit) × (Unit)) => (if y1.1.1 = true then (if y2.1.1 = true then (some (((0:Int), ()), ())) else (some (((-1:Int), ()), ()))) else (if y2.1.1 = true then (some (((1:Int), ()), ())) else (if (decide (x.1 < x.2.1)) = true then (some (((-1:Int), ()), ())) else (if (decide (x.2.1 < x.1)) = true then (some (((1:Int), ()), ())) else (some (((0:Int), ()), ()))))))))
def h33 : Hints := ⟨[], []⟩
def ft33 (n : Nat) : List (Nat × FEnt) := [(55, ⟨s55, f_cmp_isNaN_int64 n⟩)]
def c33 (n : Nat) : Ctx := ⟨20, find? tys, find? (ft33 n), gls, [], [], []⟩
theorem e33 (n x) : execFn (c33 n) h33 n Go.Proofs.Tryd.f33 s33 x = f_cmp_Compare_int64 n x := by kernel_rfl
theorem S33 (A : Amb) (n : Nat) : Sound A P (c33 n) 33 s33 (f_cmp_Compare_int64 n) :=
  execFn_sound mixed (tab rfl) (ft_all (C := c33 n) (l := ft33 n) rfl ⟨⟨call55, (S55 A n).of rfl⟩, trivial⟩) fn33 fun x y h => (e33 n x).trans h
def s16 : Sig := ⟨[.val (.st (.pair tI (.pair tI (.pair .str .unit)))), .val (.st (.pair tI (.pair tI (.pair .str .unit))))], [.val tI]⟩
/-- rabbet/value.Compare -/
def f_value_Compare (n : Nat) (x : (Int × Int × List Int × Unit) × (Int × Int × List Int × Unit) × Unit) : Option ((Int × Unit) × (Unit)) :=
  ((f_value_rank n (x.1, ())).bind fun (y1 : (Int × Unit) × (Unit)) => ((f_value_rank n (x.2.1, ())).bind fun (y2 : (Int × Unit) × (Unit)) => ((f_cmp_Compare_int n (y1.1.1, y2.1.1, ())).bind fun (y3 : (Int × Unit) × (Unit)) => (if (!decide (y3.1.1 = (0:Int))) = true then (some ((y3.1.1, ()), ())) else (if (decide (x.1.1 = (0:Int))) = true then (some ((y3.1.1, ()), ())) else (if (decide (x.1.1 = (4:Int))) = true then ((f_strings_Compare n (x.1.2.2.1, x.2.1.2.2.1, ())).bind fun (y4 : (Int × Unit) × (Unit)) => (some ((y4.1.1, ()), ()))) else ((f_cmp_Compare_int64 n (x.1.2.1, x.2.1.2.1, ())).bind fun (y5 : (Int × Unit) × (Unit)) => (some ((y5.1.1, ()), ())))))))))
def h16 : Hints := ⟨[], []⟩
def ft16 (n : Nat) : List (Nat × FEnt) := [(30, ⟨s30, f_cmp_Compare_int n⟩), (31, ⟨s31, f_value_rank n⟩), (32, ⟨s32, f_strings_Compare n⟩), (33, ⟨s33, f_cmp_Compare_int64 n⟩)]
def c16 (n : Nat) : Ctx := ⟨32, find? tys, find? (ft16 n), gls, [], [2, 3], []⟩
theorem e16 (n x) : execFn (c16 n) h16 n Go.Proofs.Tryd.f16 s16 x = f_value_Compare n x := by kernel_rfl
theorem S16 (A : Amb) (n : Nat) : Sound A P (c16 n) 16 s16 (f_value_Compare n) :=
  execFn_sound mixed (tab rfl) (ft_all (C := c16 n) (l := ft16 n) rfl ⟨⟨call30, (S30 A n).of rfl⟩, ⟨call31, (S31 A n).of rfl⟩, ⟨call32, (S32 A n).of rfl⟩, ⟨call33, (S33 A n).of rfl⟩, trivial⟩) fn16 fun x y h => (e16 n x).trans h
def s18 : Sig := ⟨[.val tU], [.val (.sl .own 1 tB)]⟩
/-- rabbet/num.Put -/
def f_num_Put (n : Nat) (x : Int × Unit) : Option ((List Int × Unit) × (Unit)) :=
  (iterF (fun rec2 (s1 : Int × List Int) => (if (decide ((127:Int) < s1.1)) = true then (if (s1.2.length + [(bits .or .u8 (IntKind.u8.wrap s1.1) (128:Int))].length) * 1 ≤ room then (rec2 ((s1.1.fdiv (2 ^ min (7:Int).toNat IntKind.u64.bits)), (s1.2 ++ [(bits .or .u8 (IntKind.u8.wrap s1.1) (128:Int))]))) else none) else (if (s1.2.length + [(IntKind.u8.wrap s1.1)].length) * 1 ≤ room then (some (((s1.2 ++ [(IntKind.u8.wrap s1.1)]), ()), ())) else none))) n (x.1, []))
def h18 : Hints := ⟨[(0, ⟨[(0, .val tU), (2, .val (.sl .own 1 tB))], [], []⟩)], []⟩
def ft18 (n : Nat) : List (Nat × FEnt) := []
def c18 (n : Nat) : Ctx := ⟨18, find? tys, find? (ft18 n), gls, [], [], []⟩
theorem e18 (n x) : execFn (c18 n) h18 n Go.Proofs.Tryd.f18 s18 x = f_num_Put n x := by kernel_rfl
theorem fn18 : P.funcs[18]? = some Go.Proofs.Tryd.f18 := by kernel_rfl
theorem call18 : Callable P 18 := callB_ok (by kernel_rfl)
theorem S18 (A : Amb) (n : Nat) : Sound A P (c18 n) 18 s18 (f_num_Put n) :=
  execFn_sound mixed (tab rfl) (ft_all (C := c18 n) (l := ft18 n) rfl trivial) fn18 fun x y h => (e18 n x).trans h
def s34 : Sig := ⟨[.val tI], [.val tU]⟩
/-- rabbet/num.Zig -/
def f_num_Zig (n : Nat) (x : Int × Unit) : Option ((Int × Unit) × (Unit)) :=
  (some (((bits .xor .u64 (IntKind.u64.wrap ((IntKind.u64.wrap x.1) * 2 ^ min (1:Int).toNat IntKind.u64.bits)) (IntKind.u64.wrap (x.1.fdiv (2 ^ min (63:Int).toNat IntKind.i64.bits)))), ()), ()))
def h34 : Hints := ⟨[], []⟩
def ft34 (n : Nat) : List (Nat × FEnt) := []
def c34 (n : Nat) : Ctx := ⟨10, find? tys, find? (ft34 n), gls, [], [], []⟩
theorem e34 (n x) : execFn (c34 n) h34 n Go.Proofs.Tryd.f34 s34 x = f_num_Zig n x := by kernel_rfl
theorem fn34 : P.funcs[34]? = some Go.Proofs.Tryd.f34 := by kernel_rfl
theorem call34 : Callable P 34 := callB_ok (by kernel_rfl)
theorem S34 (A : Amb) (n : Nat) : Sound A P (c34 n) 34 s34 (f_num_Zig n) :=
  execFn_sound mixed (tab rfl) (ft_all (C := c34 n) (l := ft34 n) rfl trivial) fn34 fun x y h => (e34 n x).trans h
def s19 : Sig := ⟨[.val (.sl .own 1 tB), .val (.st (.pair tI (.pair tI (.pair .str .unit))))], [.val (.sl .own 1 tB)]⟩
/-- rabbet/dict.one -/
def f_dict_one (n : Nat) (x : List Int × (Int × Int × List Int × Unit) × Unit) : Option ((List Int × Unit) × (Unit)) :=
  (if (decide (x.2.1.1 = (3:Int))) = true then (if (x.1.length + [(IntKind.u8.wrap x.2.1.2.1)].length) * 1 ≤ room then (some (((x.1 ++ [(IntKind.u8.wrap x.2.1.2.1)]), ()), ())) else none) else (if (decide (x.2.1.1 = (4:Int))) = true then (if (x.1.length + [(IntKind.u8.wrap (x.2.1.2.2.1.length : Int))].length) * 1 ≤ room then (if ((x.1 ++ [(IntKind.u8.wrap (x.2.1.2.2.1.length : Int))]).length + x.2.1.2.2.1.length) * 1 ≤ room then (some ((((x.1 ++ [(IntKind.u8.wrap (x.2.1.2.2.1.length : Int))]) ++ x.2.1.2.2.1), ()), ())) else none) else none) else ((f_num_Zig n (x.2.1.2.1, ())).bind fun (y1 : (Int × Unit) × (Unit)) => ((f_num_Put n (y1.1.1, ())).bind fun (y2 : (List Int × Unit) × (Unit)) => (if (x.1.length + y2.1.1.length) * 1 ≤ room then (some (((x.1 ++ y2.1.1), ()), ())) else none)))))
def h19 : Hints := ⟨[], []⟩
def ft19 (n : Nat) : List (Nat × FEnt) := [(18, ⟨s18, f_num_Put n⟩), (34, ⟨s34, f_num_Zig n⟩)]
def c19 (n : Nat) : Ctx := ⟨33, find? tys, find? (ft19 n), gls, [], [3], []⟩
theorem e19 (n x) : execFn (c19 n) h19 n Go.Proofs.Tryd.f19 s19 x = f_dict_one n x := by kernel_rfl
theorem fn19 : P.funcs[19]? = some Go.Proofs.Tryd.f19 := by kernel_rfl
theorem call19 : Callable P 19 := callB_ok (by kernel_rfl)
theorem S19 (A : Amb) (n : Nat) : Sound A P (c19 n) 19 s19 (f_dict_one n) :=
  execFn_sound mixed (tab rfl) (ft_all (C := c19 n) (l := ft19 n) rfl ⟨⟨call18, (S18 A n).of rfl⟩, ⟨call34, (S34 A n).of rfl⟩, trivial⟩) fn19 fun x y h => (e19 n x).trans h
def s20 : Sig := ⟨[.val (.sl .imm 32 (.st (.pair tI (.pair tI (.pair .str .unit))))), .val (.st (.pair tI (.pair tI (.pair .str .unit)))), .val (.fn2 (.st (.pair tI (.pair tI (.pair .str .unit)))) (.st (.pair tI (.pair tI (.pair .str .unit)))) tI)], [.val tI, .val .bool]⟩
/-- slices.BinarySearchFunc[[]rabbet/api.Value,rabbet/api.Value,rabbet/api.Value] -/
def f_slices_BinarySearchFunc_Lapi_Value_api_Value_api_Value (n : Nat) (x : (List (Int × Int × List Int × Unit)) × (Int × Int × List Int × Unit) × (((Int × Int × List Int × Unit) → (Int × Int × List Int × Unit) → Option (Int))) × Unit) : Option ((Int × Bool × Unit) × (Unit)) :=
  (iterF (fun rec2 (s1 : Int × Int) => (if (decide (s1.1 < s1.2)) = true then (atI (IntKind.i64.wrap ((IntKind.u64.wrap (IntKind.i64.wrap (s1.1 + s1.2))).fdiv (2 ^ min (1:Int).toNat IntKind.u64.bits))) x.1.length ((x.2.2.1 (x.1.getD (IntKind.i64.wrap ((IntKind.u64.wrap (IntKind.i64.wrap (s1.1 + s1.2))).fdiv (2 ^ min (1:Int).toNat IntKind.u64.bits))).toNat ((0:Int), (0:Int), [], ())) x.2.1).bind fun y3 => (if (decide (y3 < (0:Int))) = true then (rec2 ((IntKind.i64.wrap ((IntKind.i64.wrap ((IntKind.u64.wrap (IntKind.i64.wrap (s1.1 + s1.2))).fdiv (2 ^ min (1:Int).toNat IntKind.u64.bits))) + (1:Int))), s1.2)) else (rec2 (s1.1, (IntKind.i64.wrap ((IntKind.u64.wrap (IntKind.i64.wrap (s1.1 + s1.2))).fdiv (2 ^ min (1:Int).toNat IntKind.u64.bits)))))))) else (if (decide (s1.1 < (x.1.length : Int))) = true then (atI s1.1 x.1.length ((x.2.2.1 (x.1.getD s1.1.toNat ((0:Int), (0:Int), [], ())) x.2.1).bind fun y4 => (some ((s1.1, (decide (y4 = (0:Int))), ()), ())))) else (some ((s1.1, false, ()), ()))))) n ((0:Int), (x.1.length : Int)))
def h20 : Hints := ⟨[(0, ⟨[(9, .val tI), (10, .val tI)], [0, 2, 4, 8], []⟩)], []⟩
def ft20 (n : Nat) : List (Nat × FEnt) := []
def c20 (n : Nat) : Ctx := ⟨49, find? tys, find? (ft20 n), gls, [], [4], []⟩
theorem e20 (n x) : execFn (c20 n) h20 n Go.Proofs.Tryd.f20 s20 x = f_slices_BinarySearchFunc_Lapi_Value_api_Value_api_Value n x := by kernel_rfl
theorem fn20 : P.funcs[20]? = some Go.Proofs.Tryd.f20 := by kernel_rfl
theorem call20 : Callable P 20 := callB_ok (by kernel_rfl)
theorem S20 (A : Amb) (n : Nat) : Sound A P (c20 n) 20 s20 (f_slices_BinarySearchFunc_Lapi_Value_api_Value_api_Value n) :=
  execFn_sound mixed (tab rfl) (ft_all (C := c20 n) (l := ft20 n) rfl trivial) fn20 fun x y h => (e20 n x).trans h
def s52 : Sig := ⟨[.val tU], [.val tI]⟩
/-- math/bits.Len64 -/
def f_math_bits_Len64 (n : Nat) (x : Int × Unit) : Option ((Int × Unit) × (Unit)) :=
  (joinF (fun (s1 : Int × Int) => (joinF (fun (s3 : Int × Int) => (if (decide ((256:Int) ≤ s3.1)) = true then (atI (IntKind.u8.wrap (s3.1.fdiv (2 ^ min (8:Int).toNat IntKind.u64.bits))) lt_8163acee.length (some (((IntKind.i64.wrap ((IntKind.i64.wrap (s3.2 + (8:Int))) + (IntKind.i64.wrap (lt_8163acee.getD (IntKind.u8.wrap (s3.1.fdiv (2 ^ min (8:Int).toNat IntKind.u64.bits))).toNat (0:Int))))), ()), ()))) else (atI (IntKind.u8.wrap s3.1) lt_8163acee.length (some (((IntKind.i64.wrap (s3.2 + (IntKind.i64.wrap (lt_8163acee.getD (IntKind.u8.wrap s3.1).toNat (0:Int))))), ()), ()))))) fun J4 => (if (decide ((65536:Int) ≤ s1.1)) = true then (J4 ((s1.1.fdiv (2 ^ min (16:Int).toNat IntKind.u64.bits)), (IntKind.i64.wrap (s1.2 + (16:Int))))) else (J4 (s1.1, s1.2))))) fun J2 => (if (decide ((4294967296:Int) ≤ x.1)) = true then (J2 ((x.1.fdiv (2 ^ min (32:Int).toNat IntKind.u64.bits)), (32:Int))) else (J2 (x.1, (0:Int)))))
def h52 : Hints := ⟨[], [(8, ⟨[(0, .val tU), (2, .val tI)], [], []⟩), (14, ⟨[(0, .val tU), (2, .val tI)], [], []⟩)]⟩
def ft52 (n : Nat) : List (Nat × FEnt) := []
def c52 (n : Nat) : Ctx := ⟨25, find? tys, find? (ft52 n), gls, [], [], []⟩
theorem e52 (n x) : execFn (c52 n) h52 n Go.Proofs.Tryd.f52 s52 x = f_math_bits_Len64 n x := by kernel_rfl
theorem fn52 : P.funcs[52]? = some Go.Proofs.Tryd.f52 := by kernel_rfl
theorem call52 : Callable P 52 := callB_ok (by kernel_rfl)
theorem S52 (A : Amb) (n : Nat) : Sound A P (c52 n) 52 s52 (f_math_bits_Len64 n) :=
  execFn_sound mixed (tab rfl) (ft_all (C := c52 n) (l := ft52 n) rfl trivial) fn52 fun x y h => (e52 n x).trans h
def s35 : Sig := ⟨[.val (.sl .imm 8 tU)], [.val tI]⟩
/-- rabbet/bits.Width -/
def f_bits_Width (n : Nat) (x : List Int × Unit) : Option ((Int × Unit) × (Unit)) :=
  (iterF (fun rec2 (s1 : Int × Int) => (if (decide (s1.2 < (x.1.length : Int))) = true then (atI s1.2 x.1.length ((f_math_bits_Len64 n ((x.1.getD s1.2.toNat (0:Int)), ())).bind fun (y3 : (Int × Unit) × (Unit)) => (rec2 ((if y3.1.1 ≤ s1.1 then s1.1 else y3.1.1), (IntKind.i64.wrap (s1.2 + (1:Int))))))) else (some ((s1.1, ()), ())))) n ((0:Int), (0:Int)))
def h35 : Hints := ⟨[(0, ⟨[(2, .val tI), (7, .val tI)], [5, 6], []⟩)], []⟩
def ft35 (n : Nat) : List (Nat × FEnt) := [(52, ⟨s52, f_math_bits_Len64 n⟩)]
def c35 (n : Nat) : Ctx := ⟨17, find? tys, find? (ft35 n), gls, [], [], []⟩
theorem e35 (n x) : execFn (c35 n) h35 n Go.Proofs.Tryd.f35 s35 x = f_bits_Width n x := by kernel_rfl
theorem fn35 : P.funcs[35]? = some Go.Proofs.Tryd.f35 := by kernel_rfl
theorem call35 : Callable P 35 := callB_ok (by kernel_rfl)
theorem S35 (A : Amb) (n : Nat) : Sound A P (c35 n) 35 s35 (f_bits_Width n) :=
  execFn_sound mixed (tab rfl) (ft_all (C := c35 n) (l := ft35 n) rfl ⟨⟨call52, (S52 A n).of rfl⟩, trivial⟩) fn35 fun x y h => (e35 n x).trans h
def s36 : Sig := ⟨[.val tI], [.val tI]⟩
/-- rabbet/bits.size -/
def f_bits_size (n : Nat) (x : Int × Unit) : Option ((Int × Unit) × (Unit)) :=
  (some (((IntKind.i64.wrap ((IntKind.i64.wrap (x.1 + (7:Int))).tdiv (8:Int))), ()), ()))
def h36 : Hints := ⟨[], []⟩
def ft36 (n : Nat) : List (Nat × FEnt) := []
def c36 (n : Nat) : Ctx := ⟨6, find? tys, find? (ft36 n), gls, [], [], []⟩
theorem e36 (n x) : execFn (c36 n) h36 n Go.Proofs.Tryd.f36 s36 x = f_bits_size n x := by kernel_rfl
theorem fn36 : P.funcs[36]? = some Go.Proofs.Tryd.f36 := by kernel_rfl
theorem call36 : Callable P 36 := callB_ok (by kernel_rfl)
theorem S36 (A : Amb) (n : Nat) : Sound A P (c36 n) 36 s36 (f_bits_size n) :=
  execFn_sound mixed (tab rfl) (ft_all (C := c36 n) (l := ft36 n) rfl trivial) fn36 fun x y h => (e36 n x).trans h
def s21 : Sig := ⟨[.val (.sl .imm 8 tU), .val tI], [.val (.sl .imm 1 tB), .val .bool]⟩
/-- rabbet/bits.Put -/
def f_bits_Put (n : Nat) (x : List Int × Int × Unit) : Option ((List Int × Bool × Unit) × (Unit)) :=
  (if (decide (x.2.1 < (0:Int))) = true then (some (([], false, ()), ())) else (if (decide ((64:Int) < x.2.1)) = true then (some (([], false, ()), ())) else ((f_bits_Width n (x.1, ())).bind fun (y1 : (Int × Unit) × (Unit)) => (if (decide (x.2.1 < y1.1.1)) = true then (some (([], false, ()), ())) else ((f_bits_size n ((IntKind.i64.wrap ((x.1.length : Int) * x.2.1)), ())).bind fun (y2 : (Int × Unit) × (Unit)) => (if 0 ≤ y2.1.1 ∧ y2.1.1 ≤ y2.1.1 ∧ y2.1.1 * 1 ≤ room then (iterF (fun rec4 (s3 : List Int × Int) => (if (decide (s3.2 < (x.1.length : Int))) = true then (atI s3.2 x.1.length (iterF (fun rec6 (s5 : List Int × Int) => (if (decide (s5.2 < x.2.1)) = true then (atI (IntKind.i64.wrap ((IntKind.i64.wrap ((IntKind.i64.wrap (s3.2 * x.2.1)) + s5.2)).tdiv (8:Int))) s5.1.length (if s5.2 < 0 then none else (if ((IntKind.i64.wrap ((IntKind.i64.wrap (s3.2 * x.2.1)) + s5.2)).tmod (8:Int)) < 0 then none else (atI (IntKind.i64.wrap ((IntKind.i64.wrap ((IntKind.i64.wrap (s3.2 * x.2.1)) + s5.2)).tdiv (8:Int))) s5.1.length (rec6 ((s5.1.set (IntKind.i64.wrap ((IntKind.i64.wrap ((IntKind.i64.wrap (s3.2 * x.2.1)) + s5.2)).tdiv (8:Int))).toNat (bits .or .u8 (s5.1.getD (IntKind.i64.wrap ((IntKind.i64.wrap ((IntKind.i64.wrap (s3.2 * x.2.1)) + s5.2)).tdiv (8:Int))).toNat (0:Int)) (IntKind.u8.wrap ((IntKind.u8.wrap (bits .and .u64 ((x.1.getD s3.2.toNat (0:Int)).fdiv (2 ^ min s5.2.toNat IntKind.u64.bits)) (1:Int))) * 2 ^ min ((IntKind.i64.wrap ((IntKind.i64.wrap (s3.2 * x.2.1)) + s5.2)).tmod (8:Int)).toNat IntKind.u8.bits)))), (IntKind.i64.wrap (s5.2 + (1:Int))))))))) else (rec4 (s5.1, (IntKind.i64.wrap (s3.2 + (1:Int))))))) n (s3.1, (0:Int)))) else (some ((s3.1, true, ()), ())))) n ((List.replicate y2.1.1.toNat (0:Int)), (0:Int))) else none))))))
def h21 : Hints := ⟨[(5, ⟨[(6, .val (.sl .own 1 tB)), (37, .val tI)], [1, 7, 8, 29, 30, 31, 36], []⟩), (3, ⟨[(6, .val (.sl .own 1 tB)), (31, .val tI)], [1, 29, 30], []⟩)], []⟩
def ft21 (n : Nat) : List (Nat × FEnt) := [(35, ⟨s35, f_bits_Width n⟩), (36, ⟨s36, f_bits_size n⟩)]
def c21 (n : Nat) : Ctx := ⟨63, find? tys, find? (ft21 n), gls, [], [], []⟩
theorem e21 (n x) : execFn (c21 n) h21 n Go.Proofs.Tryd.f21 s21 x = f_bits_Put n x := by kernel_rfl
theorem fn21 : P.funcs[21]? = some Go.Proofs.Tryd.f21 := by kernel_rfl
theorem call21 : Callable P 21 := callB_ok (by kernel_rfl)
theorem S21 (A : Amb) (n : Nat) : Sound A P (c21 n) 21 s21 (f_bits_Put n) :=
  execFn_sound mixed (tab rfl) (ft_all (C := c21 n) (l := ft21 n) rfl ⟨⟨call35, (S35 A n).of rfl⟩, ⟨call36, (S36 A n).of rfl⟩, trivial⟩) fn21 fun x y h => (e21 n x).trans h
def s22 : Sig := ⟨[.val tI], [.val tI]⟩
/-- rabbet/dict.width -/
def f_dict_width (n : Nat) (x : Int × Unit) : Option ((Int × Unit) × (Unit)) :=
  ((f_bits_Width n ([(IntKind.u64.wrap (if (0:Int) ≤ (IntKind.i64.wrap (x.1 - (1:Int))) then (IntKind.i64.wrap (x.1 - (1:Int))) else (0:Int)))], ())).bind fun (y1 : (Int × Unit) × (Unit)) => (some ((y1.1.1, ()), ())))
def h22 : Hints := ⟨[], []⟩
def ft22 (n : Nat) : List (Nat × FEnt) := [(35, ⟨s35, f_bits_Width n⟩)]
def c22 (n : Nat) : Ctx := ⟨9, find? tys, find? (ft22 n), gls, [], [], []⟩
theorem e22 (n x) : execFn (c22 n) h22 n Go.Proofs.Tryd.f22 s22 x = f_dict_width n x := by kernel_rfl
theorem fn22 : P.funcs[22]? = some Go.Proofs.Tryd.f22 := by kernel_rfl
theorem call22 : Callable P 22 := callB_ok (by kernel_rfl)
theorem S22 (A : Amb) (n : Nat) : Sound A P (c22 n) 22 s22 (f_dict_width n) :=
  execFn_sound mixed (tab rfl) (ft_all (C := c22 n) (l := ft22 n) rfl ⟨⟨call35, (S35 A n).of rfl⟩, trivial⟩) fn22 fun x y h => (e22 n x).trans h
def s8 : Sig := ⟨[.val tI, .val (.sl .imm 32 (.st (.pair tI (.pair tI (.pair .str .unit)))))], [.val (.sl .imm 1 tB), .val .bool]⟩
/-- rabbet/dict.Put -/
def f_dict_Put (n : Nat) (x : Int × (List (Int × Int × List Int × Unit)) × Unit) : Option ((List Int × Bool × Unit) × (Unit)) :=
  ((f_dict_of n (x.1, x.2.1, ())).bind fun (y1 : (Bool × Unit) × (Unit)) => (if (!y1.1.1) = true then (some (([], false, ()), ())) else ((f_slices_Clone_Lapi_Value_api_Value n (x.2.1, ())).bind fun (y2 : ((List (Int × Int × List Int × Unit)) × Unit) × (Unit)) => ((f_slices_SortFunc_Lapi_Value_api_Value n (y2.1.1, (), ())).bind fun (y3 : (Unit) × ((List (Int × Int × List Int × Unit)) × Unit)) => ((f_slices_Compact_Lapi_Value_api_Value n (y3.2.1, ())).bind fun (y4 : ((List (Int × Int × List Int × Unit)) × Unit) × (Unit)) => ((f_num_Put n ((IntKind.u64.wrap (y4.1.1.length : Int)), ())).bind fun (y5 : (List Int × Unit) × (Unit)) => (iterF (fun rec7 (s6 : List Int × Int) => (if (decide (s6.2 < (y4.1.1.length : Int))) = true then (atI s6.2 y4.1.1.length ((f_dict_one n (s6.1, (y4.1.1.getD s6.2.toNat ((0:Int), (0:Int), [], ())), ())).bind fun (y8 : (List Int × Unit) × (Unit)) => (rec7 (y8.1.1, (IntKind.i64.wrap (s6.2 + (1:Int))))))) else (iterF (fun rec10 (s9 : List Int × Int) => (if (decide (s9.2 < (x.2.1.length : Int))) = true then (atI s9.2 x.2.1.length ((f_slices_BinarySearchFunc_Lapi_Value_api_Value_api_Value n (y4.1.1, (x.2.1.getD s9.2.toNat ((0:Int), (0:Int), [], ())), (fun c d => (f_value_Compare n (c, d, ())).bind fun r => some r.1.1), ())).bind fun (y11 : (Int × Bool × Unit) × (Unit)) => (if (s9.1.length + [(IntKind.u64.wrap y11.1.1)].length) * 8 ≤ room then (rec10 ((s9.1 ++ [(IntKind.u64.wrap y11.1.1)]), (IntKind.i64.wrap (s9.2 + (1:Int))))) else none))) else ((f_dict_width n ((y4.1.1.length : Int), ())).bind fun (y12 : (Int × Unit) × (Unit)) => ((f_bits_Put n (s9.1, y12.1.1, ())).bind fun (y13 : (List Int × Bool × Unit) × (Unit)) => (if (s6.1.length + y13.1.1.length) * 1 ≤ room then (some (((s6.1 ++ y13.1.1), y13.1.2.1, ()), ())) else none))))) n ([], (0:Int))))) n (y5.1.1, (0:Int)))))))))
def h8 : Hints := ⟨[(0, ⟨[(7, .val (.sl .own 1 tB)), (33, .val tI)], [1, 6, 32, 31], []⟩), (2, ⟨[(10, .val (.sl .own 8 tU)), (43, .val tI)], [6, 41, 42], [7]⟩)], []⟩
def ft8 (n : Nat) : List (Nat × FEnt) := [(13, ⟨s13, f_dict_of n⟩), (14, ⟨s14, f_slices_Clone_Lapi_Value_api_Value n⟩), (15, ⟨s15, f_slices_SortFunc_Lapi_Value_api_Value n⟩), (16, ⟨s16, f_value_Compare n⟩), (17, ⟨s17, f_slices_Compact_Lapi_Value_api_Value n⟩), (18, ⟨s18, f_num_Put n⟩), (19, ⟨s19, f_dict_one n⟩), (20, ⟨s20, f_slices_BinarySearchFunc_Lapi_Value_api_Value_api_Value n⟩), (21, ⟨s21, f_bits_Put n⟩), (22, ⟨s22, f_dict_width n⟩)]
def c8 (n : Nat) : Ctx := ⟨71, find? tys, find? (ft8 n), gls, [], [], []⟩
theorem e8 (n x) : execFn (c8 n) h8 n Go.Proofs.Tryd.f8 s8 x = f_dict_Put n x := by kernel_rfl
theorem fn8 : P.funcs[8]? = some Go.Proofs.Tryd.f8 := by kernel_rfl
theorem call8 : Callable P 8 := callB_ok (by kernel_rfl)
theorem S8 (A : Amb) (n : Nat) : Sound A P (c8 n) 8 s8 (f_dict_Put n) :=
  execFn_sound mixed (tab rfl) (ft_all (C := c8 n) (l := ft8 n) rfl ⟨⟨call13, (S13 A n).of rfl⟩, ⟨call14, (S14 A n).of rfl⟩, ⟨call15, (S15 A n).of rfl⟩, ⟨call16, (S16 A n).of rfl⟩, ⟨call17, (S17 A n).of rfl⟩, ⟨call18, (S18 A n).of rfl⟩, ⟨call19, (S19 A n).of rfl⟩, ⟨call20, (S20 A n).of rfl⟩, ⟨call21, (S21 A n).of rfl⟩, ⟨call22, (S22 A n).of rfl⟩, trivial⟩) fn8 fun x y h => (e8 n x).trans h
def s56 : Sig := ⟨[.val (.sl .imm 1 tB)], [.val tU, .val tI, .val .err]⟩
/-- rabbet/num.read -/
def f_num_read (n : Nat) (x : List Int × Unit) : Option ((Int × Int × UV × Unit) × (Unit)) :=
  (iterF (fun rec2 (s1 : Int × Int) => (if (decide (s1.2 < (10:Int))) = true then (if (decide (s1.2 = (x.1.length : Int))) = true then (some (((0:Int), (0:Int), (UV.node t_num_wrap (.pair (.str [98, 121, 116, 101]) (.pair (UV.sent g_num_errShort) .unit))), ()), ())) else (atI s1.2 x.1.length (if (IntKind.i64.wrap ((7:Int) * s1.2)) < 0 then none else (if (decide ((bits .and .u8 (x.1.getD s1.2.toNat (0:Int)) (128:Int)) = (0:Int))) = true then (if (decide ((0:Int) < s1.2)) = true then (if (decide ((x.1.getD s1.2.toNat (0:Int)) = (0:Int))) = true then (some (((0:Int), (0:Int), (UV.node t_num_wrap (.pair (.str [98, 121, 116, 101]) (.pair (UV.sent g_num_errLong) .unit))), ()), ())) else (if (decide (s1.2 = (9:Int))) = true then (if (decide ((1:Int) < (x.1.getD s1.2.toNat (0:Int)))) = true then (some (((0:Int), (0:Int), (UV.node t_num_wrap (.pair (.str [98, 121, 116, 101]) (.pair (UV.sent g_num_errLong) .unit))), ()), ())) else (some (((bits .or .u64 s1.1 (IntKind.u64.wrap ((IntKind.u64.wrap (bits .and .u8 (x.1.getD s1.2.toNat (0:Int)) (127:Int))) * 2 ^ min (IntKind.i64.wrap ((7:Int) * s1.2)).toNat IntKind.u64.bits))), (IntKind.i64.wrap (s1.2 + (1:Int))), UV.nil, ()), ()))) else (some (((bits .or .u64 s1.1 (IntKind.u64.wrap ((IntKind.u64.wrap (bits .and .u8 (x.1.getD s1.2.toNat (0:Int)) (127:Int))) * 2 ^ min (IntKind.i64.wrap ((7:Int) * s1.2)).toNat IntKind.u64.bits))), (IntKind.i64.wrap (s1.2 + (1:Int))), UV.nil, ()), ())))) else (if (decide (s1.2 = (9:Int))) = true then (if (decide ((1:Int) < (x.1.getD s1.2.toNat (0:Int)))) = true then (some (((0:Int), (0:Int), (UV.node t_num_wrap (.pair (.str [98, 121, 116, 101]) (.pair (UV.sent g_num_errLong) .unit))), ()), ())) else (some (((bits .or .u64 s1.1 (IntKind.u64.wrap ((IntKind.u64.wrap (bits .and .u8 (x.1.getD s1.2.toNat (0:Int)) (127:Int))) * 2 ^ min (IntKind.i64.wrap ((7:Int) * s1.2)).toNat IntKind.u64.bits))), (IntKind.i64.wrap (s1.2 + (1:Int))), UV.nil, ()), ()))) else (some (((bits .or .u64 s1.1 (IntKind.u64.wrap ((IntKind.u64.wrap (bits .and .u8 (x.1.getD s1.2.toNat (0:Int)) (127:Int))) * 2 ^ min (IntKind.i64.wrap ((7:Int) * s1.2)).toNat IntKind.u64.bits))), (IntKind.i64.wrap (s1.2 + (1:Int))), UV.nil, ()), ())))) else (rec2 ((bits .or .u64 s1.1 (IntKind.u64.wrap ((IntKind.u64.wrap (bits .and .u8 (x.1.getD s1.2.toNat (0:Int)) (127:Int))) * 2 ^ min (IntKind.i64.wrap ((7:Int) * s1.2)).toNat IntKind.u64.bits))), (IntKind.i64.wrap (s1.2 + (1:Int))))))))) else (some (((0:Int), (0:Int), (UV.node t_num_wrap (.pair (.str [98, 121, 116, 101]) (.pair (UV.sent g_num_errLong) .unit))), ()), ())))) n ((0:Int), (0:Int)))
def h56 : Hints := ⟨[(0, ⟨[(2, .val tU), (3, .val tI)], [0], []⟩)], []⟩
def ft56 (n : Nat) : List (Nat × FEnt) := []
def c56 (n : Nat) : Ctx := ⟨52, find? tys, find? (ft56 n), gls, [], [], []⟩
theorem e56 (n x) : execFn (c56 n) h56 n Go.Proofs.Tryd.f56 s56 x = f_num_read n x := by kernel_rfl
theorem fn56 : P.funcs[56]? = some Go.Proofs.Tryd.f56 := by kernel_rfl
theorem call56 : Callable P 56 := callB_ok (by kernel_rfl)
theorem S56 (A : Amb) (n : Nat) : Sound A P (c56 n) 56 s56 (f_num_read n) :=
  execFn_sound mixed (tab rfl) (ft_all (C := c56 n) (l := ft56 n) rfl trivial) fn56 fun x y h => (e56 n x).trans h
def s37 : Sig := ⟨[.val (.sl .imm 1 tB)], [.val tU, .val tI, .val .bool]⟩
/-- rabbet/num.Take -/
def f_num_Take (n : Nat) (x : List Int × Unit) : Option ((Int × Int × Bool × Unit) × (Unit)) :=
  ((f_num_read n (x.1, ())).bind fun (y1 : (Int × Int × UV × Unit) × (Unit)) => ((f_errors_Is n (y1.1.2.2.1, (UV.sent g_num_errShort), ())).bind fun (y2 : (Bool × Unit) × (Unit)) => (if (!y2.1.1) = true then ((f_errors_Is n (y1.1.2.2.1, (UV.sent g_num_errLong), ())).bind fun (y3 : (Bool × Unit) × (Unit)) => (some ((y1.1.1, y1.1.2.1, (!y3.1.1), ()), ()))) else (some ((y1.1.1, y1.1.2.1, false, ()), ())))))
def h37 : Hints := ⟨[], []⟩
def ft37 (n : Nat) : List (Nat × FEnt) := [(24, ⟨s24, f_errors_Is n⟩), (56, ⟨s56, f_num_read n⟩)]
def c37 (n : Nat) : Ctx := ⟨24, find? tys, find? (ft37 n), gls, [], [], []⟩
theorem e37 (n x) : execFn (c37 n) h37 n Go.Proofs.Tryd.f37 s37 x = f_num_Take n x := by kernel_rfl
theorem fn37 : P.funcs[37]? = some Go.Proofs.Tryd.f37 := by kernel_rfl
theorem call37 : Callable P 37 := callB_ok (by kernel_rfl)
theorem S37 (A : Amb) (hA : HA A) (n : Nat) : Sound A P (c37 n) 37 s37 (f_num_Take n) :=
  execFn_sound mixed (tab rfl) (ft_all (C := c37 n) (l := ft37 n) rfl ⟨⟨call24, (S24 A hA n).of rfl⟩, ⟨call56, (S56 A n).of rfl⟩, trivial⟩) fn37 fun x y h => (e37 n x).trans h
def s57 : Sig := ⟨[.val tU], [.val tI]⟩
/-- rabbet/num.Zag -/
def f_num_Zag (n : Nat) (x : Int × Unit) : Option ((Int × Unit) × (Unit)) :=
  (some (((bits .xor .i64 (IntKind.i64.wrap (x.1.fdiv (2 ^ min (1:Int).toNat IntKind.u64.bits))) (IntKind.i64.wrap (0 - (IntKind.i64.wrap (bits .and .u64 x.1 (1:Int)))))), ()), ()))
def h57 : Hints := ⟨[], []⟩
def ft57 (n : Nat) : List (Nat × FEnt) := []
def c57 (n : Nat) : Ctx := ⟨11, find? tys, find? (ft57 n), gls, [], [], []⟩
theorem e57 (n x) : execFn (c57 n) h57 n Go.Proofs.Tryd.f57 s57 x = f_num_Zag n x := by kernel_rfl
theorem fn57 : P.funcs[57]? = some Go.Proofs.Tryd.f57 := by kernel_rfl
theorem call57 : Callable P 57 := callB_ok (by kernel_rfl)
theorem S57 (A : Amb) (n : Nat) : Sound A P (c57 n) 57 s57 (f_num_Zag n) :=
  execFn_sound mixed (tab rfl) (ft_all (C := c57 n) (l := ft57 n) rfl trivial) fn57 fun x y h => (e57 n x).trans h
def s38 : Sig := ⟨[.val tI, .val (.sl .imm 1 tB)], [.val (.st (.pair tI (.pair tI (.pair .str .unit)))), .val tI, .val .err]⟩
/-- rabbet/dict.first -/
def f_dict_first (n : Nat) (x : Int × List Int × Unit) : Option (((Int × Int × List Int × Unit) × Int × UV × Unit) × (Unit)) :=
  (joinF (fun (s1 : Int × Int × List Int × Unit) => (atI (0:Int) x.2.1.length (if (decide ((x.2.1.length : Int) < (IntKind.i64.wrap ((1:Int) + (IntKind.i64.wrap (x.2.1.getD (0:Int).toNat (0:Int))))))) = true then (some ((s1, (0:Int), (UV.node t_dict_wrap (.pair (.str [111, 102, 32, 98, 121, 116, 101, 115]) (.pair (UV.sent g_dict_errForm) .unit))), ()), ())) else (if 0 ≤ (1:Int) ∧ (1:Int) ≤ (IntKind.i64.wrap ((1:Int) + (IntKind.i64.wrap (x.2.1.getD (0:Int).toNat (0:Int))))) ∧ (IntKind.i64.wrap ((1:Int) + (IntKind.i64.wrap (x.2.1.getD (0:Int).toNat (0:Int))))) ≤ (x.2.1.length : Int) then (some (((s1.1, s1.2.1, ((x.2.1.take (IntKind.i64.wrap ((1:Int) + (IntKind.i64.wrap (x.2.1.getD (0:Int).toNat (0:Int))))).toNat).drop (1:Int).toNat), s1.2.2.2), (IntKind.i64.wrap ((1:Int) + (IntKind.i64.wrap (x.2.1.getD (0:Int).toNat (0:Int))))), UV.nil, ()), ())) else none)))) fun J2 => (if (!decide (x.1 = (3:Int))) = true then (if (!decide (x.1 = (4:Int))) = true then ((f_num_Take n (x.2.1, ())).bind fun (y3 : (Int × Int × Bool × Unit) × (Unit)) => (if (!y3.1.2.2.1) = true then (some (((x.1, (0:Int), [], ()), (0:Int), (UV.node t_dict_wrap (.pair (.str [110, 111, 32, 110, 117, 109, 98, 101, 114]) (.pair (UV.sent g_dict_errForm) .unit))), ()), ())) else ((f_num_Zag n (y3.1.1, ())).bind fun (y4 : (Int × Unit) × (Unit)) => (some (((x.1, y4.1.1, [], ()), y3.1.2.1, UV.nil, ()), ()))))) else (if (decide ((x.2.1.length : Int) = (0:Int))) = true then (some (((x.1, (0:Int), [], ()), (0:Int), (UV.node t_dict_wrap (.pair (.str [110, 111, 32, 98, 121, 116, 101]) (.pair (UV.sent g_dict_errForm) .unit))), ()), ())) else (if (decide (x.1 = (3:Int))) = true then (atI (0:Int) x.2.1.length (some (((x.1, (IntKind.i64.wrap (x.2.1.getD (0:Int).toNat (0:Int))), [], ()), (1:Int), UV.nil, ()), ()))) else (J2 (x.1, (0:Int), [], ()))))) else (if (decide ((x.2.1.length : Int) = (0:Int))) = true then (some (((x.1, (0:Int), [], ()), (0:Int), (UV.node t_dict_wrap (.pair (.str [110, 111, 32, 98, 121, 116, 101]) (.pair (UV.sent g_dict_errForm) .unit))), ()), ())) else (if (decide (x.1 = (3:Int))) = true then (atI (0:Int) x.2.1.length (some (((x.1, (IntKind.i64.wrap (x.2.1.getD (0:Int).toNat (0:Int))), [], ()), (1:Int), UV.nil, ()), ()))) else (J2 (x.1, (0:Int), [], ()))))))
def h38 : Hints := ⟨[], [(26, ⟨[(4, .box (.st (.pair tI (.pair tI (.pair .str .unit)))))], [1], []⟩)]⟩
def ft38 (n : Nat) : List (Nat × FEnt) := [(37, ⟨s37, f_num_Take n⟩), (57, ⟨s57, f_num_Zag n⟩)]
def c38 (n : Nat) : Ctx := ⟨73, find? tys, find? (ft38 n), gls, [], [], []⟩
theorem e38 (n x) : execFn (c38 n) h38 n Go.Proofs.Tryd.f38 s38 x = f_dict_first n x := by kernel_rfl
theorem fn38 : P.funcs[38]? = some Go.Proofs.Tryd.f38 := by kernel_rfl
theorem call38 : Callable P 38 := callB_ok (by kernel_rfl)
theorem S38 (A : Amb) (hA : HA A) (n : Nat) : Sound A P (c38 n) 38 s38 (f_dict_first n) :=
  execFn_sound mixed (tab rfl) (ft_all (C := c38 n) (l := ft38 n) rfl ⟨⟨call37, (S37 A hA n).of rfl⟩, ⟨call57, (S57 A n).of rfl⟩, trivial⟩) fn38 fun x y h => (e38 n x).trans h
def s40 : Sig := ⟨[.val (.sl .imm 1 tB), .val (.sl .imm 1 tB)], [.val .bool]⟩
/-- bytes.Equal -/
def f_bytes_Equal (n : Nat) (x : List Int × List Int × Unit) : Option ((Bool × Unit) × (Unit)) :=
  (some (((decide (x.1 = x.2.1)), ()), ()))
def h40 : Hints := ⟨[], []⟩
def ft40 (n : Nat) : List (Nat × FEnt) := []
def c40 (n : Nat) : Ctx := ⟨10, find? tys, find? (ft40 n), gls, [], [], []⟩
theorem e40 (n x) : execFn (c40 n) h40 n Go.Proofs.Tryd.f40 s40 x = f_bytes_Equal n x := by kernel_rfl
theorem fn40 : P.funcs[40]? = some Go.Proofs.Tryd.f40 := by kernel_rfl
theorem call40 : Callable P 40 := callB_ok (by kernel_rfl)
theorem S40 (A : Amb) (n : Nat) : Sound A P (c40 n) 40 s40 (f_bytes_Equal n) :=
  execFn_sound mixed (tab rfl) (ft_all (C := c40 n) (l := ft40 n) rfl trivial) fn40 fun x y h => (e40 n x).trans h
def s39 : Sig := ⟨[.val (.sl .imm 1 tB), .val tI, .val tI], [.val (.sl .imm 8 tU), .val .bool]⟩
/-- rabbet/bits.Take -/
def f_bits_Take (n : Nat) (x : List Int × Int × Int × Unit) : Option ((List Int × Bool × Unit) × (Unit)) :=
  (if (decide (x.2.1 < (0:Int))) = true then (some (([], false, ()), ())) else (if (decide ((1000:Int) < x.2.1)) = true then (some (([], false, ()), ())) else (if (decide (x.2.2.1 < (0:Int))) = true then (some (([], false, ()), ())) else (if (decide ((64:Int) < x.2.2.1)) = true then (some (([], false, ()), ())) else ((f_bits_size n ((IntKind.i64.wrap (x.2.1 * x.2.2.1)), ())).bind fun (y1 : (Int × Unit) × (Unit)) => (if (!decide ((x.1.length : Int) = y1.1.1)) = true then (some (([], false, ()), ())) else (if 0 ≤ x.2.1 ∧ x.2.1 ≤ x.2.1 ∧ x.2.1 * 8 ≤ room then (iterF (fun rec3 (s2 : List Int × Int) => (if (decide (s2.2 < (IntKind.i64.wrap (x.2.1 * x.2.2.1)))) = true then (if x.2.2.1 = 0 then none else (atI (IntKind.i64.wrap (s2.2.tdiv x.2.2.1)) s2.1.length (atI (IntKind.i64.wrap (s2.2.tdiv (8:Int))) x.1.length (if (s2.2.tmod (8:Int)) < 0 then none else (if x.2.2.1 = 0 then none else (if (s2.2.tmod x.2.2.1) < 0 then none else (atI (IntKind.i64.wrap (s2.2.tdiv x.2.2.1)) s2.1.length (rec3 ((s2.1.set (IntKind.i64.wrap (s2.2.tdiv x.2.2.1)).toNat (bits .or .u64 (s2.1.getD (IntKind.i64.wrap (s2.2.tdiv x.2.2.1)).toNat (0:Int)) (IntKind.u64.wrap ((IntKind.u64.wrap (bits .and .u8 ((x.1.getD (IntKind.i64.wrap (s2.2.tdiv (8:Int))).toNat (0:Int)).fdiv (2 ^ min (s2.2.tmod (8:Int)).toNat IntKind.u8.bits)) (1:Int))) * 2 ^ min (s2.2.tmod x.2.2.1).toNat IntKind.u64.bits)))), (IntKind.i64.wrap (s2.2 + (1:Int)))))))))))) else ((f_bits_Put n (s2.1, x.2.2.1, ())).bind fun (y4 : (List Int × Bool × Unit) × (Unit)) => ((f_bytes_Equal n (y4.1.1, x.1, ())).bind fun (y5 : (Bool × Unit) × (Unit)) => (if (!y5.1.1) = true then (some (([], false, ()), ())) else (some ((s2.1, true, ()), ()))))))) n ((List.replicate x.2.1.toNat (0:Int)), (0:Int))) else none)))))))
def h39 : Hints := ⟨[(0, ⟨[(8, .val (.sl .own 8 tU)), (40, .val tI)], [0, 2, 39], []⟩)], []⟩
def ft39 (n : Nat) : List (Nat × FEnt) := [(21, ⟨s21, f_bits_Put n⟩), (36, ⟨s36, f_bits_size n⟩), (40, ⟨s40, f_bytes_Equal n⟩)]
def c39 (n : Nat) : Ctx := ⟨77, find? tys, find? (ft39 n), gls, [], [], []⟩
theorem e39 (n x) : execFn (c39 n) h39 n Go.Proofs.Tryd.f39 s39 x = f_bits_Take n x := by kernel_rfl
theorem fn39 : P.funcs[39]? = some Go.Proofs.Tryd.f39 := by kernel_rfl
theorem call39 : Callable P 39 := callB_ok (by kernel_rfl)
theorem S39 (A : Amb) (n : Nat) : Sound A P (c39 n) 39 s39 (f_bits_Take n) :=
  execFn_sound mixed (tab rfl) (ft_all (C := c39 n) (l := ft39 n) rfl ⟨⟨call21, (S21 A n).of rfl⟩, ⟨call36, (S36 A n).of rfl⟩, ⟨call40, (S40 A n).of rfl⟩, trivial⟩) fn39 fun x y h => (e39 n x).trans h
def s23 : Sig := ⟨[.val tI, .val tI, .val (.sl .imm 1 tB)], [.val (.sl .imm 32 (.st (.pair tI (.pair tI (.pair .str .unit))))), .val .err]⟩
/-- rabbet/dict.read -/
def f_dict_read (n : Nat) (x : Int × Int × List Int × Unit) : Option (((List (Int × Int × List Int × Unit)) × UV × Unit) × (Unit)) :=
  ((f_num_Take n (x.2.2.1, ())).bind fun (y1 : (Int × Int × Bool × Unit) × (Unit)) => (if (decide (x.2.1 < (0:Int))) = true then (some (([], (UV.node t_dict_wrap (.pair (.str [118, 97, 108, 117, 101, 115, 32, 111, 102]) (.pair (UV.sent g_dict_errForm) .unit))), ()), ())) else (if (decide ((1000:Int) < x.2.1)) = true then (some (([], (UV.node t_dict_wrap (.pair (.str [118, 97, 108, 117, 101, 115, 32, 111, 102]) (.pair (UV.sent g_dict_errForm) .unit))), ()), ())) else (if (!y1.1.2.2.1) = true then (some (([], (UV.node t_dict_wrap (.pair (.str [118, 97, 108, 117, 101, 115, 32, 111, 102]) (.pair (UV.sent g_dict_errForm) .unit))), ()), ())) else (if (decide ((IntKind.u64.wrap x.2.1) < y1.1.1)) = true then (some (([], (UV.node t_dict_wrap (.pair (.str [118, 97, 108, 117, 101, 115, 32, 111, 102]) (.pair (UV.sent g_dict_errForm) .unit))), ()), ())) else (if 0 ≤ y1.1.2.1 ∧ y1.1.2.1 ≤ (x.2.2.1.length : Int) then (iterF (fun rec3 (s2 : (List (Int × Int × List Int × Unit)) × List Int × (List (Int × Int × List Int × Unit)) × Int) => (if (decide (s2.2.2.2 < y1.1.1)) = true then ((f_dict_first n (x.1, s2.2.1, ())).bind fun (y4 : ((Int × Int × List Int × Unit) × Int × UV × Unit) × (Unit)) => (if (!decide (y4.1.2.2.1 = UV.nil)) = true then (some (([], y4.1.2.2.1, ()), ())) else (if (s2.2.2.1.length + ([y4.1.1] : List (Int × Int × List Int × Unit)).length) * 32 ≤ room then (if 0 ≤ y4.1.2.1 ∧ y4.1.2.1 ≤ (s2.2.1.length : Int) then (rec3 (s2.1, ((s2.2.1.take (s2.2.1.length : Int).toNat).drop y4.1.2.1.toNat), (s2.2.2.1 ++ ([y4.1.1] : List (Int × Int × List Int × Unit))), (IntKind.u64.wrap (s2.2.2.2 + (1:Int))))) else none) else none))) else ((f_dict_width n ((s2.2.2.1.length : Int), ())).bind fun (y5 : (Int × Unit) × (Unit)) => ((f_bits_Take n (s2.2.1, x.2.1, y5.1.1, ())).bind fun (y6 : (List Int × Bool × Unit) × (Unit)) => (if (!y6.1.2.1) = true then (some (([], (UV.node t_dict_wrap (.pair (.str [110, 111, 32, 112, 108, 97, 99, 101, 115]) (.pair (UV.sent g_dict_errForm) .unit))), ()), ())) else (iterF (fun rec8 (s7 : (List (Int × Int × List Int × Unit)) × Int) => (if (decide (s7.2 < (y6.1.1.length : Int))) = true then (atI s7.2 y6.1.1.length (if (decide (y1.1.1 ≤ (y6.1.1.getD s7.2.toNat (0:Int)))) = true then (some (([], (UV.node t_dict_wrap (.pair (.str [112, 108, 97, 99, 101, 32, 111, 102]) (.pair (UV.sent g_dict_errForm) .unit))), ()), ())) else (atI (y6.1.1.getD s7.2.toNat (0:Int)) s2.2.2.1.length (if (s7.1.length + ([(s2.2.2.1.getD (y6.1.1.getD s7.2.toNat (0:Int)).toNat ((0:Int), (0:Int), [], ()))] : List (Int × Int × List Int × Unit)).length) * 32 ≤ room then (rec8 ((s7.1 ++ ([(s2.2.2.1.getD (y6.1.1.getD s7.2.toNat (0:Int)).toNat ((0:Int), (0:Int), [], ()))] : List (Int × Int × List Int × Unit))), (IntKind.i64.wrap (s7.2 + (1:Int))))) else none)))) else ((f_dict_Put n (x.1, s7.1, ())).bind fun (y9 : (List Int × Bool × Unit) × (Unit)) => (if (!y9.1.2.1) = true then (some (([], (UV.node t_dict_wrap (.pair (.str [110, 111, 116, 32, 106, 117, 115, 116, 32, 116, 104, 101, 115, 101]) (.pair (UV.sent g_dict_errForm) .unit))), ()), ())) else ((f_bytes_Equal n (y9.1.1, x.2.2.1, ())).bind fun (y10 : (Bool × Unit) × (Unit)) => (if (!y10.1.1) = true then (some (([], (UV.node t_dict_wrap (.pair (.str [110, 111, 116, 32, 106, 117, 115, 116, 32, 116, 104, 101, 115, 101]) (.pair (UV.sent g_dict_errForm) .unit))), ()), ())) else (some ((s7.1, UV.nil, ()), ())))))))) n (s2.1, (0:Int)))))))) n ([], ((x.2.2.1.take (x.2.2.1.length : Int).toNat).drop y1.1.2.1.toNat), [], (0:Int))) else none))))))
def h23 : Hints := ⟨[(0, ⟨[(6, .val (.sl .own 32 (.st (.pair tI (.pair tI (.pair .str .unit)))))), (11, .val (.sl .imm 1 tB)), (12, .val (.sl .own 32 (.st (.pair tI (.pair tI (.pair .str .unit)))))), (50, .val tU)], [0, 1, 2, 8, 49], []⟩), (2, ⟨[(6, .val (.sl .own 32 (.st (.pair tI (.pair tI (.pair .str .unit)))))), (86, .val tI)], [0, 2, 8, 12, 84, 85], []⟩)], []⟩
def ft23 (n : Nat) : List (Nat × FEnt) := [(8, ⟨s8, f_dict_Put n⟩), (22, ⟨s22, f_dict_width n⟩), (37, ⟨s37, f_num_Take n⟩), (38, ⟨s38, f_dict_first n⟩), (39, ⟨s39, f_bits_Take n⟩), (40, ⟨s40, f_bytes_Equal n⟩)]
def c23 (n : Nat) : Ctx := ⟨122, find? tys, find? (ft23 n), gls, [], [], []⟩
theorem e23 (n x) : execFn (c23 n) h23 n Go.Proofs.Tryd.f23 s23 x = f_dict_read n x := by kernel_rfl
theorem fn23 : P.funcs[23]? = some Go.Proofs.Tryd.f23 := by kernel_rfl
theorem call23 : Callable P 23 := callB_ok (by kernel_rfl)
theorem S23 (A : Amb) (hA : HA A) (n : Nat) : Sound A P (c23 n) 23 s23 (f_dict_read n) :=
  execFn_sound mixed (tab rfl) (ft_all (C := c23 n) (l := ft23 n) rfl ⟨⟨call8, (S8 A n).of rfl⟩, ⟨call22, (S22 A n).of rfl⟩, ⟨call37, (S37 A hA n).of rfl⟩, ⟨call38, (S38 A hA n).of rfl⟩, ⟨call39, (S39 A n).of rfl⟩, ⟨call40, (S40 A n).of rfl⟩, trivial⟩) fn23 fun x y h => (e23 n x).trans h
def s9 : Sig := ⟨[.val tI, .val tI, .val (.sl .imm 1 tB)], [.val (.sl .imm 32 (.st (.pair tI (.pair tI (.pair .str .unit))))), .val .bool]⟩
/-- rabbet/dict.Take -/
def f_dict_Take (n : Nat) (x : Int × Int × List Int × Unit) : Option (((List (Int × Int × List Int × Unit)) × Bool × Unit) × (Unit)) :=
  ((f_dict_read n (x.1, x.2.1, x.2.2.1, ())).bind fun (y1 : ((List (Int × Int × List Int × Unit)) × UV × Unit) × (Unit)) => ((f_errors_Is n (y1.1.2.1, (UV.sent g_dict_errForm), ())).bind fun (y2 : (Bool × Unit) × (Unit)) => (some ((y1.1.1, (!y2.1.1), ()), ()))))
def h9 : Hints := ⟨[], []⟩
def ft9 (n : Nat) : List (Nat × FEnt) := [(23, ⟨s23, f_dict_read n⟩), (24, ⟨s24, f_errors_Is n⟩)]
def c9 (n : Nat) : Ctx := ⟨22, find? tys, find? (ft9 n), gls, [], [], []⟩
theorem e9 (n x) : execFn (c9 n) h9 n Go.Proofs.Tryd.f9 s9 x = f_dict_Take n x := by kernel_rfl
theorem fn9 : P.funcs[9]? = some Go.Proofs.Tryd.f9 := by kernel_rfl
theorem call9 : Callable P 9 := callB_ok (by kernel_rfl)
theorem S9 (A : Amb) (hA : HA A) (n : Nat) : Sound A P (c9 n) 9 s9 (f_dict_Take n) :=
  execFn_sound mixed (tab rfl) (ft_all (C := c9 n) (l := ft9 n) rfl ⟨⟨call23, (S23 A hA n).of rfl⟩, ⟨call24, (S24 A hA n).of rfl⟩, trivial⟩) fn9 fun x y h => (e9 n x).trans h
def s6 : Sig := ⟨[], [.val .bool]⟩
/-- rabbet/rabbetlaw7.begun -/
def f_law7_begun (n : Nat) (x : Unit) : Option ((Bool × Unit) × (Unit)) :=
  ((f_dict_Put n ((2:Int), ([((2:Int), (5:Int), [], ()), ((2:Int), (5:Int), [], ())] : List (Int × Int × List Int × Unit)), ())).bind fun (y1 : (List Int × Bool × Unit) × (Unit)) => ((f_dict_Take n ((2:Int), (2:Int), y1.1.1, ())).bind fun (y2 : ((List (Int × Int × List Int × Unit)) × Bool × Unit) × (Unit)) => ((f_dict_Put n ((2:Int), ([((0:Int), (0:Int), [], ())] : List (Int × Int × List Int × Unit)), ())).bind fun (y3 : (List Int × Bool × Unit) × (Unit)) => (if y1.1.2.1 = true then (if (decide ((0:Int) < (y1.1.1.length : Int))) = true then (if y2.1.2.1 = true then (if (decide ((y2.1.1.length : Int) = (2:Int))) = true then (atI (1:Int) y2.1.1.length (if (decide (((y2.1.1.getD (1:Int).toNat ((0:Int), (0:Int), [], ())).2).1 = (5:Int))) = true then (some (((!y3.1.2.1), ()), ())) else (some ((false, ()), ())))) else (some ((false, ()), ()))) else (some ((false, ()), ()))) else (some ((false, ()), ()))) else (some ((false, ()), ()))))))
def h6 : Hints := ⟨[], []⟩
def ft6 (n : Nat) : List (Nat × FEnt) := [(8, ⟨s8, f_dict_Put n⟩), (9, ⟨s9, f_dict_Take n⟩)]
def c6 (n : Nat) : Ctx := ⟨52, find? tys, find? (ft6 n), gls, [], [], []⟩
theorem e6 (n x) : execFn (c6 n) h6 n Go.Proofs.Tryd.f6 s6 x = f_law7_begun n x := by kernel_rfl
theorem fn6 : P.funcs[6]? = some Go.Proofs.Tryd.f6 := by kernel_rfl
theorem call6 : Callable P 6 := callB_ok (by kernel_rfl)
theorem S6 (A : Amb) (hA : HA A) (n : Nat) : Sound A P (c6 n) 6 s6 (f_law7_begun n) :=
  execFn_sound mixed (tab rfl) (ft_all (C := c6 n) (l := ft6 n) rfl ⟨⟨call8, (S8 A n).of rfl⟩, ⟨call9, (S9 A hA n).of rfl⟩, trivial⟩) fn6 fun x y h => (e6 n x).trans h
def s11 : Sig := ⟨[.val (.sl .imm 1 tB)], [.box (.st (.pair (.sl .imm 1 tB) (.pair tI .unit)))]⟩
/-- rabbet/rabbetplay.Made -/
def f_play_Made (n : Nat) (x : List Int × Unit) : Option (((List Int × Int × Unit) × Unit) × (Unit)) :=
  (some (((x.1, (0:Int), ()), ()), ()))
def h11 : Hints := ⟨[], []⟩
def ft11 (n : Nat) : List (Nat × FEnt) := []
def c11 (n : Nat) : Ctx := ⟨6, find? tys, find? (ft11 n), gls, [], [], []⟩
theorem e11 (n x) : execFn (c11 n) h11 n Go.Proofs.Tryd.f11 s11 x = f_play_Made n x := by kernel_rfl
theorem fn11 : P.funcs[11]? = some Go.Proofs.Tryd.f11 := by kernel_rfl
theorem call11 : Callable P 11 := callB_ok (by kernel_rfl)
theorem S11 (A : Amb) (n : Nat) : Sound A P (c11 n) 11 s11 (f_play_Made n) :=
  execFn_sound mixed (tab rfl) (ft_all (C := c11 n) (l := ft11 n) rfl trivial) fn11 fun x y h => (e11 n x).trans h
def s25 : Sig := ⟨[.io (.st (.pair (.sl .imm 1 tB) (.pair tI .unit))), .val tI], [.val tI]⟩
/-- (*rabbet/rabbetplay.Picks).Num -/
def f_play_Picks_Num (n : Nat) (x : (List Int × Int × Unit) × Int × Unit) : Option ((Int × Unit) × ((List Int × Int × Unit) × Unit)) :=
  (if (decide ((x.1.1.length : Int) ≤ x.1.2.1)) = true then (some (((0:Int), ()), (x.1, ()))) else (atI (IntKind.i64.wrap ((IntKind.i64.wrap (x.1.2.1 + (1:Int))) - (1:Int))) x.1.1.length (if x.2.1 = 0 then none else (some ((((IntKind.i64.wrap (x.1.1.getD (IntKind.i64.wrap ((IntKind.i64.wrap (x.1.2.1 + (1:Int))) - (1:Int))).toNat (0:Int))).tmod x.2.1), ()), ((x.1.1, (IntKind.i64.wrap (x.1.2.1 + (1:Int))), x.1.2.2), ()))))))
def h25 : Hints := ⟨[], []⟩
def ft25 (n : Nat) : List (Nat × FEnt) := []
def c25 (n : Nat) : Ctx := ⟨36, find? tys, find? (ft25 n), gls, [], [], []⟩
theorem e25 (n x) : execFn (c25 n) h25 n Go.Proofs.Tryd.f25 s25 x = f_play_Picks_Num n x := by kernel_rfl
theorem fn25 : P.funcs[25]? = some Go.Proofs.Tryd.f25 := by kernel_rfl
theorem call25 : Callable P 25 := callB_ok (by kernel_rfl)
theorem S25 (A : Amb) (n : Nat) : Sound A P (c25 n) 25 s25 (f_play_Picks_Num n) :=
  execFn_sound mixed (tab rfl) (ft_all (C := c25 n) (l := ft25 n) rfl trivial) fn25 fun x y h => (e25 n x).trans h
def s26 : Sig := ⟨[.io (.st (.pair (.sl .imm 1 tB) (.pair tI .unit)))], [.val .bool]⟩
/-- (*rabbet/rabbetplay.Picks).Over -/
def f_play_Picks_Over (n : Nat) (x : (List Int × Int × Unit) × Unit) : Option ((Bool × Unit) × ((List Int × Int × Unit) × Unit)) :=
  (some (((decide ((x.1.1.length : Int) ≤ x.1.2.1)), ()), (x.1, ())))
def h26 : Hints := ⟨[], []⟩
def ft26 (n : Nat) : List (Nat × FEnt) := []
def c26 (n : Nat) : Ctx := ⟨13, find? tys, find? (ft26 n), gls, [], [], []⟩
theorem e26 (n x) : execFn (c26 n) h26 n Go.Proofs.Tryd.f26 s26 x = f_play_Picks_Over n x := by kernel_rfl
theorem fn26 : P.funcs[26]? = some Go.Proofs.Tryd.f26 := by kernel_rfl
theorem call26 : Callable P 26 := callB_ok (by kernel_rfl)
theorem S26 (A : Amb) (n : Nat) : Sound A P (c26 n) 26 s26 (f_play_Picks_Over n) :=
  execFn_sound mixed (tab rfl) (ft_all (C := c26 n) (l := ft26 n) rfl trivial) fn26 fun x y h => (e26 n x).trans h
def s12 : Sig := ⟨[.io (.st (.pair (.sl .imm 1 tB) (.pair tI .unit))), .val tI], [.val (.st (.pair tI (.pair tI (.pair .str .unit))))]⟩
/-- (*rabbet/rabbetplay.Picks).Value -/
def f_play_Picks_Value (n : Nat) (x : (List Int × Int × Unit) × Int × Unit) : Option (((Int × Int × List Int × Unit) × Unit) × ((List Int × Int × Unit) × Unit)) :=
  ((f_play_Picks_Num n (x.1, (9:Int), ())).bind fun (y1 : (Int × Unit) × ((List Int × Int × Unit) × Unit)) => (joinF (fun (s2 : (List Int × Int × Unit) × Int × Int × List Int × Unit) => (if (decide (x.2.1 = (1:Int))) = true then (atI y1.1.1 ([(0:Int), (1:Int), (2:Int), (3:Int), (-1:Int), (100:Int), (-32768:Int), (32767:Int), (5:Int)].length) (some (((x.2.1, ([(0:Int), (1:Int), (2:Int), (3:Int), (-1:Int), (100:Int), (-32768:Int), (32767:Int), (5:Int)].getD y1.1.1.toNat (0:Int)), [], ()), ()), (s2.1, ())))) else (if (decide (x.2.1 = (2:Int))) = true then (atI y1.1.1 ([(0:Int), (1:Int), (2:Int), (3:Int), (-1:Int), (1000000:Int), (-9223372036854775808:Int), (9223372036854775807:Int), (4611686018427387904:Int)].length) (some (((x.2.1, ([(0:Int), (1:Int), (2:Int), (3:Int), (-1:Int), (1000000:Int), (-9223372036854775808:Int), (9223372036854775807:Int), (4611686018427387904:Int)].getD y1.1.1.toNat (0:Int)), [], ()), ()), (s2.1, ())))) else (if (decide (x.2.1 = (3:Int))) = true then (some (((x.2.1, (y1.1.1.tmod (2:Int)), [], ()), ()), (s2.1, ()))) else (atI y1.1.1 (([[], [97], [98], [97, 58, 98], [97, 98], [120, 58, 121, 58, 122], [58], [116, 119, 101, 110, 116, 121, 45, 98, 121, 116, 101, 115, 45, 111, 102, 45, 116, 101, 120, 116], [99]] : List (List Int)).length) (some ((((4:Int), (0:Int), (([[], [97], [98], [97, 58, 98], [97, 98], [120, 58, 121, 58, 122], [58], [116, 119, 101, 110, 116, 121, 45, 98, 121, 116, 101, 115, 45, 111, 102, 45, 116, 101, 120, 116], [99]] : List (List Int)).getD y1.1.1.toNat []), ()), ()), (s2.1, ())))))))) fun J3 => (if (decide (y1.1.1 = (0:Int))) = true then ((f_play_Picks_Over n (y1.2.1, ())).bind fun (y4 : (Bool × Unit) × ((List Int × Int × Unit) × Unit)) => (if (!y4.1.1) = true then (some ((((0:Int), (0:Int), [], ()), ()), (y4.2.1, ()))) else (J3 (y4.2.1, (0:Int), (0:Int), [], ())))) else (J3 (y1.2.1, (0:Int), (0:Int), [], ())))))
def h12 : Hints := ⟨[], [(8, ⟨[(0, .box (.st (.pair (.sl .imm 1 tB) (.pair tI .unit)))), (4, .box (.st (.pair tI (.pair tI (.pair .str .unit)))))], [1, 5], []⟩)]⟩
def ft12 (n : Nat) : List (Nat × FEnt) := [(25, ⟨s25, f_play_Picks_Num n⟩), (26, ⟨s26, f_play_Picks_Over n⟩)]
def c12 (n : Nat) : Ctx := ⟨44, find? tys, find? (ft12 n), gls, [], [], []⟩
theorem e12 (n x) : execFn (c12 n) h12 n Go.Proofs.Tryd.f12 s12 x = f_play_Picks_Value n x := by kernel_rfl
theorem fn12 : P.funcs[12]? = some Go.Proofs.Tryd.f12 := by kernel_rfl
theorem call12 : Callable P 12 := callB_ok (by kernel_rfl)
theorem S12 (A : Amb) (n : Nat) : Sound A P (c12 n) 12 s12 (f_play_Picks_Value n) :=
  execFn_sound mixed (tab rfl) (ft_all (C := c12 n) (l := ft12 n) rfl ⟨⟨call25, (S25 A n).of rfl⟩, ⟨call26, (S26 A n).of rfl⟩, trivial⟩) fn12 fun x y h => (e12 n x).trans h
def s7 : Sig := ⟨[.val (.sl .imm 1 tB), .val tI, .val tI], [.val (.sl .imm 32 (.st (.pair tI (.pair tI (.pair .str .unit)))))]⟩
/-- rabbet/rabbetlaw7.some -/
def f_law7_some (n : Nat) (x : List Int × Int × Int × Unit) : Option (((List (Int × Int × List Int × Unit)) × Unit) × (Unit)) :=
  ((f_play_Made n (x.1, ())).bind fun (y1 : ((List Int × Int × Unit) × Unit) × (Unit)) => (iterF (fun rec3 (s2 : (List Int × Int × Unit) × (List (Int × Int × List Int × Unit)) × Int) => (if (decide (s2.2.2 < x.2.2.1)) = true then ((f_play_Picks_Value n (s2.1, x.2.1, ())).bind fun (y4 : ((Int × Int × List Int × Unit) × Unit) × ((List Int × Int × Unit) × Unit)) => (if (!decide (y4.1.1.1 = (0:Int))) = true then (if (s2.2.1.length + ([y4.1.1] : List (Int × Int × List Int × Unit)).length) * 32 ≤ room then (rec3 (y4.2.1, (s2.2.1 ++ ([y4.1.1] : List (Int × Int × List Int × Unit))), (IntKind.i64.wrap (s2.2.2 + (1:Int))))) else none) else (rec3 (y4.2.1, s2.2.1, (IntKind.i64.wrap (s2.2.2 + (1:Int))))))) else (some ((s2.2.1, ()), ())))) n (y1.1.1, [], (0:Int))))
def h7 : Hints := ⟨[(0, ⟨[(7, .box (.st (.pair (.sl .imm 1 tB) (.pair tI .unit)))), (8, .val (.sl .own 32 (.st (.pair tI (.pair tI (.pair .str .unit)))))), (9, .val tI)], [1, 2], []⟩)], []⟩
def ft7 (n : Nat) : List (Nat × FEnt) := [(11, ⟨s11, f_play_Made n⟩), (12, ⟨s12, f_play_Picks_Value n⟩)]
def c7 (n : Nat) : Ctx := ⟨29, find? tys, find? (ft7 n), gls, [], [], []⟩
theorem e7 (n x) : execFn (c7 n) h7 n Go.Proofs.Tryd.f7 s7 x = f_law7_some n x := by kernel_rfl
theorem fn7 : P.funcs[7]? = some Go.Proofs.Tryd.f7 := by kernel_rfl
theorem call7 : Callable P 7 := callB_ok (by kernel_rfl)
theorem S7 (A : Amb) (n : Nat) : Sound A P (c7 n) 7 s7 (f_law7_some n) :=
  execFn_sound mixed (tab rfl) (ft_all (C := c7 n) (l := ft7 n) rfl ⟨⟨call11, (S11 A n).of rfl⟩, ⟨call12, (S12 A n).of rfl⟩, trivial⟩) fn7 fun x y h => (e7 n x).trans h
def s10 : Sig := ⟨[.val (.sl .imm 32 (.st (.pair tI (.pair tI (.pair .str .unit))))), .val (.sl .imm 32 (.st (.pair tI (.pair tI (.pair .str .unit)))))], [.val .bool]⟩
/-- rabbet/rabbetref1.SameValues -/
def f_ref1_SameValues (n : Nat) (x : (List (Int × Int × List Int × Unit)) × (List (Int × Int × List Int × Unit)) × Unit) : Option ((Bool × Unit) × (Unit)) :=
  (if (!decide ((x.1.length : Int) = (x.2.1.length : Int))) = true then (some ((false, ()), ())) else (iterF (fun rec2 (s1 : Int) => (if (decide (s1 < (x.1.length : Int))) = true then (atI s1 x.1.length (atI s1 x.2.1.length (if (!((decide ((x.1.getD s1.toNat ((0:Int), (0:Int), [], ())).1 = (x.2.1.getD s1.toNat ((0:Int), (0:Int), [], ())).1)) && ((decide (((x.1.getD s1.toNat ((0:Int), (0:Int), [], ())).2).1 = ((x.2.1.getD s1.toNat ((0:Int), (0:Int), [], ())).2).1)) && (decide ((((x.1.getD s1.toNat ((0:Int), (0:Int), [], ())).2).2).1 = (((x.2.1.getD s1.toNat ((0:Int), (0:Int), [], ())).2).2).1))))) = true then (some ((false, ()), ())) else (rec2 (IntKind.i64.wrap (s1 + (1:Int))))))) else (some ((true, ()), ())))) n (0:Int)))
def h10 : Hints := ⟨[(0, ⟨[(5, .val tI)], [0, 1], []⟩)], []⟩
def ft10 (n : Nat) : List (Nat × FEnt) := []
def c10 (n : Nat) : Ctx := ⟨26, find? tys, find? (ft10 n), gls, [], [], []⟩
theorem e10 (n x) : execFn (c10 n) h10 n Go.Proofs.Tryd.f10 s10 x = f_ref1_SameValues n x := by kernel_rfl
theorem fn10 : P.funcs[10]? = some Go.Proofs.Tryd.f10 := by kernel_rfl
theorem call10 : Callable P 10 := callB_ok (by kernel_rfl)
theorem S10 (A : Amb) (n : Nat) : Sound A P (c10 n) 10 s10 (f_ref1_SameValues n) :=
  execFn_sound mixed (tab rfl) (ft_all (C := c10 n) (l := ft10 n) rfl trivial) fn10 fun x y h => (e10 n x).trans h
end Go.Rb.R2
