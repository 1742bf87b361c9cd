/- The functions that the law runs, as pure functions; that their code is computed so, and their contracts. Printed by a program of our own. -/
import Derived.Test.YtcgaabciagiodaaRbE
import Derived.Test.YtcgaabciagiodaaChecked
import Derived.KernelRfl
import Derived.Eval
namespace Go.Rb.S1
open Go.Rb
abbrev tI : Ty := .int .i64
abbrev tB : Ty := .int .u8
abbrev tU : Ty := .int .u64
def tys : List (Nat × Ty) := [(2, tI), (3, tI), (5, tB), (9, .str), (22, (.sl .imm 1 tB)), (26, (.sl .imm 32 (.st (.pair tI (.pair .str (.pair tI .unit)))))), (28, (.st (.pair (.sl .imm 32 (.st (.pair tI (.pair .str (.pair tI .unit))))) (.pair tI .unit)))), (29, (.sl .imm 8 tI)), (31, (.st (.pair tI (.pair tI (.pair tI (.pair (.sl .imm 8 tI) .unit)))))), (34, (.sl .imm 24 (.sl .imm 32 (.st (.pair tI (.pair tI (.pair .str .unit))))))), (36, (.sl .imm 24 (.sl .imm 8 tI))), (38, (.arr 20 tI)), (40, (.st (.pair tI (.pair tI (.pair .str .unit))))), (41, (.sl .imm 32 (.st (.pair tI (.pair tI (.pair .str .unit)))))), (44, (.st (.pair tI (.pair tI (.pair .str (.pair tI (.pair (.st (.pair tI (.pair tI (.pair .str .unit)))) (.pair tB (.pair tI .unit))))))))), (49, (.sl .imm 24 (.sl .imm 32 (.st (.pair tI (.pair tI (.pair .str .unit))))))), (54, (.sl .imm 32 (.st (.pair tI (.pair tI (.pair .str .unit)))))), (58, (.st (.pair tI (.pair .str (.pair tI .unit))))), (65, (.st (.pair (.sl .imm 1 tB) (.pair tI .unit)))), (89, (.int .u32)), (91, tU), (93, (.sl .imm 8 tI)), (94, (.sl .imm 16 .str))]
def gls : Nat → Option ((t : Ty) × t.den) := fun _ => none
noncomputable abbrev P : Program := Go.Proofs.Try.prog
set_option maxRecDepth 100000
theorem mixed : P.follows .mixedOrders = true := Go.Proofs.Try.checked.mixed
theorem tab {C : Ctx} (h : C.ty = find? tys) : TabOK P C := tab_ok (by kernel_rfl) h
def s42 : Sig := ⟨[.val (.st (.pair tI (.pair tI (.pair .str .unit))))], [.val (.sl .imm 1 tB)]⟩
/-- rabbet/part.said -/
def F42 (n : Nat) (x : (Int × Int × List Int × Unit) × Unit) : Option ((List Int × Unit) × (Unit)) :=
  (if (decide (x.1.1 = (0:Int))) = true then (some (([(0:Int)], ()), ())) else (if (decide (x.1.1 = (4:Int))) = true then (if ([(2:Int)].length + x.1.2.2.1.length) * 1 ≤ room then (some ((([(2:Int)] ++ x.1.2.2.1), ()), ())) else none) else (iterF (fun rec2 (s1 : List Int × Int) => (if (decide ((0:Int) ≤ s1.2)) = true then (if (IntKind.i64.wrap ((8:Int) * s1.2)) < 0 then none else (if (s1.1.length + [(IntKind.u8.wrap (x.1.2.1.fdiv (2 ^ min (IntKind.i64.wrap ((8:Int) * s1.2)).toNat IntKind.i64.bits)))].length) * 1 ≤ room then (rec2 ((s1.1 ++ [(IntKind.u8.wrap (x.1.2.1.fdiv (2 ^ min (IntKind.i64.wrap ((8:Int) * s1.2)).toNat IntKind.i64.bits)))]), (IntKind.i64.wrap (s1.2 - (1:Int))))) else none)) else (some ((s1.1, ()), ())))) n ([(1:Int)], (7:Int)))))
def h42 : Hints := ⟨[(1, ⟨[(3, .val (.sl .own 1 tB)), (4, .val tI)], [1], []⟩)], []⟩
def ft42 (n : Nat) : List (Nat × FEnt) := []
def c42 (n : Nat) : Ctx := ⟨31, find? tys, find? (ft42 n), gls, [], [1], []⟩
theorem e42 (n x) : execFn (c42 n) h42 n Go.Proofs.Try.f42 s42 x = F42 n x := by kernel_rfl
theorem fn42 : P.funcs[42]? = some Go.Proofs.Try.f42 := by kernel_rfl
theorem call42 : Callable P 42 := callB_ok (by kernel_rfl)
theorem S42 (A : Amb) (n : Nat) : Sound A P (c42 n) 42 s42 (F42 n) :=
  execFn_sound mixed (tab rfl) (ft_all (C := c42 n) (l := ft42 n) rfl trivial) fn42 fun x y h => (e42 n x).trans h
def s20 : Sig := ⟨[.val (.st (.pair tI (.pair tI (.pair .str .unit)))), .val tI], [.val tI]⟩
/-- rabbet/part.Of -/
def F20 (n : Nat) (x : (Int × Int × List Int × Unit) × Int × Unit) : Option ((Int × Unit) × (Unit)) :=
  (if (decide (x.2.1 < (2:Int))) = true then (some (((0:Int), ()), ())) else ((F42 n (x.1, ())).bind fun (y1 : (List Int × Unit) × (Unit)) => (iterF (fun rec3 (s2 : Int × Int) => (if (decide (s2.2 < (y1.1.1.length : Int))) = true then (atI s2.2 y1.1.1.length (rec3 ((IntKind.u32.wrap ((bits .xor .u32 s2.1 (IntKind.u32.wrap (y1.1.1.getD s2.2.toNat (0:Int)))) * (16777619:Int))), (IntKind.i64.wrap (s2.2 + (1:Int)))))) else (if (IntKind.u64.wrap x.2.1) = 0 then none else (some (((IntKind.i64.wrap ((IntKind.u64.wrap s2.1).tmod (IntKind.u64.wrap x.2.1))), ()), ()))))) n ((2166136261:Int), (0:Int)))))
def h20 : Hints := ⟨[(0, ⟨[(5, .val (.int .u32)), (13, .val tI)], [1, 11, 12], []⟩)], []⟩
def ft20 (n : Nat) : List (Nat × FEnt) := [(42, ⟨s42, F42 n⟩)]
def c20 (n : Nat) : Ctx := ⟨29, find? tys, find? (ft20 n), gls, [], [2], []⟩
theorem e20 (n x) : execFn (c20 n) h20 n Go.Proofs.Try.f20 s20 x = F20 n x := by kernel_rfl
theorem fn20 : P.funcs[20]? = some Go.Proofs.Try.f20 := by kernel_rfl
theorem call20 : Callable P 20 := callB_ok (by kernel_rfl)
theorem S20 (A : Amb) (n : Nat) : Sound A P (c20 n) 20 s20 (F20 n) :=
  execFn_sound mixed (tab rfl) (ft_all (C := c20 n) (l := ft20 n) rfl ⟨⟨call42, (S42 A n).of rfl⟩, trivial⟩) fn20 fun x y h => (e20 n x).trans h
def s24 : Sig := ⟨[.val (.sl .imm 24 (.sl .imm 32 (.st (.pair tI (.pair tI (.pair .str .unit))))))], [.val tI]⟩
/-- rabbet/part.many -/
def F24 (n : Nat) (x : (List (List (Int × Int × List Int × Unit))) × Unit) : Option ((Int × Unit) × (Unit)) :=
  (if (decide ((x.1.length : Int) = (0:Int))) = true then (some (((0:Int), ()), ())) else (atI (0:Int) x.1.length (iterF (fun rec2 (s1 : Int × Int) => (if (decide (s1.2 < (x.1.length : Int))) = true then (atI s1.2 x.1.length (rec2 ((if s1.1 ≤ ((x.1.getD s1.2.toNat []).length : Int) then s1.1 else ((x.1.getD s1.2.toNat []).length : Int)), (IntKind.i64.wrap (s1.2 + (1:Int)))))) else (some ((s1.1, ()), ())))) n (((x.1.getD (0:Int).toNat []).length : Int), (0:Int)))))
def h24 : Hints := ⟨[(0, ⟨[(3, .val tI), (15, .val tI)], [13, 14], []⟩)], []⟩
def ft24 (n : Nat) : List (Nat × FEnt) := []
def c24 (n : Nat) : Ctx := ⟨25, find? tys, find? (ft24 n), gls, [], [], []⟩
theorem e24 (n x) : execFn (c24 n) h24 n Go.Proofs.Try.f24 s24 x = F24 n x := by kernel_rfl
theorem fn24 : P.funcs[24]? = some Go.Proofs.Try.f24 := by kernel_rfl
theorem call24 : Callable P 24 := callB_ok (by kernel_rfl)
theorem S24 (A : Amb) (n : Nat) : Sound A P (c24 n) 24 s24 (F24 n) :=
  execFn_sound mixed (tab rfl) (ft_all (C := c24 n) (l := ft24 n) rfl trivial) fn24 fun x y h => (e24 n x).trans h
def s11 : Sig := ⟨[.val (.sl .imm 24 (.sl .imm 32 (.st (.pair tI (.pair tI (.pair .str .unit)))))), .val tI, .val tI], [.val (.sl .imm 24 (.sl .imm 8 tI))]⟩
/-- rabbet/part.Apart -/
def F11 (n : Nat) (x : (List (List (Int × Int × List Int × Unit))) × Int × Int × Unit) : Option ((List (List Int) × Unit) × (Unit)) :=
  (joinF (fun (s1 : Int × Int) => (if 0 ≤ s1.2 ∧ s1.2 ≤ s1.2 ∧ s1.2 * 24 ≤ room then ((F24 n (x.1, ())).bind fun (y3 : (Int × Unit) × (Unit)) => (iterF (fun rec5 (s4 : List (List Int) × Int) => (if (decide (s4.2 < y3.1.1)) = true then (atI s1.1 x.1.length (atI s4.2 ((x.1.getD s1.1.toNat []).length) ((F20 n (((x.1.getD s1.1.toNat []).getD s4.2.toNat ((0:Int), (0:Int), [], ())), s1.2, ())).bind fun (y6 : (Int × Unit) × (Unit)) => (atI y6.1.1 s4.1.length (if ((s4.1.getD y6.1.1.toNat []).length + [s4.2].length) * 8 ≤ room then (atI y6.1.1 s4.1.length (if y6.1.1 = y6.1.1 then (rec5 ((s4.1.set y6.1.1.toNat ((s4.1.getD y6.1.1.toNat []) ++ [s4.2])), (IntKind.i64.wrap (s4.2 + (1:Int))))) else none)) else none))))) else (some ((s4.1, ()), ())))) n ((List.replicate s1.2.toNat ([] : List Int)), (0:Int)))) else none)) fun J2 => (if (decide (x.2.1 < (0:Int))) = true then (J2 ((0:Int), (1:Int))) else (if (decide ((x.1.length : Int) ≤ x.2.1)) = true then (J2 ((0:Int), (1:Int))) else (J2 (x.2.1, (if (if (1:Int) ≤ x.2.2.1 then x.2.2.1 else (1:Int)) ≤ (4:Int) then (if (1:Int) ≤ x.2.2.1 then x.2.2.1 else (1:Int)) else (4:Int)))))))
def h11 : Hints := ⟨[(0, ⟨[(7, .val (.sl .own 24 (.sl .own 8 tI))), (25, .val tI)], [0, 1, 2, 24], []⟩)], [(8, ⟨[(1, .val tI), (2, .val tI)], [0], []⟩)]⟩
def ft11 (n : Nat) : List (Nat × FEnt) := [(20, ⟨s20, F20 n⟩), (24, ⟨s24, F24 n⟩)]
def c11 (n : Nat) : Ctx := ⟨49, find? tys, find? (ft11 n), gls, [], [], [22]⟩
theorem e11 (n x) : execFn (c11 n) h11 n Go.Proofs.Try.f11 s11 x = F11 n x := by kernel_rfl
theorem fn11 : P.funcs[11]? = some Go.Proofs.Try.f11 := by kernel_rfl
theorem call11 : Callable P 11 := callB_ok (by kernel_rfl)
theorem S11 (A : Amb) (n : Nat) : Sound A P (c11 n) 11 s11 (F11 n) :=
  execFn_sound mixed (tab rfl) (ft_all (C := c11 n) (l := ft11 n) rfl ⟨⟨call20, (S20 A n).of rfl⟩, ⟨call24, (S24 A n).of rfl⟩, trivial⟩) fn11 fun x y h => (e11 n x).trans h
def s43 : Sig := ⟨[.val tU, .val tI], [.val (.sl .imm 1 tB)]⟩
/-- rabbet/rabbetref1.High -/
def F43 (n : Nat) (x : Int × Int × Unit) : Option ((List Int × Unit) × (Unit)) :=
  (if 0 ≤ x.2.1 ∧ x.2.1 ≤ x.2.1 ∧ x.2.1 * 1 ≤ room then (iterF (fun rec2 (s1 : Int × List Int × Int) => (if (decide ((0:Int) ≤ s1.2.2)) = true then (atI s1.2.2 s1.2.1.length (rec2 ((IntKind.u64.wrap (s1.1.tdiv (256:Int))), (s1.2.1.set s1.2.2.toNat (IntKind.u8.wrap (s1.1.tmod (256:Int)))), (IntKind.i64.wrap (s1.2.2 - (1:Int)))))) else (some ((s1.2.1, ()), ())))) n (x.1, (List.replicate x.2.1.toNat (0:Int)), (IntKind.i64.wrap (x.2.1 - (1:Int))))) else none)
def h43 : Hints := ⟨[(0, ⟨[(0, .val tU), (5, .val (.sl .own 1 tB)), (6, .val tI)], [], []⟩)], []⟩
def ft43 (n : Nat) : List (Nat × FEnt) := []
def c43 (n : Nat) : Ctx := ⟨24, find? tys, find? (ft43 n), gls, [], [], []⟩
theorem e43 (n x) : execFn (c43 n) h43 n Go.Proofs.Try.f43 s43 x = F43 n x := by kernel_rfl
theorem fn43 : P.funcs[43]? = some Go.Proofs.Try.f43 := by kernel_rfl
theorem call43 : Callable P 43 := callB_ok (by kernel_rfl)
theorem S43 (A : Amb) (n : Nat) : Sound A P (c43 n) 43 s43 (F43 n) :=
  execFn_sound mixed (tab rfl) (ft_all (C := c43 n) (l := ft43 n) rfl trivial) fn43 fun x y h => (e43 n x).trans h
def s21 : Sig := ⟨[.val (.st (.pair tI (.pair tI (.pair .str .unit)))), .val tI], [.val tI]⟩
/-- rabbet/rabbetref12.Part -/
def F21 (n : Nat) (x : (Int × Int × List Int × Unit) × Int × Unit) : Option ((Int × Unit) × (Unit)) :=
  (if (decide (x.2.1 < (2:Int))) = true then (some (((0:Int), ()), ())) else (joinF (fun (s1 : List Int) => (iterF (fun rec4 (s3 : Int × Int) => (if (decide (s3.2 < (s1.length : Int))) = true then (atI s3.2 s1.length (rec4 (((IntKind.u64.wrap ((bits .xor .u64 s3.1 (IntKind.u64.wrap (s1.getD s3.2.toNat (0:Int)))) * (16777619:Int))).tmod (4294967296:Int)), (IntKind.i64.wrap (s3.2 + (1:Int)))))) else (if (IntKind.u64.wrap x.2.1) = 0 then none else (some (((IntKind.i64.wrap (s3.1.tmod (IntKind.u64.wrap x.2.1))), ()), ()))))) n ((2166136261:Int), (0:Int)))) fun J2 => (if (decide (x.1.1 = (0:Int))) = true then (J2 [(0:Int)]) else (if (decide (x.1.1 = (4:Int))) = true then (if ([(2:Int)].length + x.1.2.2.1.length) * 1 ≤ room then (J2 ([(2:Int)] ++ x.1.2.2.1)) else none) else ((F43 n ((IntKind.u64.wrap x.1.2.1), (8:Int), ())).bind fun (y5 : (List Int × Unit) × (Unit)) => (if ([(1:Int)].length + y5.1.1.length) * 1 ≤ room then (J2 ([(1:Int)] ++ y5.1.1)) else none))))))
def h21 : Hints := ⟨[(1, ⟨[(6, .val tU), (7, .val tI)], [1, 5], []⟩)], [(18, ⟨[(5, .val (.sl .own 1 tB))], [1], []⟩)]⟩
def ft21 (n : Nat) : List (Nat × FEnt) := [(43, ⟨s43, F43 n⟩)]
def c21 (n : Nat) : Ctx := ⟨47, find? tys, find? (ft21 n), gls, [], [2], []⟩
theorem e21 (n x) : execFn (c21 n) h21 n Go.Proofs.Try.f21 s21 x = F21 n x := by kernel_rfl
theorem fn21 : P.funcs[21]? = some Go.Proofs.Try.f21 := by kernel_rfl
theorem call21 : Callable P 21 := callB_ok (by kernel_rfl)
theorem S21 (A : Amb) (n : Nat) : Sound A P (c21 n) 21 s21 (F21 n) :=
  execFn_sound mixed (tab rfl) (ft_all (C := c21 n) (l := ft21 n) rfl ⟨⟨call43, (S43 A n).of rfl⟩, trivial⟩) fn21 fun x y h => (e21 n x).trans h
def s7 : Sig := ⟨[], [.val .bool]⟩
/-- rabbet/rabbetlaw14.begun -/
def F7 (n : Nat) (x : Unit) : Option ((Bool × Unit) × (Unit)) :=
  ((F11 n ([[((2:Int), (2:Int), [], ()), ((0:Int), (0:Int), [], ())]], (0:Int), (1:Int), ())).bind fun (y1 : (List (List Int) × Unit) × (Unit)) => ((F20 n (((0:Int), (0:Int), [], ()), (1:Int), ())).bind fun (y2 : (Int × Unit) × (Unit)) => (if (decide (y2.1.1 = (0:Int))) = true then ((F20 n (((0:Int), (0:Int), [], ()), (4:Int), ())).bind fun (y3 : (Int × Unit) × (Unit)) => ((F21 n (((0:Int), (0:Int), [], ()), (4:Int), ())).bind fun (y4 : (Int × Unit) × (Unit)) => (if (decide (y3.1.1 = y4.1.1)) = true then ((F20 n (((1:Int), (7:Int), [], ()), (4:Int), ())).bind fun (y5 : (Int × Unit) × (Unit)) => ((F20 n (((2:Int), (7:Int), [], ()), (4:Int), ())).bind fun (y6 : (Int × Unit) × (Unit)) => (if (decide (y5.1.1 = y6.1.1)) = true then (if (decide ((y1.1.1.length : Int) = (1:Int))) = true then (atI (0:Int) y1.1.1.length (some (((decide (((y1.1.1.getD (0:Int).toNat []).length : Int) = (2:Int))), ()), ()))) else (some ((false, ()), ()))) else (some ((false, ()), ()))))) else (some ((false, ()), ()))))) else (some ((false, ()), ())))))
def h7 : Hints := ⟨[], []⟩
def ft7 (n : Nat) : List (Nat × FEnt) := [(11, ⟨s11, F11 n⟩), (20, ⟨s20, F20 n⟩), (21, ⟨s21, F21 n⟩)]
def c7 (n : Nat) : Ctx := ⟨36, find? tys, find? (ft7 n), gls, [], [], []⟩
theorem e7 (n x) : execFn (c7 n) h7 n Go.Proofs.Try.f7 s7 x = F7 n x := by kernel_rfl
theorem fn7 : P.funcs[7]? = some Go.Proofs.Try.f7 := by kernel_rfl
theorem call7 : Callable P 7 := callB_ok (by kernel_rfl)
theorem S7 (A : Amb) (n : Nat) : Sound A P (c7 n) 7 s7 (F7 n) :=
  execFn_sound mixed (tab rfl) (ft_all (C := c7 n) (l := ft7 n) rfl ⟨⟨call11, (S11 A n).of rfl⟩, ⟨call20, (S20 A n).of rfl⟩, ⟨call21, (S21 A n).of rfl⟩, trivial⟩) fn7 fun x y h => (e7 n x).trans h
def s8 : Sig := ⟨[.val (.sl .imm 1 tB)], [.box (.st (.pair (.sl .imm 1 tB) (.pair tI .unit)))]⟩
/-- rabbet/rabbetplay.Made -/
def F8 (n : Nat) (x : List Int × Unit) : Option (((List Int × Int × Unit) × Unit) × (Unit)) :=
  (some (((x.1, (0:Int), ()), ()), ()))
def h8 : Hints := ⟨[], []⟩
def ft8 (n : Nat) : List (Nat × FEnt) := []
def c8 (n : Nat) : Ctx := ⟨6, find? tys, find? (ft8 n), gls, [], [], []⟩
theorem e8 (n x) : execFn (c8 n) h8 n Go.Proofs.Try.f8 s8 x = F8 n x := by kernel_rfl
theorem fn8 : P.funcs[8]? = some Go.Proofs.Try.f8 := by kernel_rfl
theorem call8 : Callable P 8 := callB_ok (by kernel_rfl)
theorem S8 (A : Amb) (n : Nat) : Sound A P (c8 n) 8 s8 (F8 n) :=
  execFn_sound mixed (tab rfl) (ft_all (C := c8 n) (l := ft8 n) rfl trivial) fn8 fun x y h => (e8 n x).trans h
def s22 : Sig := ⟨[.io (.st (.pair (.sl .imm 1 tB) (.pair tI .unit))), .val tI], [.val tI]⟩
/-- (*rabbet/rabbetplay.Picks).Num -/
def F22 (n : Nat) (x : (List Int × Int × Unit) × Int × Unit) : Option ((Int × Unit) × ((List Int × Int × Unit) × Unit)) :=
  (if (decide ((x.1.1.length : Int) ≤ x.1.2.1)) = true then (some (((0:Int), ()), (x.1, ()))) else (atI (IntKind.i64.wrap ((IntKind.i64.wrap (x.1.2.1 + (1:Int))) - (1:Int))) x.1.1.length (if x.2.1 = 0 then none else (some ((((IntKind.i64.wrap (x.1.1.getD (IntKind.i64.wrap ((IntKind.i64.wrap (x.1.2.1 + (1:Int))) - (1:Int))).toNat (0:Int))).tmod x.2.1), ()), ((x.1.1, (IntKind.i64.wrap (x.1.2.1 + (1:Int))), x.1.2.2), ()))))))
def h22 : Hints := ⟨[], []⟩
def ft22 (n : Nat) : List (Nat × FEnt) := []
def c22 (n : Nat) : Ctx := ⟨36, find? tys, find? (ft22 n), gls, [], [], []⟩
theorem e22 (n x) : execFn (c22 n) h22 n Go.Proofs.Try.f22 s22 x = F22 n x := by kernel_rfl
theorem fn22 : P.funcs[22]? = some Go.Proofs.Try.f22 := by kernel_rfl
theorem call22 : Callable P 22 := callB_ok (by kernel_rfl)
theorem S22 (A : Amb) (n : Nat) : Sound A P (c22 n) 22 s22 (F22 n) :=
  execFn_sound mixed (tab rfl) (ft_all (C := c22 n) (l := ft22 n) rfl trivial) fn22 fun x y h => (e22 n x).trans h
def s9 : Sig := ⟨[.io (.st (.pair (.sl .imm 1 tB) (.pair tI .unit)))], [.val (.st (.pair (.sl .imm 32 (.st (.pair tI (.pair .str (.pair tI .unit))))) (.pair tI .unit))), .val (.st (.pair tI (.pair tI (.pair tI (.pair (.sl .imm 8 tI) .unit)))))]⟩
/-- (*rabbet/rabbetplay.Picks).Schema -/
def F9 (n : Nat) (x : (List Int × Int × Unit) × Unit) : Option (((List (Int × List Int × Int × Unit) × Int × Unit) × (Int × Int × Int × List Int × Unit) × Unit) × ((List Int × Int × Unit) × Unit)) :=
  ((F22 n (x.1, (4:Int), ())).bind fun (y1 : (Int × Unit) × ((List Int × Int × Unit) × Unit)) => ((F22 n (y1.2.1, (3:Int), ())).bind fun (y2 : (Int × Unit) × ((List Int × Int × Unit) × Unit)) => (iterF (fun rec4 (s3 : (List Int × Int × Unit) × (List (Int × List Int × Int × Unit) × Int × Unit) × Int) => (if (decide ((0:Int) < s3.2.2)) = true then (if [99].length + [(IntKind.u8.wrap (IntKind.i64.wrap ((97:Int) + s3.2.2)))].length ≤ 140737488355328 then ((F22 n (s3.1, (4:Int), ())).bind fun (y5 : (Int × Unit) × ((List Int × Int × Unit) × Unit)) => (if (s3.2.1.1.length + [((IntKind.i64.wrap (s3.2.1.2.1 + (1:Int))), ([99] ++ [(IntKind.u8.wrap (IntKind.i64.wrap ((97:Int) + s3.2.2)))]), (IntKind.i64.wrap ((1:Int) + y5.1.1)), ())].length) * 32 ≤ room then (rec4 (y5.2.1, ((s3.2.1.1 ++ [((IntKind.i64.wrap (s3.2.1.2.1 + (1:Int))), ([99] ++ [(IntKind.u8.wrap (IntKind.i64.wrap ((97:Int) + s3.2.2)))]), (IntKind.i64.wrap ((1:Int) + y5.1.1)), ())]), (IntKind.i64.wrap (s3.2.1.2.1 + (1:Int))), s3.2.1.2.2), (IntKind.i64.wrap (s3.2.2 - (1:Int))))) else none)) else none) else (iterF (fun rec7 (s6 : (List Int × Int × Unit) × (List (Int × List Int × Int × Unit) × Int × Unit) × (Int × Int × Int × List Int × Unit) × Int) => (if (decide (s6.2.2.2 < (s6.2.1.1.length : Int))) = true then ((F22 n (s6.1, (5:Int), ())).bind fun (y8 : (Int × Unit) × ((List Int × Int × Unit) × Unit)) => (if (s6.2.2.1.2.2.2.1.length + [(IntKind.i64.wrap ((1:Int) + y8.1.1))].length) * 8 ≤ room then (rec7 (y8.2.1, s6.2.1, (s6.2.2.1.1, s6.2.2.1.2.1, s6.2.2.1.2.2.1, (s6.2.2.1.2.2.2.1 ++ [(IntKind.i64.wrap ((1:Int) + y8.1.1))]), s6.2.2.1.2.2.2.2), (IntKind.i64.wrap (s6.2.2.2 + (1:Int))))) else none)) else (joinF (fun (s9 : (List Int × Int × Unit) × (List (Int × List Int × Int × Unit) × Int × Unit) × Int × Int × Int × List Int × Unit) => ((F22 n (s9.1, (2:Int), ())).bind fun (y11 : (Int × Unit) × ((List Int × Int × Unit) × Unit)) => (if (decide (y11.1.1 = (1:Int))) = true then ((F22 n (y11.2.1, (s9.2.1.1.length : Int), ())).bind fun (y12 : (Int × Unit) × ((List Int × Int × Unit) × Unit)) => ((F22 n (y12.2.1, (4:Int), ())).bind fun (y13 : (Int × Unit) × ((List Int × Int × Unit) × Unit)) => (some ((s9.2.1, (s9.2.2.1, (IntKind.i64.wrap ((1:Int) + y12.1.1)), (IntKind.i64.wrap ((1:Int) + y13.1.1)), s9.2.2.2.2.2), ()), (y13.2.1, ()))))) else (some ((s9.2.1, s9.2.2, ()), (y11.2.1, ())))))) fun J10 => ((F22 n (s6.1, (2:Int), ())).bind fun (y14 : (Int × Unit) × ((List Int × Int × Unit) × Unit)) => (if (decide (y14.1.1 = (1:Int))) = true then ((F22 n (y14.2.1, (s6.2.1.1.length : Int), ())).bind fun (y15 : (Int × Unit) × ((List Int × Int × Unit) × Unit)) => (J10 (y15.2.1, s6.2.1, (IntKind.i64.wrap ((1:Int) + y15.1.1)), s6.2.2.1.2))) else (J10 (y14.2.1, s6.2.1, s6.2.2.1))))))) n (s3.1, s3.2.1, ((0:Int), (0:Int), (1:Int), [], ()), (0:Int))))) n (y2.2.1, ([((1:Int), [105, 100], (IntKind.i64.wrap ((1:Int) + y1.1.1)), ()), ((2:Int), [116], (4:Int), ())], (2:Int), ()), y2.1.1))))
def h9 : Hints := ⟨[(0, ⟨[(0, .box (.st (.pair (.sl .imm 1 tB) (.pair tI .unit)))), (4, .box (.st (.pair (.sl .own 32 (.st (.pair tI (.pair .str (.pair tI .unit))))) (.pair tI .unit)))), (5, .val tI)], [], [2, 3]⟩), (2, ⟨[(0, .box (.st (.pair (.sl .imm 1 tB) (.pair tI .unit)))), (4, .box (.st (.pair (.sl .own 32 (.st (.pair tI (.pair .str (.pair tI .unit))))) (.pair tI .unit)))), (6, .box (.st (.pair tI (.pair tI (.pair tI (.pair (.sl .own 8 tI) .unit)))))), (7, .val tI)], [], [2, 3]⟩)], [(28, ⟨[(0, .box (.st (.pair (.sl .imm 1 tB) (.pair tI .unit)))), (4, .box (.st (.pair (.sl .own 32 (.st (.pair tI (.pair .str (.pair tI .unit))))) (.pair tI .unit)))), (6, .box (.st (.pair tI (.pair tI (.pair tI (.pair (.sl .own 8 tI) .unit))))))], [], [2, 3]⟩)]⟩
def ft9 (n : Nat) : List (Nat × FEnt) := [(22, ⟨s22, F22 n⟩)]
def c9 (n : Nat) : Ctx := ⟨84, find? tys, find? (ft9 n), gls, [], [], []⟩
theorem e9 (n x) : execFn (c9 n) h9 n Go.Proofs.Try.f9 s9 x = F9 n x := by kernel_rfl
theorem fn9 : P.funcs[9]? = some Go.Proofs.Try.f9 := by kernel_rfl
theorem call9 : Callable P 9 := callB_ok (by kernel_rfl)
theorem S9 (A : Amb) (n : Nat) : Sound A P (c9 n) 9 s9 (F9 n) :=
  execFn_sound mixed (tab rfl) (ft_all (C := c9 n) (l := ft9 n) rfl ⟨⟨call22, (S22 A n).of rfl⟩, trivial⟩) fn9 fun x y h => (e9 n x).trans h
def s44 : Sig := ⟨[.io (.st (.pair (.sl .imm 1 tB) (.pair tI .unit)))], [.val .bool]⟩
/-- (*rabbet/rabbetplay.Picks).Over -/
def F44 (n : Nat) (x : (List Int × Int × Unit) × Unit) : Option ((Bool × Unit) × ((List Int × Int × Unit) × Unit)) :=
  (some (((decide ((x.1.1.length : Int) ≤ x.1.2.1)), ()), (x.1, ())))
def h44 : Hints := ⟨[], []⟩
def ft44 (n : Nat) : List (Nat × FEnt) := []
def c44 (n : Nat) : Ctx := ⟨13, find? tys, find? (ft44 n), gls, [], [], []⟩
theorem e44 (n x) : execFn (c44 n) h44 n Go.Proofs.Try.f44 s44 x = F44 n x := by kernel_rfl
theorem fn44 : P.funcs[44]? = some Go.Proofs.Try.f44 := by kernel_rfl
theorem call44 : Callable P 44 := callB_ok (by kernel_rfl)
theorem S44 (A : Amb) (n : Nat) : Sound A P (c44 n) 44 s44 (F44 n) :=
  execFn_sound mixed (tab rfl) (ft_all (C := c44 n) (l := ft44 n) rfl trivial) fn44 fun x y h => (e44 n x).trans h
def s26 : Sig := ⟨[.io (.st (.pair (.sl .imm 1 tB) (.pair tI .unit))), .val tI], [.val (.st (.pair tI (.pair tI (.pair .str .unit))))]⟩
/-- (*rabbet/rabbetplay.Picks).Value -/
def F26 (n : Nat) (x : (List Int × Int × Unit) × Int × Unit) : Option (((Int × Int × List Int × Unit) × Unit) × ((List Int × Int × Unit) × Unit)) :=
  ((F22 n (x.1, (9:Int), ())).bind fun (y1 : (Int × Unit) × ((List Int × Int × Unit) × Unit)) => (joinF (fun (s2 : (List Int × Int × Unit) × Int × Int × List Int × Unit) => (if (decide (x.2.1 = (1:Int))) = true then (atI y1.1.1 ([(0:Int), (1:Int), (2:Int), (3:Int), (-1:Int), (100:Int), (-32768:Int), (32767:Int), (5:Int)].length) (some (((x.2.1, ([(0:Int), (1:Int), (2:Int), (3:Int), (-1:Int), (100:Int), (-32768:Int), (32767:Int), (5:Int)].getD y1.1.1.toNat (0:Int)), [], ()), ()), (s2.1, ())))) else (if (decide (x.2.1 = (2:Int))) = true then (atI y1.1.1 ([(0:Int), (1:Int), (2:Int), (3:Int), (-1:Int), (1000000:Int), (-9223372036854775808:Int), (9223372036854775807:Int), (4611686018427387904:Int)].length) (some (((x.2.1, ([(0:Int), (1:Int), (2:Int), (3:Int), (-1:Int), (1000000:Int), (-9223372036854775808:Int), (9223372036854775807:Int), (4611686018427387904:Int)].getD y1.1.1.toNat (0:Int)), [], ()), ()), (s2.1, ())))) else (if (decide (x.2.1 = (3:Int))) = true then (some (((x.2.1, (y1.1.1.tmod (2:Int)), [], ()), ()), (s2.1, ()))) else (atI y1.1.1 ([[], [97], [98], [97, 58, 98], [97, 98], [120, 58, 121, 58, 122], [58], [116, 119, 101, 110, 116, 121, 45, 98, 121, 116, 101, 115, 45, 111, 102, 45, 116, 101, 120, 116], [99]].length) (some ((((4:Int), (0:Int), ([[], [97], [98], [97, 58, 98], [97, 98], [120, 58, 121, 58, 122], [58], [116, 119, 101, 110, 116, 121, 45, 98, 121, 116, 101, 115, 45, 111, 102, 45, 116, 101, 120, 116], [99]].getD y1.1.1.toNat []), ()), ()), (s2.1, ())))))))) fun J3 => (if (decide (y1.1.1 = (0:Int))) = true then ((F44 n (y1.2.1, ())).bind fun (y4 : (Bool × Unit) × ((List Int × Int × Unit) × Unit)) => (if (!y4.1.1) = true then (some ((((0:Int), (0:Int), [], ()), ()), (y4.2.1, ()))) else (J3 (y4.2.1, (0:Int), (0:Int), [], ())))) else (J3 (y1.2.1, (0:Int), (0:Int), [], ())))))
def h26 : Hints := ⟨[], [(8, ⟨[(0, .box (.st (.pair (.sl .imm 1 tB) (.pair tI .unit)))), (4, .box (.st (.pair tI (.pair tI (.pair .str .unit)))))], [1, 5], []⟩)]⟩
def ft26 (n : Nat) : List (Nat × FEnt) := [(22, ⟨s22, F22 n⟩), (44, ⟨s44, F44 n⟩)]
def c26 (n : Nat) : Ctx := ⟨44, find? tys, find? (ft26 n), gls, [], [], []⟩
theorem e26 (n x) : execFn (c26 n) h26 n Go.Proofs.Try.f26 s26 x = F26 n x := by kernel_rfl
theorem fn26 : P.funcs[26]? = some Go.Proofs.Try.f26 := by kernel_rfl
theorem call26 : Callable P 26 := callB_ok (by kernel_rfl)
theorem S26 (A : Amb) (n : Nat) : Sound A P (c26 n) 26 s26 (F26 n) :=
  execFn_sound mixed (tab rfl) (ft_all (C := c26 n) (l := ft26 n) rfl ⟨⟨call22, (S22 A n).of rfl⟩, ⟨call44, (S44 A n).of rfl⟩, trivial⟩) fn26 fun x y h => (e26 n x).trans h
def s32 : Sig := ⟨[.io (.st (.pair (.sl .imm 1 tB) (.pair tI .unit))), .val (.st (.pair (.sl .imm 32 (.st (.pair tI (.pair .str (.pair tI .unit))))) (.pair tI .unit)))], [.val (.sl .imm 32 (.st (.pair tI (.pair tI (.pair .str .unit)))))]⟩
/-- (*rabbet/rabbetplay.Picks).Row -/
def F32 (n : Nat) (x : (List Int × Int × Unit) × (List (Int × List Int × Int × Unit) × Int × Unit) × Unit) : Option (((List (Int × Int × List Int × Unit)) × Unit) × ((List Int × Int × Unit) × Unit)) :=
  (iterF (fun rec2 (s1 : (List Int × Int × Unit) × (List (Int × Int × List Int × Unit)) × Int) => (if (decide (s1.2.2 < (x.2.1.1.length : Int))) = true then (atI s1.2.2 x.2.1.1.length ((F26 n (s1.1, (((x.2.1.1.getD s1.2.2.toNat ((0:Int), [], (0:Int), ())).2).2).1, ())).bind fun (y3 : ((Int × Int × List Int × Unit) × Unit) × ((List Int × Int × Unit) × Unit)) => (if (s1.2.1.length + [y3.1.1].length) * 32 ≤ room then (rec2 (y3.2.1, (s1.2.1 ++ [y3.1.1]), (IntKind.i64.wrap (s1.2.2 + (1:Int))))) else none))) else (some ((s1.2.1, ()), (s1.1, ()))))) n (x.1, [], (0:Int)))
def h32 : Hints := ⟨[(0, ⟨[(0, .box (.st (.pair (.sl .imm 1 tB) (.pair tI .unit)))), (5, .val (.sl .own 32 (.st (.pair tI (.pair tI (.pair .str .unit)))))), (6, .val tI)], [3], []⟩)], []⟩
def ft32 (n : Nat) : List (Nat × FEnt) := [(26, ⟨s26, F26 n⟩)]
def c32 (n : Nat) : Ctx := ⟨26, find? tys, find? (ft32 n), gls, [], [3], []⟩
theorem e32 (n x) : execFn (c32 n) h32 n Go.Proofs.Try.f32 s32 x = F32 n x := by kernel_rfl
theorem fn32 : P.funcs[32]? = some Go.Proofs.Try.f32 := by kernel_rfl
theorem call32 : Callable P 32 := callB_ok (by kernel_rfl)
theorem S32 (A : Amb) (n : Nat) : Sound A P (c32 n) 32 s32 (F32 n) :=
  execFn_sound mixed (tab rfl) (ft_all (C := c32 n) (l := ft32 n) rfl ⟨⟨call26, (S26 A n).of rfl⟩, trivial⟩) fn32 fun x y h => (e32 n x).trans h
def s15 : Sig := ⟨[.io (.st (.pair (.sl .imm 1 tB) (.pair tI .unit))), .val (.st (.pair (.sl .imm 32 (.st (.pair tI (.pair .str (.pair tI .unit))))) (.pair tI .unit))), .val tI], [.val (.sl .imm 24 (.sl .imm 32 (.st (.pair tI (.pair tI (.pair .str .unit))))))]⟩
/-- (*rabbet/rabbetplay.Picks).Rows -/
def F15 (n : Nat) (x : (List Int × Int × Unit) × (List (Int × List Int × Int × Unit) × Int × Unit) × Int × Unit) : Option (((List (List (Int × Int × List Int × Unit))) × Unit) × ((List Int × Int × Unit) × Unit)) :=
  (iterF (fun rec2 (s1 : (List Int × Int × Unit) × (List (List (Int × Int × List Int × Unit))) × Int) => (if (decide (s1.2.2 < x.2.2.1)) = true then ((F32 n (s1.1, x.2.1, ())).bind fun (y3 : ((List (Int × Int × List Int × Unit)) × Unit) × ((List Int × Int × Unit) × Unit)) => (if (s1.2.1.length + [y3.1.1].length) * 24 ≤ room then (rec2 (y3.2.1, (s1.2.1 ++ [y3.1.1]), (IntKind.i64.wrap (s1.2.2 + (1:Int))))) else none)) else (some ((s1.2.1, ()), (s1.1, ()))))) n (x.1, [], (0:Int)))
def h15 : Hints := ⟨[(0, ⟨[(0, .box (.st (.pair (.sl .imm 1 tB) (.pair tI .unit)))), (7, .val (.sl .own 24 (.sl .imm 32 (.st (.pair tI (.pair tI (.pair .str .unit))))))), (8, .val tI)], [2, 4], []⟩)], []⟩
def ft15 (n : Nat) : List (Nat × FEnt) := [(32, ⟨s32, F32 n⟩)]
def c15 (n : Nat) : Ctx := ⟨21, find? tys, find? (ft15 n), gls, [], [4], []⟩
theorem e15 (n x) : execFn (c15 n) h15 n Go.Proofs.Try.f15 s15 x = F15 n x := by kernel_rfl
theorem fn15 : P.funcs[15]? = some Go.Proofs.Try.f15 := by kernel_rfl
theorem call15 : Callable P 15 := callB_ok (by kernel_rfl)
theorem S15 (A : Amb) (n : Nat) : Sound A P (c15 n) 15 s15 (F15 n) :=
  execFn_sound mixed (tab rfl) (ft_all (C := c15 n) (l := ft15 n) rfl ⟨⟨call32, (S32 A n).of rfl⟩, trivial⟩) fn15 fun x y h => (e15 n x).trans h
def s23 : Sig := ⟨[.val (.sl .imm 24 (.sl .imm 32 (.st (.pair tI (.pair tI (.pair .str .unit)))))), .val tI], [.val (.sl .imm 24 (.sl .imm 32 (.st (.pair tI (.pair tI (.pair .str .unit)))))), .val .bool]⟩
/-- rabbet/rabbetref12.Columns -/
def F23 (n : Nat) (x : (List (List (Int × Int × List Int × Unit))) × Int × Unit) : Option (((List (List (Int × Int × List Int × Unit))) × Bool × Unit) × (Unit)) :=
  (if (decide (x.2.1 < (1:Int))) = true then (some (([], false, ()), ())) else (if (decide ((6:Int) < x.2.1)) = true then (some (([], false, ()), ())) else (if 0 ≤ x.2.1 ∧ x.2.1 ≤ x.2.1 ∧ x.2.1 * 24 ≤ room then (iterF (fun rec2 (s1 : (List (List (Int × Int × List Int × Unit))) × Int) => (if (decide (s1.2 < (x.1.length : Int))) = true then (atI s1.2 x.1.length (if (!decide (((x.1.getD s1.2.toNat []).length : Int) = x.2.1)) = true then (some (([], false, ()), ())) else (iterF (fun rec4 (s3 : (List (List (Int × Int × List Int × Unit))) × Int) => (if (decide (s3.2 < x.2.1)) = true then (atI s3.2 s3.1.length (atI s1.2 x.1.length (atI s3.2 ((x.1.getD s1.2.toNat []).length) (if ((s3.1.getD s3.2.toNat []).length + [((x.1.getD s1.2.toNat []).getD s3.2.toNat ((0:Int), (0:Int), [], ()))].length) * 32 ≤ room then (atI s3.2 s3.1.length (if s3.2 = s3.2 then (rec4 ((s3.1.set s3.2.toNat ((s3.1.getD s3.2.toNat []) ++ [((x.1.getD s1.2.toNat []).getD s3.2.toNat ((0:Int), (0:Int), [], ()))])), (IntKind.i64.wrap (s3.2 + (1:Int))))) else none)) else none)))) else (rec2 (s3.1, (IntKind.i64.wrap (s1.2 + (1:Int))))))) n (s1.1, (0:Int))))) else (some ((s1.1, true, ()), ())))) n ((List.replicate x.2.1.toNat ([] : List (Int × Int × List Int × Unit))), (0:Int))) else none)))
def h23 : Hints := ⟨[(2, ⟨[(6, .val (.sl .own 24 (.sl .own 32 (.st (.pair tI (.pair tI (.pair .str .unit))))))), (8, .val tI)], [0, 1, 7], []⟩), (0, ⟨[(6, .val (.sl .own 24 (.sl .own 32 (.st (.pair tI (.pair tI (.pair .str .unit))))))), (7, .val tI)], [0, 1], []⟩)], []⟩
def ft23 (n : Nat) : List (Nat × FEnt) := []
def c23 (n : Nat) : Ctx := ⟨52, find? tys, find? (ft23 n), gls, [], [], [16]⟩
theorem e23 (n x) : execFn (c23 n) h23 n Go.Proofs.Try.f23 s23 x = F23 n x := by kernel_rfl
theorem fn23 : P.funcs[23]? = some Go.Proofs.Try.f23 := by kernel_rfl
theorem call23 : Callable P 23 := callB_ok (by kernel_rfl)
theorem S23 (A : Amb) (n : Nat) : Sound A P (c23 n) 23 s23 (F23 n) :=
  execFn_sound mixed (tab rfl) (ft_all (C := c23 n) (l := ft23 n) rfl trivial) fn23 fun x y h => (e23 n x).trans h
def s10 : Sig := ⟨[.io (.st (.pair (.sl .imm 1 tB) (.pair tI .unit))), .val (.st (.pair (.sl .imm 32 (.st (.pair tI (.pair .str (.pair tI .unit))))) (.pair tI .unit))), .val tI], [.val (.sl .imm 24 (.sl .imm 32 (.st (.pair tI (.pair tI (.pair .str .unit))))))]⟩
/-- (*rabbet/rabbetplay.Picks).Batch -/
def F10 (n : Nat) (x : (List Int × Int × Unit) × (List (Int × List Int × Int × Unit) × Int × Unit) × Int × Unit) : Option (((List (List (Int × Int × List Int × Unit))) × Unit) × ((List Int × Int × Unit) × Unit)) :=
  ((F15 n (x.1, x.2.1, x.2.2.1, ())).bind fun (y1 : ((List (List (Int × Int × List Int × Unit))) × Unit) × ((List Int × Int × Unit) × Unit)) => ((F23 n (y1.1.1, (x.2.1.1.length : Int), ())).bind fun (y2 : ((List (List (Int × Int × List Int × Unit))) × Bool × Unit) × (Unit)) => (some ((y2.1.1, ()), (y1.2.1, ())))))
def h10 : Hints := ⟨[], []⟩
def ft10 (n : Nat) : List (Nat × FEnt) := [(15, ⟨s15, F15 n⟩), (23, ⟨s23, F23 n⟩)]
def c10 (n : Nat) : Ctx := ⟨21, find? tys, find? (ft10 n), gls, [], [4], []⟩
theorem e10 (n x) : execFn (c10 n) h10 n Go.Proofs.Try.f10 s10 x = F10 n x := by kernel_rfl
theorem fn10 : P.funcs[10]? = some Go.Proofs.Try.f10 := by kernel_rfl
theorem call10 : Callable P 10 := callB_ok (by kernel_rfl)
theorem S10 (A : Amb) (n : Nat) : Sound A P (c10 n) 10 s10 (F10 n) :=
  execFn_sound mixed (tab rfl) (ft_all (C := c10 n) (l := ft10 n) rfl ⟨⟨call15, (S15 A n).of rfl⟩, ⟨call23, (S23 A n).of rfl⟩, trivial⟩) fn10 fun x y h => (e10 n x).trans h
def s3 : Sig := ⟨[.val (.sl .imm 1 tB), .val tB, .val tB], [.val .bool]⟩
/-- rabbet/rabbetlaw14.PartOnce -/
def F3 (n : Nat) (x : List Int × Int × Int × Unit) : Option ((Bool × Unit) × (Unit)) :=
  ((F7 n ()).bind fun (y1 : (Bool × Unit) × (Unit)) => (if (!y1.1.1) = true then (some ((false, ()), ())) else (if (decide ((60:Int) < (x.1.length : Int))) = true then (some ((true, ()), ())) else ((F8 n (x.1, ())).bind fun (y2 : ((List Int × Int × Unit) × Unit) × (Unit)) => ((F9 n (y2.1.1, ())).bind fun (y3 : ((List (Int × List Int × Int × Unit) × Int × Unit) × (Int × Int × Int × List Int × Unit) × Unit) × ((List Int × Int × Unit) × Unit)) => ((F10 n (y3.2.1, y3.1.1, (20:Int), ())).bind fun (y4 : ((List (List (Int × Int × List Int × Unit))) × Unit) × ((List Int × Int × Unit) × Unit)) => (if (y4.1.1.length : Int) = 0 then none else ((F11 n (y4.1.1, ((IntKind.i64.wrap x.2.1).tmod (y4.1.1.length : Int)), (IntKind.i64.wrap ((1:Int) + (IntKind.i64.wrap (x.2.2.1.tmod (4:Int))))), ())).bind fun (y5 : (List (List Int) × Unit) × (Unit)) => (iterF (fun rec7 (s6 : List Int × Int × Int) => (if (decide (s6.2.2 < (y5.1.1.length : Int))) = true then (iterF (fun rec9 (s8 : List Int × Int × Int) => (atI s6.2.2 y5.1.1.length (if (decide (s8.2.2 < ((y5.1.1.getD s6.2.2.toNat []).length : Int))) = true then (atI s6.2.2 y5.1.1.length (atI s8.2.2 ((y5.1.1.getD s6.2.2.toNat []).length) (if (decide (((y5.1.1.getD s6.2.2.toNat []).getD s8.2.2.toNat (0:Int)) < (0:Int))) = true then (some ((false, ()), ())) else (if (decide ((19:Int) < ((y5.1.1.getD s6.2.2.toNat []).getD s8.2.2.toNat (0:Int)))) = true then (some ((false, ()), ())) else (atI ((y5.1.1.getD s6.2.2.toNat []).getD s8.2.2.toNat (0:Int)) s8.1.length (if (!decide ((s8.1.getD ((y5.1.1.getD s6.2.2.toNat []).getD s8.2.2.toNat (0:Int)).toNat (0:Int)) = (0:Int))) = true then (some ((false, ()), ())) else (if (decide ((0:Int) < s8.2.2)) = true then (atI s6.2.2 y5.1.1.length (atI (IntKind.i64.wrap (s8.2.2 - (1:Int))) ((y5.1.1.getD s6.2.2.toNat []).length) (if (decide (((y5.1.1.getD s6.2.2.toNat []).getD s8.2.2.toNat (0:Int)) ≤ ((y5.1.1.getD s6.2.2.toNat []).getD (IntKind.i64.wrap (s8.2.2 - (1:Int))).toNat (0:Int)))) = true then (some ((false, ()), ())) else (atI ((y5.1.1.getD s6.2.2.toNat []).getD s8.2.2.toNat (0:Int)) s8.1.length (rec9 ((s8.1.set ((y5.1.1.getD s6.2.2.toNat []).getD s8.2.2.toNat (0:Int)).toNat (IntKind.i64.wrap (s6.2.2 + (1:Int)))), (IntKind.i64.wrap (s8.2.1 + (1:Int))), (IntKind.i64.wrap (s8.2.2 + (1:Int))))))))) else (atI ((y5.1.1.getD s6.2.2.toNat []).getD s8.2.2.toNat (0:Int)) s8.1.length (rec9 ((s8.1.set ((y5.1.1.getD s6.2.2.toNat []).getD s8.2.2.toNat (0:Int)).toNat (IntKind.i64.wrap (s6.2.2 + (1:Int)))), (IntKind.i64.wrap (s8.2.1 + (1:Int))), (IntKind.i64.wrap (s8.2.2 + (1:Int))))))))))))) else (rec7 (s8.1, s8.2.1, (IntKind.i64.wrap (s6.2.2 + (1:Int)))))))) n (s6.1, s6.2.1, (0:Int))) else (iterF (fun rec11 (s10 : List Int × Int) => (if (decide (s10.2 < (20:Int))) = true then (iterF (fun rec13 (s12 : List Int × Int) => (if (decide (s12.2 < s10.2)) = true then (atI ((IntKind.i64.wrap x.2.1).tmod (y4.1.1.length : Int)) y4.1.1.length (atI s10.2 ((y4.1.1.getD ((IntKind.i64.wrap x.2.1).tmod (y4.1.1.length : Int)).toNat []).length) (atI ((IntKind.i64.wrap x.2.1).tmod (y4.1.1.length : Int)) y4.1.1.length (atI s12.2 ((y4.1.1.getD ((IntKind.i64.wrap x.2.1).tmod (y4.1.1.length : Int)).toNat []).length) (if ((decide (((y4.1.1.getD ((IntKind.i64.wrap x.2.1).tmod (y4.1.1.length : Int)).toNat []).getD s10.2.toNat ((0:Int), (0:Int), [], ())).1 = ((y4.1.1.getD ((IntKind.i64.wrap x.2.1).tmod (y4.1.1.length : Int)).toNat []).getD s12.2.toNat ((0:Int), (0:Int), [], ())).1)) && ((decide ((((y4.1.1.getD ((IntKind.i64.wrap x.2.1).tmod (y4.1.1.length : Int)).toNat []).getD s10.2.toNat ((0:Int), (0:Int), [], ())).2).1 = (((y4.1.1.getD ((IntKind.i64.wrap x.2.1).tmod (y4.1.1.length : Int)).toNat []).getD s12.2.toNat ((0:Int), (0:Int), [], ())).2).1)) && (decide (((((y4.1.1.getD ((IntKind.i64.wrap x.2.1).tmod (y4.1.1.length : Int)).toNat []).getD s10.2.toNat ((0:Int), (0:Int), [], ())).2).2).1 = ((((y4.1.1.getD ((IntKind.i64.wrap x.2.1).tmod (y4.1.1.length : Int)).toNat []).getD s12.2.toNat ((0:Int), (0:Int), [], ())).2).2).1)))) = true then (atI s10.2 s12.1.length (atI s12.2 s12.1.length (if (!decide ((s12.1.getD s10.2.toNat (0:Int)) = (s12.1.getD s12.2.toNat (0:Int)))) = true then (some ((false, ()), ())) else (rec13 (s12.1, (IntKind.i64.wrap (s12.2 + (1:Int)))))))) else (rec13 (s12.1, (IntKind.i64.wrap (s12.2 + (1:Int)))))))))) else (rec11 (s12.1, (IntKind.i64.wrap (s10.2 + (1:Int))))))) n (s10.1, (0:Int))) else (if (decide (s6.2.1 = (20:Int))) = true then (some (((decide ((y5.1.1.length : Int) = (IntKind.i64.wrap ((1:Int) + (IntKind.i64.wrap (x.2.2.1.tmod (4:Int))))))), ()), ())) else (some ((false, ()), ()))))) n (s6.1, (0:Int))))) n ((List.replicate 20 (0:Int)), (0:Int), (0:Int)))))))))))
def h3 : Hints := ⟨[(2, ⟨[(13, .box (.arr 20 tI)), (14, .val tI), (16, .val tI)], [2, 10, 11, 12, 15], []⟩), (0, ⟨[(13, .box (.arr 20 tI)), (14, .val tI), (15, .val tI)], [2, 10, 11, 12], []⟩), (6, ⟨[(13, .box (.arr 20 tI)), (19, .val tI)], [2, 10, 11, 12, 14, 18], []⟩), (4, ⟨[(13, .box (.arr 20 tI)), (18, .val tI)], [2, 10, 11, 12, 14], []⟩)], []⟩
def ft3 (n : Nat) : List (Nat × FEnt) := [(7, ⟨s7, F7 n⟩), (8, ⟨s8, F8 n⟩), (9, ⟨s9, F9 n⟩), (10, ⟨s10, F10 n⟩), (11, ⟨s11, F11 n⟩)]
def c3 (n : Nat) : Ctx := ⟨147, find? tys, find? (ft3 n), gls, [], [], []⟩
theorem e3 (n x) : execFn (c3 n) h3 n Go.Proofs.Try.f3 s3 x = F3 n x := by kernel_rfl
theorem fn3 : P.funcs[3]? = some Go.Proofs.Try.f3 := by kernel_rfl
theorem call3 : Callable P 3 := callB_ok (by kernel_rfl)
theorem S3 (A : Amb) (n : Nat) : Sound A P (c3 n) 3 s3 (F3 n) :=
  execFn_sound mixed (tab rfl) (ft_all (C := c3 n) (l := ft3 n) rfl ⟨⟨call7, (S7 A n).of rfl⟩, ⟨call8, (S8 A n).of rfl⟩, ⟨call9, (S9 A n).of rfl⟩, ⟨call10, (S10 A n).of rfl⟩, ⟨call11, (S11 A n).of rfl⟩, trivial⟩) fn3 fun x y h => (e3 n x).trans h
end Go.Rb.S1
