/- The functions that the law runs, as pure functions; that their code is computed so, and their contracts. Printed by a program of our own. -/
import Derived.Test.YtcgaabciagiodaaRbE
import Derived.Test.YtcgaabciagiodaaChecked
import Derived.KernelRfl
import Derived.Eval
import Derived.Laws.Externs
import Derived.Test.YtcgaabciagiodaaRbG
namespace Go.Rb.S1
open Go.Rb
open Go.RowKit
abbrev tI : Ty := .int .i64
abbrev tB : Ty := .int .u8
abbrev tU : Ty := .int .u64
def tys : List (Nat × Ty) := [(2, tI), (3, tI), (4, .bool), (5, tB), (9, .str), (22, (.sl .imm 1 tB)), (26, (.sl .imm 32 (.st (.pair tI (.pair .str (.pair tI .unit)))))), (28, (.st (.pair (.sl .imm 32 (.st (.pair tI (.pair .str (.pair tI .unit))))) (.pair tI .unit)))), (29, (.sl .imm 8 tI)), (31, (.st (.pair tI (.pair tI (.pair tI (.pair (.sl .imm 8 tI) .unit)))))), (34, (.sl .imm 24 (.sl .imm 32 (.st (.pair tI (.pair tI (.pair .str .unit))))))), (36, (.sl .imm 24 (.sl .imm 8 tI))), (38, (.arr 20 tI)), (40, (.st (.pair tI (.pair tI (.pair .str .unit))))), (41, (.sl .imm 32 (.st (.pair tI (.pair tI (.pair .str .unit)))))), (44, (.st (.pair tI (.pair tI (.pair .str (.pair tI (.pair (.st (.pair tI (.pair tI (.pair .str .unit)))) (.pair tB (.pair tI .unit))))))))), (49, (.sl .imm 24 (.sl .imm 32 (.st (.pair tI (.pair tI (.pair .str .unit))))))), (54, (.sl .imm 32 (.st (.pair tI (.pair tI (.pair .str .unit)))))), (58, (.st (.pair tI (.pair .str (.pair tI .unit))))), (62, (.sl .imm 88 (.st (.pair tI (.pair tI (.pair .str (.pair tI (.pair (.st (.pair tI (.pair tI (.pair .str .unit)))) (.pair tB (.pair tI .unit)))))))))), (65, (.st (.pair (.sl .imm 1 tB) (.pair tI .unit)))), (89, (.int .u32)), (91, tU), (93, (.sl .imm 8 tI)), (94, (.sl .imm 16 .str))]
def gls : Nat → Option ((t : Ty) × t.den) := fun _ => none
noncomputable abbrev P : Program := Go.Proofs.Try.prog
set_option maxRecDepth 100000
theorem mixed : P.follows .mixedOrders = true := Go.Proofs.Try.checked.mixed
theorem tab {C : Ctx} (h : C.ty = find? tys) : TabOK P C := tab_ok (by kernel_rfl) h
def cH : Ctx := ⟨0, find? tys, fun _ => none, gls, [], [], []⟩
def s8 : Sig := ⟨[.val (.sl .imm 1 tB)], [.box (.st (.pair (.sl .imm 1 tB) (.pair tI .unit)))]⟩
/-- rabbet/rabbetplay.Made -/
def F8 (n : Nat) (x : List Int × Unit) : Option (((List Int × Int × Unit) × Unit) × (Unit)) :=
  (some (((x.1, (0:Int), ()), ()), ()))
def h8 : Hints := ⟨[], []⟩
def ft8 (n : Nat) : List (Nat × FEnt) := []
def c8 (n : Nat) : Ctx := ⟨6, find? tys, find? (ft8 n), gls, [], [], []⟩
theorem e8 (n x) : execFn (c8 n) h8 n Go.Proofs.Try.f8 s8 x = F8 n x := by kernel_rfl
theorem fn8 : P.funcs[8]? = some Go.Proofs.Try.f8 := by kernel_rfl
theorem call8 : Callable P 8 := callB_ok (by kernel_rfl)
theorem S8 (A : Amb) (n : Nat) : Sound A P (c8 n) 8 s8 (F8 n) :=
  execFn_sound mixed (tab rfl) (ft_all (C := c8 n) (l := ft8 n) rfl trivial) fn8 fun x y h => (e8 n x).trans h
def s22 : Sig := ⟨[.io (.st (.pair (.sl .imm 1 tB) (.pair tI .unit))), .val tI], [.val tI]⟩
/-- (*rabbet/rabbetplay.Picks).Num -/
def F22 (n : Nat) (x : (List Int × Int × Unit) × Int × Unit) : Option ((Int × Unit) × ((List Int × Int × Unit) × Unit)) :=
  (if (decide ((x.1.1.length : Int) ≤ x.1.2.1)) = true then (some (((0:Int), ()), (x.1, ()))) else (atI (IntKind.i64.wrap ((IntKind.i64.wrap (x.1.2.1 + (1:Int))) - (1:Int))) x.1.1.length (if x.2.1 = 0 then none else (some ((((IntKind.i64.wrap (x.1.1.getD (IntKind.i64.wrap ((IntKind.i64.wrap (x.1.2.1 + (1:Int))) - (1:Int))).toNat (0:Int))).tmod x.2.1), ()), ((x.1.1, (IntKind.i64.wrap (x.1.2.1 + (1:Int))), x.1.2.2), ()))))))
def h22 : Hints := ⟨[], []⟩
def ft22 (n : Nat) : List (Nat × FEnt) := []
def c22 (n : Nat) : Ctx := ⟨36, find? tys, find? (ft22 n), gls, [], [], []⟩
theorem e22 (n x) : execFn (c22 n) h22 n Go.Proofs.Try.f22 s22 x = F22 n x := by kernel_rfl
theorem fn22 : P.funcs[22]? = some Go.Proofs.Try.f22 := by kernel_rfl
theorem call22 : Callable P 22 := callB_ok (by kernel_rfl)
theorem S22 (A : Amb) (n : Nat) : Sound A P (c22 n) 22 s22 (F22 n) :=
  execFn_sound mixed (tab rfl) (ft_all (C := c22 n) (l := ft22 n) rfl trivial) fn22 fun x y h => (e22 n x).trans h
def s9 : Sig := ⟨[.io (.st (.pair (.sl .imm 1 tB) (.pair tI .unit)))], [.val (.st (.pair (.sl .imm 32 (.st (.pair tI (.pair .str (.pair tI .unit))))) (.pair tI .unit))), .val (.st (.pair tI (.pair tI (.pair tI (.pair (.sl .imm 8 tI) .unit)))))]⟩
/-- (*rabbet/rabbetplay.Picks).Schema -/
def F9 (n : Nat) (x : (List Int × Int × Unit) × Unit) : Option (((List (Int × List Int × Int × Unit) × Int × Unit) × (Int × Int × Int × List Int × Unit) × Unit) × ((List Int × Int × Unit) × Unit)) :=
  ((F22 n (x.1, (4:Int), ())).bind fun (y1 : (Int × Unit) × ((List Int × Int × Unit) × Unit)) => ((F22 n (y1.2.1, (3:Int), ())).bind fun (y2 : (Int × Unit) × ((List Int × Int × Unit) × Unit)) => (iterF (fun rec4 (s3 : (List Int × Int × Unit) × (List (Int × List Int × Int × Unit) × Int × Unit) × Int) => (if (decide ((0:Int) < s3.2.2)) = true then (if [99].length + [(IntKind.u8.wrap (IntKind.i64.wrap ((97:Int) + s3.2.2)))].length ≤ 140737488355328 then ((F22 n (s3.1, (4:Int), ())).bind fun (y5 : (Int × Unit) × ((List Int × Int × Unit) × Unit)) => (if (s3.2.1.1.length + ([((IntKind.i64.wrap (s3.2.1.2.1 + (1:Int))), ([99] ++ [(IntKind.u8.wrap (IntKind.i64.wrap ((97:Int) + s3.2.2)))]), (IntKind.i64.wrap ((1:Int) + y5.1.1)), ())] : List (Int × List Int × Int × Unit)).length) * 32 ≤ room then (rec4 (y5.2.1, ((s3.2.1.1 ++ ([((IntKind.i64.wrap (s3.2.1.2.1 + (1:Int))), ([99] ++ [(IntKind.u8.wrap (IntKind.i64.wrap ((97:Int) + s3.2.2)))]), (IntKind.i64.wrap ((1:Int) + y5.1.1)), ())] : List (Int × List Int × Int × Unit))), (IntKind.i64.wrap (s3.2.1.2.1 + (1:Int))), s3.2.1.2.2), (IntKind.i64.wrap (s3.2.2 - (1:Int))))) else none)) else none) else (iterF (fun rec7 (s6 : (List Int × Int × Unit) × (List (Int × List Int × Int × Unit) × Int × Unit) × (Int × Int × Int × List Int × Unit) × Int) => (if (decide (s6.2.2.2 < (s6.2.1.1.length : Int))) = true then ((F22 n (s6.1, (5:Int), ())).bind fun (y8 : (Int × Unit) × ((List Int × Int × Unit) × Unit)) => (if (s6.2.2.1.2.2.2.1.length + [(IntKind.i64.wrap ((1:Int) + y8.1.1))].length) * 8 ≤ room then (rec7 (y8.2.1, s6.2.1, (s6.2.2.1.1, s6.2.2.1.2.1, s6.2.2.1.2.2.1, (s6.2.2.1.2.2.2.1 ++ [(IntKind.i64.wrap ((1:Int) + y8.1.1))]), s6.2.2.1.2.2.2.2), (IntKind.i64.wrap (s6.2.2.2 + (1:Int))))) else none)) else (joinF (fun (s9 : (List Int × Int × Unit) × (List (Int × List Int × Int × Unit) × Int × Unit) × Int × Int × Int × List Int × Unit) => ((F22 n (s9.1, (2:Int), ())).bind fun (y11 : (Int × Unit) × ((List Int × Int × Unit) × Unit)) => (if (decide (y11.1.1 = (1:Int))) = true then ((F22 n (y11.2.1, (s9.2.1.1.length : Int), ())).bind fun (y12 : (Int × Unit) × ((List Int × Int × Unit) × Unit)) => ((F22 n (y12.2.1, (4:Int), ())).bind fun (y13 : (Int × Unit) × ((List Int × Int × Unit) × Unit)) => (some ((s9.2.1, (s9.2.2.1, (IntKind.i64.wrap ((1:Int) + y12.1.1)), (IntKind.i64.wrap ((1:Int) + y13.1.1)), s9.2.2.2.2.2), ()), (y13.2.1, ()))))) else (some ((s9.2.1, s9.2.2, ()), (y11.2.1, ())))))) fun J10 => ((F22 n (s6.1, (2:Int), ())).bind fun (y14 : (Int × Unit) × ((List Int × Int × Unit) × Unit)) => (if (decide (y14.1.1 = (1:Int))) = true then ((F22 n (y14.2.1, (s6.2.1.1.length : Int), ())).bind fun (y15 : (Int × Unit) × ((List Int × Int × Unit) × Unit)) => (J10 (y15.2.1, s6.2.1, (IntKind.i64.wrap ((1:Int) + y15.1.1)), s6.2.2.1.2))) else (J10 (y14.2.1, s6.2.1, s6.2.2.1))))))) n (s3.1, s3.2.1, ((0:Int), (0:Int), (1:Int), [], ()), (0:Int))))) n (y2.2.1, (([((1:Int), [105, 100], (IntKind.i64.wrap ((1:Int) + y1.1.1)), ()), ((2:Int), [116], (4:Int), ())] : List (Int × List Int × Int × Unit)), (2:Int), ()), y2.1.1))))
def h9 : Hints := ⟨[(0, ⟨[(0, .box (.st (.pair (.sl .imm 1 tB) (.pair tI .unit)))), (4, .box (.st (.pair (.sl .own 32 (.st (.pair tI (.pair .str (.pair tI .unit))))) (.pair tI .unit)))), (5, .val tI)], [], [2, 3]⟩), (2, ⟨[(0, .box (.st (.pair (.sl .imm 1 tB) (.pair tI .unit)))), (4, .box (.st (.pair (.sl .own 32 (.st (.pair tI (.pair .str (.pair tI .unit))))) (.pair tI .unit)))), (6, .box (.st (.pair tI (.pair tI (.pair tI (.pair (.sl .own 8 tI) .unit)))))), (7, .val tI)], [], [2, 3]⟩)], [(28, ⟨[(0, .box (.st (.pair (.sl .imm 1 tB) (.pair tI .unit)))), (4, .box (.st (.pair (.sl .own 32 (.st (.pair tI (.pair .str (.pair tI .unit))))) (.pair tI .unit)))), (6, .box (.st (.pair tI (.pair tI (.pair tI (.pair (.sl .own 8 tI) .unit))))))], [], [2, 3]⟩)]⟩
def ft9 (n : Nat) : List (Nat × FEnt) := [(22, ⟨s22, F22 n⟩)]
def c9 (n : Nat) : Ctx := ⟨84, find? tys, find? (ft9 n), gls, [], [], []⟩
theorem e9 (n x) : execFn (c9 n) h9 n Go.Proofs.Try.f9 s9 x = F9 n x := by kernel_rfl
theorem fn9 : P.funcs[9]? = some Go.Proofs.Try.f9 := by kernel_rfl
theorem call9 : Callable P 9 := callB_ok (by kernel_rfl)
theorem S9 (A : Amb) (n : Nat) : Sound A P (c9 n) 9 s9 (F9 n) :=
  execFn_sound mixed (tab rfl) (ft_all (C := c9 n) (l := ft9 n) rfl ⟨⟨call22, (S22 A n).of rfl⟩, trivial⟩) fn9 fun x y h => (e9 n x).trans h
def s51 : Sig := ⟨[.val (.sl .imm 32 (.st (.pair tI (.pair .str (.pair tI .unit))))), .val (.sl .imm 32 (.st (.pair tI (.pair tI (.pair .str .unit))))), .val (.fn2 (.st (.pair tI (.pair .str (.pair tI .unit)))) (.st (.pair tI (.pair tI (.pair .str .unit)))) .bool)], [.val .bool]⟩
/-- slices.EqualFunc[[]rabbet/api.Column,rabbet/api.Row,rabbet/api.Column,rabbet/api.Value] -/
def F51 (n : Nat) (x : (List (Int × List Int × Int × Unit)) × (List (Int × Int × List Int × Unit)) × (((Int × List Int × Int × Unit) → (Int × Int × List Int × Unit) → Option (Bool))) × Unit) : Option ((Bool × Unit) × (Unit)) :=
  (if (!decide ((x.1.length : Int) = (x.2.1.length : Int))) = true then (some ((false, ()), ())) else (iterF (fun rec2 (s1 : Int) => (if (decide (s1 < (x.1.length : Int))) = true then (atI s1 x.1.length (atI s1 x.2.1.length ((x.2.2.1 (x.1.getD s1.toNat ((0:Int), [], (0:Int), ())) (x.2.1.getD s1.toNat ((0:Int), (0:Int), [], ()))).bind fun y3 => (if (!y3) = true then (some ((false, ()), ())) else (rec2 (IntKind.i64.wrap (s1 + (1:Int)))))))) else (some ((true, ()), ())))) n (0:Int)))
def h51 : Hints := ⟨[(0, ⟨[(17, .val tI)], [1, 2, 15, 16], []⟩)], []⟩
def ft51 (n : Nat) : List (Nat × FEnt) := []
def c51 (n : Nat) : Ctx := ⟨32, find? tys, find? (ft51 n), gls, [], [], []⟩
theorem e51 (n x) : execFn (c51 n) h51 n Go.Proofs.Try.f51 s51 x = F51 n x := by kernel_rfl
theorem fn51 : P.funcs[51]? = some Go.Proofs.Try.f51 := by kernel_rfl
theorem call51 : Callable P 51 := callB_ok (by kernel_rfl)
theorem S51 (A : Amb) (n : Nat) : Sound A P (c51 n) 51 s51 (F51 n) :=
  execFn_sound mixed (tab rfl) (ft_all (C := c51 n) (l := ft51 n) rfl trivial) fn51 fun x y h => (e51 n x).trans h
def s59 : Sig := ⟨[.val (.st (.pair tI (.pair tI (.pair .str .unit))))], [.val .bool]⟩
/-- rabbet/value.May -/
def F59 (n : Nat) (x : (Int × Int × List Int × Unit) × Unit) : Option ((Bool × Unit) × (Unit)) :=
  (if (decide (x.1.1 = (1:Int))) = true then (if (decide (x.1.2.1 < (-32768:Int))) = true then (some ((false, ()), ())) else (if (decide ((32767:Int) < x.1.2.1)) = true then (some ((false, ()), ())) else (some (((decide (x.1.2.2.1 = [])), ()), ())))) else (if (decide (x.1.1 = (2:Int))) = true then (some (((decide (x.1.2.2.1 = [])), ()), ())) else (if (decide (x.1.1 = (0:Int))) = true then (if (decide (x.1.2.1 = (0:Int))) = true then (some (((decide (x.1.2.2.1 = [])), ()), ())) else (some ((false, ()), ()))) else (if (decide (x.1.1 = (3:Int))) = true then (if (decide (x.1.2.1 = (0:Int))) = true then (some (((decide (x.1.2.2.1 = [])), ()), ())) else (if (decide (x.1.2.1 = (1:Int))) = true then (some (((decide (x.1.2.2.1 = [])), ()), ())) else (some ((false, ()), ())))) else (if (decide (x.1.1 = (4:Int))) = true then (if (decide (x.1.2.1 = (0:Int))) = true then (some (((decide ((x.1.2.2.1.length : Int) ≤ (20:Int))), ()), ())) else (some ((false, ()), ()))) else (some ((false, ()), ())))))))
def h59 : Hints := ⟨[], []⟩
def ft59 (n : Nat) : List (Nat × FEnt) := []
def c59 (n : Nat) : Ctx := ⟨56, find? tys, find? (ft59 n), gls, [], [1], []⟩
theorem e59 (n x) : execFn (c59 n) h59 n Go.Proofs.Try.f59 s59 x = F59 n x := by kernel_rfl
theorem fn59 : P.funcs[59]? = some Go.Proofs.Try.f59 := by kernel_rfl
theorem call59 : Callable P 59 := callB_ok (by kernel_rfl)
theorem S59 (A : Amb) (n : Nat) : Sound A P (c59 n) 59 s59 (F59 n) :=
  execFn_sound mixed (tab rfl) (ft_all (C := c59 n) (l := ft59 n) rfl trivial) fn59 fun x y h => (e59 n x).trans h
def s53 : Sig := ⟨[.val tI, .val (.st (.pair tI (.pair tI (.pair .str .unit))))], [.val .bool]⟩
/-- rabbet/value.Fits -/
def F53 (n : Nat) (x : Int × (Int × Int × List Int × Unit) × Unit) : Option ((Bool × Unit) × (Unit)) :=
  ((F59 n (x.2.1, ())).bind fun (y1 : (Bool × Unit) × (Unit)) => (if y1.1.1 = true then (if (decide ((1:Int) ≤ x.1)) = true then (if (decide (x.1 ≤ (4:Int))) = true then (if (decide (x.2.1.1 = (0:Int))) = true then (some ((true, ()), ())) else (some (((decide (x.2.1.1 = x.1)), ()), ()))) else (some ((false, ()), ()))) else (some ((false, ()), ()))) else (some ((false, ()), ()))))
def h53 : Hints := ⟨[], []⟩
def ft53 (n : Nat) : List (Nat × FEnt) := [(59, ⟨s59, F59 n⟩)]
def c53 (n : Nat) : Ctx := ⟨26, find? tys, find? (ft53 n), gls, [], [3], []⟩
theorem e53 (n x) : execFn (c53 n) h53 n Go.Proofs.Try.f53 s53 x = F53 n x := by kernel_rfl
theorem fn53 : P.funcs[53]? = some Go.Proofs.Try.f53 := by kernel_rfl
theorem call53 : Callable P 53 := callB_ok (by kernel_rfl)
theorem S53 (A : Amb) (n : Nat) : Sound A P (c53 n) 53 s53 (F53 n) :=
  execFn_sound mixed (tab rfl) (ft_all (C := c53 n) (l := ft53 n) rfl ⟨⟨call59, (S59 A n).of rfl⟩, trivial⟩) fn53 fun x y h => (e53 n x).trans h
def s52 : Sig := ⟨[.val (.st (.pair tI (.pair .str (.pair tI .unit)))), .val (.st (.pair tI (.pair tI (.pair .str .unit))))], [.val .bool]⟩
/-- rabbet/schema.Fits$1 -/
def F52 (n : Nat) (x : (Int × List Int × Int × Unit) × (Int × Int × List Int × Unit) × Unit) : Option ((Bool × Unit) × (Unit)) :=
  ((F53 n (x.1.2.2.1, x.2.1, ())).bind fun (y1 : (Bool × Unit) × (Unit)) => (some ((y1.1.1, ()), ())))
def h52 : Hints := ⟨[], []⟩
def ft52 (n : Nat) : List (Nat × FEnt) := [(53, ⟨s53, F53 n⟩)]
def c52 (n : Nat) : Ctx := ⟨9, find? tys, find? (ft52 n), gls, [], [2, 3], []⟩
theorem e52 (n x) : execFn (c52 n) h52 n Go.Proofs.Try.f52 s52 x = F52 n x := by kernel_rfl
theorem fn52 : P.funcs[52]? = some Go.Proofs.Try.f52 := by kernel_rfl
theorem call52 : Callable P 52 := callB_ok (by kernel_rfl)
theorem S52 (A : Amb) (n : Nat) : Sound A P (c52 n) 52 s52 (F52 n) :=
  execFn_sound mixed (tab rfl) (ft_all (C := c52 n) (l := ft52 n) rfl ⟨⟨call53, (S53 A n).of rfl⟩, trivial⟩) fn52 fun x y h => (e52 n x).trans h
def s35 : Sig := ⟨[.val (.st (.pair (.sl .imm 32 (.st (.pair tI (.pair .str (.pair tI .unit))))) (.pair tI .unit))), .val (.sl .imm 32 (.st (.pair tI (.pair tI (.pair .str .unit)))))], [.val .bool]⟩
/-- rabbet/schema.Fits -/
def F35 (n : Nat) (x : (List (Int × List Int × Int × Unit) × Int × Unit) × (List (Int × Int × List Int × Unit)) × Unit) : Option ((Bool × Unit) × (Unit)) :=
  ((F51 n (x.1.1, x.2.1, (fun c d => (F52 n (c, d, ())).bind fun r => some r.1.1), ())).bind fun (y1 : (Bool × Unit) × (Unit)) => (some ((y1.1.1, ()), ())))
def h35 : Hints := ⟨[], []⟩
def ft35 (n : Nat) : List (Nat × FEnt) := [(51, ⟨s51, F51 n⟩), (52, ⟨s52, F52 n⟩)]
def c35 (n : Nat) : Ctx := ⟨9, find? tys, find? (ft35 n), gls, [], [2], []⟩
theorem e35 (n x) : execFn (c35 n) h35 n Go.Proofs.Try.f35 s35 x = F35 n x := by kernel_rfl
theorem fn35 : P.funcs[35]? = some Go.Proofs.Try.f35 := by kernel_rfl
theorem call35 : Callable P 35 := callB_ok (by kernel_rfl)
theorem S35 (A : Amb) (n : Nat) : Sound A P (c35 n) 35 s35 (F35 n) :=
  execFn_sound mixed (tab rfl) (ft_all (C := c35 n) (l := ft35 n) rfl ⟨⟨call51, (S51 A n).of rfl⟩, ⟨call52, (S52 A n).of rfl⟩, trivial⟩) fn35 fun x y h => (e35 n x).trans h
def s36 : Sig := ⟨[.val (.sl .imm 32 (.st (.pair tI (.pair tI (.pair .str .unit)))))], [.val (.sl .own 32 (.st (.pair tI (.pair tI (.pair .str .unit)))))]⟩
/-- slices.Clone[rabbet/api.Row,rabbet/api.Value] -/
def F36 (_n : Nat) (x : (List (Int × Int × List Int × Unit)) × Unit) : Option (((List (Int × Int × List Int × Unit)) × Unit) × (Unit)) := some ((x.1, ()), ())
theorem nt36 : Go.Proofs.Try.f36.ntmps = 8 := by kernel_rfl
theorem fn36 : P.funcs[36]? = some Go.Proofs.Try.f36 := by kernel_rfl
theorem call36 : Callable P 36 := callB_ok (by kernel_rfl)
theorem uT36 : P.underlying 54 = some (.slice 40) := by kernel_rfl
set_option maxHeartbeats 4000000 in
set_option maxRecDepth 1000000 in
theorem clone_nil36 (w : World) (n cap : Nat) : Calls P 36 #[.slice none n cap] w fun e w' => e = .returned (.slice none 0 0) ∧ w' = w := by
  go_enter fn36, nt36
  go_wp2
  rw [Lib.run_eql_slice_nil _ _ _ _ _ _ _ _ uT36]
  go_wp2
  go_ret
  exact ⟨rfl, rfl⟩
set_option maxHeartbeats 4000000 in
set_option maxRecDepth 1000000 in
theorem clone_some36 (w : World) (ad : Addr) (n cap : Nat) (v' : Value) (w' : World) (happ : (Builtin.append_ #[54, 54] 54 #[.slice (some ⟨w.heap.size, 0, none⟩) 0 0, .slice (some ad) n cap]).run P (w.alloc (.cells #[] 40)) = .ok v' w') :
    Calls P 36 #[.slice (some ad) n cap] w fun e w'' => e = .returned v' ∧ w'' = w' := by
  go_enter fn36, nt36
  go_upto_region 3 with fail
  rw [Lib.run_eql_slice_nil _ _ _ _ _ _ _ _ uT36]
  go_upto_region 3 with fail
  refine wp_region_lit ?_
  refine wl rfl (.slice (some ⟨w.heap.size, 0, none⟩) 0 0) (w1 := w.alloc (.cells #[] 40)) (by go_simp) ?_
  refine wl rfl (.slice (some ad) n cap) (w1 := w.alloc (.cells #[] 40)) rfl ?_
  refine wl_append rfl (.tmp 5) (.tmp 6) 54 54 rfl rfl rfl v' happ ?_
  refine wl rfl v' (w1 := w') rfl (wpList_nil ?_)
  go_wp2
  go_ret
  exact ⟨rfl, rfl⟩
theorem S36 (A : Amb) (n : Nat) : Sound A P cH 36 s36 (F36 n) :=
  clone_sound (T := 54) (tab rfl) rfl (z := (zeroCells (.st (.pair tI (.pair tI (.pair .str .unit))))).getD []) rfl clone_nil36 fun w w' el ad n cap v' h1 h2 => by
    rw [uT36] at h1
    cases h1
    exact clone_some36 w ad n cap v' w' h2
def s54 : Sig := ⟨[.val (.sl .imm 32 (.st (.pair tI (.pair .str (.pair tI .unit))))), .val (.fn (.st (.pair tI (.pair .str (.pair tI .unit)))) .bool)], [.val tI]⟩
/-- slices.IndexFunc[[]rabbet/api.Column,rabbet/api.Column] -/
def F54 (n : Nat) (x : (List (Int × List Int × Int × Unit)) × (((Int × List Int × Int × Unit) → Option (Bool))) × Unit) : Option ((Int × Unit) × (Unit)) :=
  (iterF (fun rec2 (s1 : Int) => (if (decide (s1 < (x.1.length : Int))) = true then (atI s1 x.1.length ((x.2.1 (x.1.getD s1.toNat ((0:Int), [], (0:Int), ()))).bind fun y3 => (if y3 = true then (some ((s1, ()), ())) else (rec2 (IntKind.i64.wrap (s1 + (1:Int))))))) else (some (((-1:Int), ()), ())))) n (0:Int))
def h54 : Hints := ⟨[(0, ⟨[(8, .val tI)], [0, 1, 7], []⟩)], []⟩
def ft54 (n : Nat) : List (Nat × FEnt) := []
def c54 (n : Nat) : Ctx := ⟨19, find? tys, find? (ft54 n), gls, [], [], []⟩
theorem e54 (n x) : execFn (c54 n) h54 n Go.Proofs.Try.f54 s54 x = F54 n x := by kernel_rfl
theorem fn54 : P.funcs[54]? = some Go.Proofs.Try.f54 := by kernel_rfl
theorem call54 : Callable P 54 := callB_ok (by kernel_rfl)
theorem S54 (A : Amb) (n : Nat) : Sound A P (c54 n) 54 s54 (F54 n) :=
  execFn_sound mixed (tab rfl) (ft_all (C := c54 n) (l := ft54 n) rfl trivial) fn54 fun x y h => (e54 n x).trans h
def s55 : Sig := ⟨[.val (.st (.pair tI (.pair .str (.pair tI .unit)))), .val (.ptr tI)], [.val .bool]⟩
/-- rabbet/schema.ByID$1 -/
def F55 (n : Nat) (x : (Int × List Int × Int × Unit) × Int × Unit) : Option ((Bool × Unit) × (Unit)) :=
  (some (((decide (x.1.1 = x.2.1)), ()), ()))
def h55 : Hints := ⟨[], []⟩
def ft55 (n : Nat) : List (Nat × FEnt) := []
def c55 (n : Nat) : Ctx := ⟨8, find? tys, find? (ft55 n), gls, [], [2], []⟩
theorem e55 (n x) : execFn (c55 n) h55 n Go.Proofs.Try.f55 s55 x = F55 n x := by kernel_rfl
theorem fn55 : P.funcs[55]? = some Go.Proofs.Try.f55 := by kernel_rfl
theorem call55 : Callable P 55 := callB_ok (by kernel_rfl)
theorem S55 (A : Amb) (n : Nat) : Sound A P (c55 n) 55 s55 (F55 n) :=
  execFn_sound mixed (tab rfl) (ft_all (C := c55 n) (l := ft55 n) rfl trivial) fn55 fun x y h => (e55 n x).trans h
def s37 : Sig := ⟨[.val (.st (.pair (.sl .imm 32 (.st (.pair tI (.pair .str (.pair tI .unit))))) (.pair tI .unit))), .val tI], [.val tI, .val .bool]⟩
/-- rabbet/schema.ByID -/
def F37 (n : Nat) (x : (List (Int × List Int × Int × Unit) × Int × Unit) × Int × Unit) : Option ((Int × Bool × Unit) × (Unit)) :=
  ((F54 n (x.1.1, (fun c => (F55 n (c, x.2.1, ())).bind fun r => some r.1.1), ())).bind fun (y1 : (Int × Unit) × (Unit)) => (some (((if (0:Int) ≤ y1.1.1 then y1.1.1 else (0:Int)), (decide ((0:Int) ≤ y1.1.1)), ()), ())))
def h37 : Hints := ⟨[], []⟩
def ft37 (n : Nat) : List (Nat × FEnt) := [(54, ⟨s54, F54 n⟩), (55, ⟨s55, F55 n⟩)]
def c37 (n : Nat) : Ctx := ⟨15, find? tys, find? (ft37 n), gls, [], [2, 3], []⟩
theorem e37 (n x) : execFn (c37 n) h37 n Go.Proofs.Try.f37 s37 x = F37 n x := by kernel_rfl
theorem fn37 : P.funcs[37]? = some Go.Proofs.Try.f37 := by kernel_rfl
theorem call37 : Callable P 37 := callB_ok (by kernel_rfl)
theorem S37 (A : Amb) (n : Nat) : Sound A P (c37 n) 37 s37 (F37 n) :=
  execFn_sound mixed (tab rfl) (ft_all (C := c37 n) (l := ft37 n) rfl ⟨⟨call54, (S54 A n).of rfl⟩, ⟨call55, (S55 A n).of rfl⟩, trivial⟩) fn37 fun x y h => (e37 n x).trans h
def s38 : Sig := ⟨[.val (.sl .own 32 (.st (.pair tI (.pair tI (.pair .str .unit))))), .val tI, .val tI], [.val (.sl .own 32 (.st (.pair tI (.pair tI (.pair .str .unit)))))]⟩
/-- slices.Delete[rabbet/api.Row,rabbet/api.Value] -/
def F38 (_n : Nat) (x : (List (Int × Int × List Int × Unit)) × Int × Int × Unit) : Option (((List (Int × Int × List Int × Unit)) × Unit) × (Unit)) := delF (.st (.pair tI (.pair tI (.pair .str .unit)))) x
theorem nt38 : Go.Proofs.Try.f38.ntmps = 33 := by kernel_rfl
theorem fn38 : P.funcs[38]? = some Go.Proofs.Try.f38 := by kernel_rfl
theorem call38 : Callable P 38 := callB_ok (by kernel_rfl)
set_option maxHeartbeats 4000000 in
set_option maxRecDepth 1000000 in
theorem del_eq38 (w : World) (a : Option Addr) (n cap i : Nat) (hin : i ≤ n) (hn : n ≤ cap) : Calls P 38 #[.slice a n cap, .int .i64 i, .int .i64 i] w fun e w' => e = .returned (.slice a n cap) ∧ w' = w := by
  go_enter fn38, nt38
  go_wp2
  all_goals (go_ret; exact ⟨rfl, rfl⟩)
set_option maxHeartbeats 4000000 in
set_option maxRecDepth 1000000 in
theorem del_lt38 (w W1 W2 : World) (b n cap i j k : Nat) (hij : i < j) (hjn : j ≤ n) (hn : n ≤ cap) (hk : k < n)
    (happ : (Builtin.append_ #[54, 54] 54 #[.slice (some ⟨b, 0, none⟩) i cap, .slice (if cap = j then some ⟨b, 0, none⟩ else some ⟨b, j * 3, none⟩) (n - j) (cap - j)]).run P w.drew = .ok (.slice (some ⟨b, 0, none⟩) k cap) W1)
    (hcl : (Builtin.clear_ #[54] 0 #[.slice (some ⟨b, k * 3, none⟩) (n - k) (cap - k)]).run P W1 = .ok (.tuple #[]) W2) :
    Calls P 38 #[.slice (some ⟨b, 0, none⟩) n cap, .int .i64 i, .int .i64 j] w fun e w' => e = .returned (.slice (some ⟨b, 0, none⟩) k cap) ∧ w' = W2 := by
  go_enter fn38, nt38
  have hic : i ≤ cap := by omega
  have hjc : j ≤ cap := by omega
  go_upto_region 5 with fail
  go_region_law (refine st_append rfl (.tmp 22) (.tmp 25) 54 54 rfl (by simp [Act.eval, Act.put]) (by simp [Act.eval, Act.put]) _ happ ?_)
  go_upto_region 6 with fail
  have h1 : k ≤ n := by omega
  have h3 : ¬ (cap = k) := by omega
  refine wp_region_lit ?_
  refine wl rfl (.slice (some ⟨b, 0, none⟩) k cap) (w1 := W1) rfl ?_
  refine wl rfl (.slice (some ⟨b, 0, none⟩) k cap) (w1 := W1) rfl ?_
  refine wl rfl (.int .i64 (k : Int)) (w1 := W1) (by go_simp) ?_
  refine wl rfl (.int .i64 (n : Int)) (w1 := W1) rfl ?_
  refine wl rfl (.slice (some ⟨b, k * 3, none⟩) (n - k) (cap - k)) (w1 := W1) (by go_simp) ?_
  refine wl_clear rfl (.tmp 31) 54 rfl (by simp [Act.eval, Act.put]) _ hcl (wpList_nil ?_)
  go_wp2
  all_goals (go_ret; exact ⟨rfl, rfl⟩)
theorem S38 (A : Amb) (n : Nat) : Sound A P cH 38 s38 (F38 n) :=
  delete_sound (T := 54) (tab rfl) rfl (z := (zeroCells (.st (.pair tI (.pair tI (.pair .str .unit))))).getD []) rfl del_eq38 fun w W1 W2 b n cap i j k h1 h2 h3 h4 h5 h6 => del_lt38 w W1 W2 b n cap i j k h1 h2 h3 h4 h5 h6
def s39 : Sig := ⟨[.val (.st (.pair tI (.pair tI (.pair .str .unit))))], [.val (.st (.pair tI (.pair tI (.pair .str .unit))))]⟩
/-- rabbet/change.wider -/
def F39 (n : Nat) (x : (Int × Int × List Int × Unit) × Unit) : Option (((Int × Int × List Int × Unit) × Unit) × (Unit)) :=
  (if (decide (x.1.1 = (3:Int))) = true then (some ((((1:Int), x.1.2), ()), ())) else (if (decide (x.1.1 = (1:Int))) = true then (some ((((2:Int), x.1.2), ()), ())) else (some ((x.1, ()), ()))))
def h39 : Hints := ⟨[], []⟩
def ft39 (n : Nat) : List (Nat × FEnt) := []
def c39 (n : Nat) : Ctx := ⟨12, find? tys, find? (ft39 n), gls, [], [], []⟩
theorem e39 (n x) : execFn (c39 n) h39 n Go.Proofs.Try.f39 s39 x = F39 n x := by kernel_rfl
theorem fn39 : P.funcs[39]? = some Go.Proofs.Try.f39 := by kernel_rfl
theorem call39 : Callable P 39 := callB_ok (by kernel_rfl)
theorem S39 (A : Amb) (n : Nat) : Sound A P (c39 n) 39 s39 (F39 n) :=
  execFn_sound mixed (tab rfl) (ft_all (C := c39 n) (l := ft39 n) rfl trivial) fn39 fun x y h => (e39 n x).trans h
def s56 : Sig := ⟨[.val .str, .val tB], [.val tI]⟩
/-- strings.IndexByte -/
def F56 (_n : Nat) (x : List Int × Int × Unit) : Option ((Int × Unit) × (Unit)) := ixF x
theorem nt56 : Go.Proofs.Try.f56.ntmps = 8 := by kernel_rfl
theorem fn56 : P.funcs[56]? = some Go.Proofs.Try.f56 := by kernel_rfl
theorem call56 : Callable P 56 := callB_ok (by kernel_rfl)
theorem nt60 : Go.Proofs.Try.f60.ntmps = 8 := by kernel_rfl
theorem fn60 : P.funcs[60]? = some Go.Proofs.Try.f60 := by kernel_rfl
theorem call60 : Callable P 60 := callB_ok (by kernel_rfl)
theorem fn62 : P.funcs[62]? = some Go.Proofs.Try.f62 := by kernel_rfl
set_option maxHeartbeats 4000000 in
set_option maxRecDepth 1000000 in
theorem ixb60 (s : ByteArray) (c : Int) (w : World) : Calls P 60 #[.string s, .int .u8 c] w fun e w' => e = .returned (.int .i64 (Lib.indexByte s.data.toList c.toNat.toUInt8)) ∧ w' = w := by
  go_enter fn60, nt60
  go_wp2
  rw [run_callFunc_extern fn62 (by kernel_rfl) (by kernel_rfl) (by kernel_rfl) (e := Extern.BytealgIndexByte.indexByte) (by kernel_rfl), Lib.run_indexByteString]
  simp only [Result.andThen]
  rw [Oper.upon_value]
  go_wp2
  go_ret
  exact ⟨rfl, rfl⟩
set_option maxHeartbeats 4000000 in
set_option maxRecDepth 1000000 in
theorem ixb56 (s : ByteArray) (c : Int) (w : World) : Calls P 56 #[.string s, .int .u8 c] w fun e w' => e = .returned (.int .i64 (Lib.indexByte s.data.toList c.toNat.toUInt8)) ∧ w' = w := by
  go_enter fn56, nt56
  go_wp2_with (go_at_call 60; refine (ixb60 _ _ _).mono ?_; rintro e w' ⟨rfl, rfl⟩)
  go_ret
  exact ⟨rfl, rfl⟩
theorem S56 (A : Amb) (n : Nat) : Sound A P cH 56 s56 (F56 n) := indexByte_sound ixb56
def s40 : Sig := ⟨[.val (.st (.pair tI (.pair tI (.pair .str .unit)))), .val tB], [.val (.st (.pair tI (.pair tI (.pair .str .unit)))), .val (.st (.pair tI (.pair tI (.pair .str .unit))))]⟩
/-- rabbet/change.apart -/
def F40 (n : Nat) (x : (Int × Int × List Int × Unit) × Int × Unit) : Option (((Int × Int × List Int × Unit) × (Int × Int × List Int × Unit) × Unit) × (Unit)) :=
  ((F56 n (x.1.2.2.1, x.2.1, ())).bind fun (y1 : (Int × Unit) × (Unit)) => (if (!decide (x.1.1 = (4:Int))) = true then (some ((x.1, ((0:Int), (0:Int), [], ()), ()), ())) else (if (decide (y1.1.1 < (0:Int))) = true then (some ((x.1, ((0:Int), (0:Int), [], ()), ()), ())) else (if 0 ≤ y1.1.1 ∧ y1.1.1 ≤ (x.1.2.2.1.length : Int) then (if 0 ≤ (IntKind.i64.wrap (y1.1.1 + (1:Int))) ∧ (IntKind.i64.wrap (y1.1.1 + (1:Int))) ≤ (x.1.2.2.1.length : Int) then (some ((((4:Int), (0:Int), ((x.1.2.2.1.take y1.1.1.toNat).drop (0:Int).toNat), ()), ((4:Int), (0:Int), ((x.1.2.2.1.take (x.1.2.2.1.length : Int).toNat).drop (IntKind.i64.wrap (y1.1.1 + (1:Int))).toNat), ()), ()), ())) else none) else none))))
def h40 : Hints := ⟨[], []⟩
def ft40 (n : Nat) : List (Nat × FEnt) := [(56, ⟨s56, F56 n⟩)]
def c40 (n : Nat) : Ctx := ⟨31, find? tys, find? (ft40 n), gls, [], [2], []⟩
theorem e40 (n x) : execFn (c40 n) h40 n Go.Proofs.Try.f40 s40 x = F40 n x := by kernel_rfl
theorem fn40 : P.funcs[40]? = some Go.Proofs.Try.f40 := by kernel_rfl
theorem call40 : Callable P 40 := callB_ok (by kernel_rfl)
theorem S40 (A : Amb) (n : Nat) : Sound A P (c40 n) 40 s40 (F40 n) :=
  execFn_sound mixed (tab rfl) (ft_all (C := c40 n) (l := ft40 n) rfl ⟨⟨call56, (S56 A n).of rfl⟩, trivial⟩) fn40 fun x y h => (e40 n x).trans h
def s41 : Sig := ⟨[.val (.sl .own 32 (.st (.pair tI (.pair tI (.pair .str .unit))))), .val tI, .val (.sl .imm 32 (.st (.pair tI (.pair tI (.pair .str .unit)))))], [.val (.sl .own 32 (.st (.pair tI (.pair tI (.pair .str .unit)))))]⟩
/-- slices.Insert[rabbet/api.Row,rabbet/api.Value] -/
def F41 (_n : Nat) (x : (List (Int × Int × List Int × Unit)) × Int × (List (Int × Int × List Int × Unit)) × Unit) : Option (((List (Int × Int × List Int × Unit)) × Unit) × (Unit)) := insF 32 (.st (.pair tI (.pair tI (.pair .str .unit)))) x
theorem nt41 : Go.Proofs.Try.f41.ntmps = 95 := by kernel_rfl
theorem fn41 : P.funcs[41]? = some Go.Proofs.Try.f41 := by kernel_rfl
theorem call41 : Callable P 41 := callB_ok (by kernel_rfl)
theorem uT41 : P.underlying 54 = some (.slice 40) := by kernel_rfl
theorem inf41 : ∃ I, P.info? 40 = some I ∧ I.size = 3 := by
  obtain ⟨i, d, h1, _, h3, _⟩ := ((tab (C := cH) rfl) 40 _ rfl).ex
  exact ⟨i, h1, h3⟩
theorem fn57 : P.funcs[57]? = some Go.Proofs.Try.f57 := by kernel_rfl
theorem ov41 (x y : Value) (w w' : World) (b : Bool) (h : (Extern.SlicesOverlaps.overlaps #[41, 41] #[4] #[x, y]).run P w = .ok (.bool b) w') : (callFunc 57 #[x, y]).run P w = .ok (.value (.bool b)) w' := by
  rw [run_callFunc_extern fn57 (by kernel_rfl) (by kernel_rfl) (by kernel_rfl) (e := Extern.SlicesOverlaps.overlaps #[41, 41] #[4]) (by kernel_rfl), h]
  rfl
set_option maxHeartbeats 4000000 in
set_option maxRecDepth 1000000 in
theorem ins_none41 (w : World) (a a2 : Option Addr) (n cap cap2 i : Nat) (hin : i ≤ n) (hn : n ≤ cap) : Calls P 41 #[.slice a n cap, .int .i64 i, .slice a2 0 cap2] w fun e w' => e = .returned (.slice a n cap) ∧ w' = w := by
  go_enter fn41, nt41
  go_wp2
  all_goals (go_ret; exact ⟨rfl, rfl⟩)
set_option maxHeartbeats 4000000 in
set_option maxRecDepth 1000000 in
theorem ins_end41 (w W1 : World) (a a2 : Option Addr) (n cap cap2 m : Nat) (v' : Value) (hn : n ≤ cap) (hm : 0 < m) (happ : (Builtin.append_ #[54, 41] 54 #[.slice a n cap, .slice a2 m cap2]).run P w = .ok v' W1) :
    Calls P 41 #[.slice a n cap, .int .i64 n, .slice a2 m cap2] w fun e w' => e = .returned v' ∧ w' = W1 := by
  have hm0 : ¬ (m = 0) := by omega
  go_enter fn41, nt41
  go_upto_region 7 with fail
  refine wp_region_lit ?_
  refine wl rfl (.slice a n cap) (w1 := w) rfl ?_
  refine wl rfl (.slice a2 m cap2) (w1 := w) rfl ?_
  refine wl_append rfl (.tmp 23) (.tmp 24) 54 41 rfl (by simp [Act.eval, Act.put]) (by simp [Act.eval, Act.put]) _ happ ?_
  refine wl rfl v' (w1 := W1) rfl (wpList_nil ?_)
  go_wp2
  all_goals (go_ret; exact ⟨rfl, rfl⟩)
set_option maxHeartbeats 4000000 in
set_option maxRecDepth 1000000 in
theorem ins_grow41 (I : TypeInfo) (hI : P.info? 40 = some I) (hIs : I.size = 3) (w W1 W2 W3 : World) (b b1 n cap cap1 cap2 i m : Nat) (a2 : Option Addr) (v2 v3 : Value) (hin : i < n) (hn : n ≤ cap) (hm : 0 < m) (hcap : cap < n + m) (hr : n + m ≤ 140737488355328) (hc1 : n + m ≤ cap1)
    (h1 : (Builtin.append_ #[54, 3] 54 #[.slice (some ⟨b, 0, none⟩) i cap, .int .i64 ((n + m - i : Nat) : Int)]).run P w = .ok (.slice (some ⟨b1, 0, none⟩) (n + m) cap1) W1)
    (h2 : (Builtin.copy_ #[54, 41] 3 #[.slice (some ⟨b1, i * 3, none⟩) (n + m - i) (cap1 - i), .slice a2 m cap2]).run P W1 = .ok v2 W2)
    (h3 : (Builtin.copy_ #[54, 54] 3 #[.slice (some ⟨b1, (i + m) * 3, none⟩) (n + m - (i + m)) (cap1 - (i + m)), .slice (some ⟨b, i * 3, none⟩) (n - i) (cap - i)]).run P W2.drew = .ok v3 W3) :
    Calls P 41 #[.slice (some ⟨b, 0, none⟩) n cap, .int .i64 i, .slice a2 m cap2] w fun e w' => e = .returned (.slice (some ⟨b1, 0, none⟩) (n + m) cap1) ∧ w' = W3 := by
  have hm0 : ¬ (m = 0) := by omega
  have hin0 : ¬ (i = n) := by omega
  have hic : i ≤ cap := by omega
  go_enter fn41, nt41
  go_upto_region 9 with fail
  · refine wp_region_lit ?_
    refine wl rfl (.slice (some ⟨b, 0, none⟩) n cap) (w1 := w) (by kernel_rfl) ?_
    refine wl rfl (.int .i64 i) (w1 := w) (by kernel_rfl) ?_
    refine wl_slice uT41 hI rfl (.tmp 32) none (some (.tmp 33)) rfl (b := b) (off := 0) (n := n) (cap := cap) (l := 0) (h := i) (by kernel_rfl) (.inl ⟨rfl, rfl⟩) (.inr (by kernel_rfl)) (Nat.zero_le _) hic (.inr rfl) (off' := 0) (n' := i) ⟨by simp, rfl⟩ ?_
    refine wl rfl (.int .i64 n) (w1 := w) (by kernel_rfl) ?_
    refine wl rfl (.int .i64 m) (w1 := w) (by kernel_rfl) ?_
    refine wl_add rfl (.tmp 35) (.tmp 36) 3 3 rfl (p := n) (q := m) ((n + m : Nat) : Int) (by kernel_rfl) (by kernel_rfl) (by omega) ?_
    refine wl rfl (.int .i64 i) (w1 := w) (by kernel_rfl) ?_
    refine wl_sub rfl (.tmp 37) (.tmp 38) 3 3 rfl (p := ((n + m : Nat) : Int)) (q := i) ((n + m - i : Nat) : Int) (by kernel_rfl) (by kernel_rfl) (by omega) ?_
    refine wl_append rfl (.tmp 34) (.tmp 39) 54 3 rfl (by kernel_rfl) (by kernel_rfl) _ h1 ?_
    refine wl rfl (.slice (some ⟨b1, 0, none⟩) (n + m) cap1) (w1 := W1) (by kernel_rfl) (wpList_nil ?_)
    try simp only [Act.put, List.setIfInBounds_toArray, List.set_cons_succ, List.set_cons_zero]
    go_upto_region 10 with fail
    refine wp_region_lit ?_
    refine wl rfl (.slice (some ⟨b1, 0, none⟩) (n + m) cap1) (w1 := W1) (by kernel_rfl) ?_
    refine wl rfl (.int .i64 i) (w1 := W1) (by kernel_rfl) ?_
    refine wl_slice uT41 hI rfl (.tmp 41) (some (.tmp 42)) none rfl (b := b1) (off := 0) (n := n + m) (cap := cap1) (l := i) (h := n + m) (by kernel_rfl) (.inr (by kernel_rfl)) (.inl ⟨rfl, rfl⟩) (by omega) hc1 (.inl (by omega)) (off' := i * 3) (n' := n + m - i) ⟨by simp [hIs], rfl⟩ ?_
    refine wl rfl (.slice a2 m cap2) (w1 := W1) (by kernel_rfl) ?_
    refine wl_copy rfl (.tmp 43) (.tmp 44) 54 41 rfl (by kernel_rfl) (by kernel_rfl) _ h2 (wpList_nil ?_)
    try simp only [Act.put, List.setIfInBounds_toArray, List.set_cons_succ, List.set_cons_zero]
    go_upto_region 11 with fail
    have hic1 : i + m ≤ cap1 := by omega
    have hic2 : ¬ (cap1 = i + m) := by omega
    have hic3 : i + m ≤ n + m := by omega
    have hic4 : ¬ (cap = i) := by omega
    have hii : i ≤ n := by omega
    have hw : IntKind.i64.wrap ((i : Int) + (m : Int)) = (i : Int) + (m : Int) := by
      simp only [IntKind.wrap, IntKind.bits, IntKind.signed, if_true]
      simp
      split <;> omega
    have ht : ((i : Int) + (m : Int)).toNat = i + m := by omega
    have hle : (i : Int) + (m : Int) ≤ (n : Int) + (m : Int) := by omega
    have hle0 : 0 ≤ (i : Int) + (m : Int) := by omega
    go_region_law (refine st_copy rfl (.tmp 50) (.tmp 53) 54 54 rfl (by simp [Act.eval, Act.put]) (by simp [Act.eval, Act.put]) _ h3 ?_)
    try simp only [Act.put, List.setIfInBounds_toArray, List.set_cons_succ, List.set_cons_zero]
    go_wp2
    all_goals (go_ret; exact ⟨rfl, rfl⟩)
  all_goals (exfalso; omega)
set_option maxHeartbeats 4000000 in
set_option maxRecDepth 1000000 in
theorem ins_room41 (I : TypeInfo) (hI : P.info? 40 = some I) (hIs : I.size = 3) (w W1 W2 : World) (b n cap cap2 i m : Nat) (a2 : Option Addr) (v2 v3 : Value) (hin : i < n) (hm : 0 < m) (hroom : n + m ≤ cap) (hr : n + m ≤ 140737488355328)
    (hov : (callFunc 57 #[.slice a2 m cap2, .slice (some ⟨b, (i + m) * 3, none⟩) (n + m - (i + m)) (cap - (i + m))]).run P w = .ok (.value (.bool false)) w)
    (h1 : (Builtin.copy_ #[54, 54] 3 #[.slice (some ⟨b, (i + m) * 3, none⟩) (n + m - (i + m)) (cap - (i + m)), .slice (some ⟨b, i * 3, none⟩) (n + m - i) (cap - i)]).run P w.drew = .ok v2 W1)
    (h2 : (Builtin.copy_ #[54, 41] 3 #[.slice (some ⟨b, i * 3, none⟩) (n + m - i) (cap - i), .slice a2 m cap2]).run P W1 = .ok v3 W2) :
    Calls P 41 #[.slice (some ⟨b, 0, none⟩) n cap, .int .i64 i, .slice a2 m cap2] w fun e w' => e = .returned (.slice (some ⟨b, 0, none⟩) (n + m) cap) ∧ w' = W2 := by
  have hm0 : ¬ (m = 0) := by omega
  have hin0 : ¬ (i = n) := by omega
  have hic : i ≤ cap := by omega
  have hw1 : IntKind.i64.wrap ((i : Int) + (m : Int)) = (i : Int) + (m : Int) := by
    simp only [IntKind.wrap, IntKind.bits, IntKind.signed, if_true]
    simp
    split <;> omega
  have hb1 : (0 : Int) ≤ (i : Int) + (m : Int) := by omega
  have hii : i ≤ n := by omega
  have htn : ((i : Int) + (m : Int)).toNat = i + m := by omega
  have hb2 : ¬ (cap = i + m) := by omega
  have hb3 : (i : Int) ≤ (n : Int) + (m : Int) := by omega
  have hb4 : ¬ (cap = i) := by omega
  have hle : (i : Int) + (m : Int) ≤ (n : Int) + (m : Int) := by omega
  go_enter fn41, nt41
  go_upto_region 15 with (simp only [hov])
  go_region_law (refine st_copy rfl (.tmp 73) (.tmp 76) 54 54 rfl (by simp [Act.eval, Act.put]) (by simp [Act.eval, Act.put]) _ h1 ?_)
  try simp only [Act.put, List.setIfInBounds_toArray, List.set_cons_succ, List.set_cons_zero]
  go_upto_region 16 with fail
  refine wp_region_lit ?_
  refine wl rfl (.slice (some ⟨b, 0, none⟩) (n + m) cap) (w1 := W1) (by kernel_rfl) ?_
  refine wl rfl (.int .i64 i) (w1 := W1) (by kernel_rfl) ?_
  refine wl_slice uT41 hI rfl (.tmp 78) (some (.tmp 79)) none rfl (b := b) (off := 0) (n := n + m) (cap := cap) (l := i) (h := n + m) (by kernel_rfl) (.inr (by kernel_rfl)) (.inl ⟨rfl, rfl⟩) (by omega) hroom (.inl (by omega)) (off' := i * 3) (n' := n + m - i) ⟨by simp [hIs], rfl⟩ ?_
  refine wl rfl (.slice a2 m cap2) (w1 := W1) (by kernel_rfl) ?_
  refine wl_copy rfl (.tmp 80) (.tmp 81) 54 41 rfl (by kernel_rfl) (by kernel_rfl) _ h2 (wpList_nil ?_)
  try simp only [Act.put, List.setIfInBounds_toArray, List.set_cons_succ, List.set_cons_zero]
  go_wp2
  all_goals (go_ret; exact ⟨rfl, rfl⟩)
theorem S41 (A : Amb) (n : Nat) : Sound A P cH 41 s41 (F41 n) := by
  obtain ⟨I, hI, hIs⟩ := inf41
  refine insert_sound (fo := 57) (T := 54) (U := 41) (tb := 4) (tab rfl) rfl rfl (by kernel_rfl) (by decide) (z := (zeroCells (.st (.pair tI (.pair tI (.pair .str .unit))))).getD []) rfl ov41 ins_none41 ins_end41 ?_ ?_
  · intro w W1 W2 W3 b b1 n cap cap1 cap2 i m a2 v2 v3 h1 h2 h3 h4 h5 h6 h7 h8 h9
    exact ins_grow41 I hI hIs w W1 W2 W3 b b1 n cap cap1 cap2 i m a2 v2 v3 h1 h2 h3 h4 h5 h6 h7 h8 h9
  · intro w W1 W2 b n cap cap2 i m a2 v2 v3 h1 h2 h3 h4 h5 h6 h7
    exact ins_room41 I hI hIs w W1 W2 b n cap cap2 i m a2 v2 v3 h1 h2 h3 h4 h5 h6 h7
def s19 : Sig := ⟨[.val (.st (.pair (.sl .imm 32 (.st (.pair tI (.pair .str (.pair tI .unit))))) (.pair tI .unit))), .val (.st (.pair tI (.pair tI (.pair .str (.pair tI (.pair (.st (.pair tI (.pair tI (.pair .str .unit)))) (.pair tB (.pair tI .unit)))))))), .val (.sl .imm 32 (.st (.pair tI (.pair tI (.pair .str .unit)))))], [.val (.sl .imm 32 (.st (.pair tI (.pair tI (.pair .str .unit))))), .val .bool]⟩
/-- rabbet/change.Row -/
def F19 (n : Nat) (x : (List (Int × List Int × Int × Unit) × Int × Unit) × (Int × Int × List Int × Int × (Int × Int × List Int × Unit) × Int × Int × Unit) × (List (Int × Int × List Int × Unit)) × Unit) : Option (((List (Int × Int × List Int × Unit)) × Bool × Unit) × (Unit)) :=
  ((F35 n (x.1, x.2.2.1, ())).bind fun (y1 : (Bool × Unit) × (Unit)) => (if (!y1.1.1) = true then (some (([], false, ()), ())) else ((F36 n (x.2.2.1, ())).bind fun (y2 : ((List (Int × Int × List Int × Unit)) × Unit) × (Unit)) => ((F37 n (x.1, x.2.1.2.1, ())).bind fun (y3 : (Int × Bool × Unit) × (Unit)) => (joinF (fun (s4 : List (Int × Int × List Int × Unit)) => (if (decide (x.2.1.1 = (2:Int))) = true then ((F38 n (s4, y3.1.1, (IntKind.i64.wrap (y3.1.1 + (1:Int))), ())).bind fun (y6 : ((List (Int × Int × List Int × Unit)) × Unit) × (Unit)) => (some ((y6.1.1, true, ()), ()))) else (if (decide (x.2.1.1 = (4:Int))) = true then (atI y3.1.1 s4.length ((F39 n ((s4.getD y3.1.1.toNat ((0:Int), (0:Int), [], ())), ())).bind fun (y7 : ((Int × Int × List Int × Unit) × Unit) × (Unit)) => (atI y3.1.1 s4.length (some (((s4.set y3.1.1.toNat y7.1.1), true, ()), ()))))) else (if (decide (x.2.1.1 = (5:Int))) = true then (atI y3.1.1 s4.length ((F40 n ((s4.getD y3.1.1.toNat ((0:Int), (0:Int), [], ())), x.2.1.2.2.2.2.2.1, ())).bind fun (y8 : ((Int × Int × List Int × Unit) × (Int × Int × List Int × Unit) × Unit) × (Unit)) => (atI y3.1.1 s4.length ((F41 n ((s4.set y3.1.1.toNat y8.1.1), (IntKind.i64.wrap (y3.1.1 + (1:Int))), ([y8.1.2.1] : List (Int × Int × List Int × Unit)), ())).bind fun (y9 : ((List (Int × Int × List Int × Unit)) × Unit) × (Unit)) => (some ((y9.1.1, true, ()), ())))))) else (some ((s4, true, ()), ())))))) fun J5 => (if (decide (x.2.1.1 = (1:Int))) = true then (if (y2.1.1.length + ([x.2.1.2.2.2.2.1] : List (Int × Int × List Int × Unit)).length) * 32 ≤ room then (some (((y2.1.1 ++ ([x.2.1.2.2.2.2.1] : List (Int × Int × List Int × Unit))), true, ()), ())) else none) else (if (decide (x.2.1.1 = (2:Int))) = true then (if (!y3.1.2.1) = true then (some (([], false, ()), ())) else (J5 y2.1.1)) else (if (decide (x.2.1.1 = (4:Int))) = true then (if (!y3.1.2.1) = true then (some (([], false, ()), ())) else (J5 y2.1.1)) else (if (decide (x.2.1.1 = (5:Int))) = true then (if (!y3.1.2.1) = true then (some (([], false, ()), ())) else (J5 y2.1.1)) else (J5 y2.1.1))))))))))
def h19 : Hints := ⟨[], [(26, ⟨[(8, .val (.sl .own 32 (.st (.pair tI (.pair tI (.pair .str .unit))))))], [4, 9], []⟩)]⟩
def ft19 (n : Nat) : List (Nat × FEnt) := [(35, ⟨s35, F35 n⟩), (36, ⟨s36, F36 n⟩), (37, ⟨s37, F37 n⟩), (38, ⟨s38, F38 n⟩), (39, ⟨s39, F39 n⟩), (40, ⟨s40, F40 n⟩), (41, ⟨s41, F41 n⟩)]
def c19 (n : Nat) : Ctx := ⟨83, find? tys, find? (ft19 n), gls, [], [3, 4], []⟩
theorem e19 (n x) : execFn (c19 n) h19 n Go.Proofs.Try.f19 s19 x = F19 n x := by kernel_rfl
theorem fn19 : P.funcs[19]? = some Go.Proofs.Try.f19 := by kernel_rfl
theorem call19 : Callable P 19 := callB_ok (by kernel_rfl)
theorem S19 (A : Amb) (n : Nat) : Sound A P (c19 n) 19 s19 (F19 n) :=
  execFn_sound mixed (tab rfl) (ft_all (C := c19 n) (l := ft19 n) rfl ⟨⟨call35, (S35 A n).of rfl⟩, ⟨call36, (S36 A n).of rfl⟩, ⟨call37, (S37 A n).of rfl⟩, ⟨call38, (S38 A n).of rfl⟩, ⟨call39, (S39 A n).of rfl⟩, ⟨call40, (S40 A n).of rfl⟩, ⟨call41, (S41 A n).of rfl⟩, trivial⟩) fn19 fun x y h => (e19 n x).trans h
def s16 : Sig := ⟨[.val (.st (.pair (.sl .imm 32 (.st (.pair tI (.pair .str (.pair tI .unit))))) (.pair tI .unit))), .val (.st (.pair tI (.pair tI (.pair .str (.pair tI (.pair (.st (.pair tI (.pair tI (.pair .str .unit)))) (.pair tB (.pair tI .unit)))))))), .val (.sl .imm 24 (.sl .imm 32 (.st (.pair tI (.pair tI (.pair .str .unit))))))], [.val (.sl .imm 24 (.sl .imm 32 (.st (.pair tI (.pair tI (.pair .str .unit)))))), .val .bool]⟩
/-- rabbet/change.Rows -/
def F16 (n : Nat) (x : (List (Int × List Int × Int × Unit) × Int × Unit) × (Int × Int × List Int × Int × (Int × Int × List Int × Unit) × Int × Int × Unit) × (List (List (Int × Int × List Int × Unit))) × Unit) : Option (((List (List (Int × Int × List Int × Unit))) × Bool × Unit) × (Unit)) :=
  (iterF (fun rec2 (s1 : (List (List (Int × Int × List Int × Unit))) × Int) => (if (decide (s1.2 < (x.2.2.1.length : Int))) = true then (atI s1.2 x.2.2.1.length ((F19 n (x.1, x.2.1, (x.2.2.1.getD s1.2.toNat []), ())).bind fun (y3 : ((List (Int × Int × List Int × Unit)) × Bool × Unit) × (Unit)) => (if (!y3.1.2.1) = true then (some (([], false, ()), ())) else (if (s1.1.length + ([y3.1.1] : List (List (Int × Int × List Int × Unit))).length) * 24 ≤ room then (rec2 ((s1.1 ++ ([y3.1.1] : List (List (Int × Int × List Int × Unit)))), (IntKind.i64.wrap (s1.2 + (1:Int))))) else none)))) else (some ((s1.1, true, ()), ())))) n ([], (0:Int)))
def h16 : Hints := ⟨[(0, ⟨[(6, .val (.sl .own 24 (.sl .imm 32 (.st (.pair tI (.pair tI (.pair .str .unit))))))), (14, .val tI)], [3, 4, 12, 13], []⟩)], []⟩
def ft16 (n : Nat) : List (Nat × FEnt) := [(19, ⟨s19, F19 n⟩)]
def c16 (n : Nat) : Ctx := ⟨33, find? tys, find? (ft16 n), gls, [], [3, 4], []⟩
theorem e16 (n x) : execFn (c16 n) h16 n Go.Proofs.Try.f16 s16 x = F16 n x := by kernel_rfl
theorem fn16 : P.funcs[16]? = some Go.Proofs.Try.f16 := by kernel_rfl
theorem call16 : Callable P 16 := callB_ok (by kernel_rfl)
theorem S16 (A : Amb) (n : Nat) : Sound A P (c16 n) 16 s16 (F16 n) :=
  execFn_sound mixed (tab rfl) (ft_all (C := c16 n) (l := ft16 n) rfl ⟨⟨call19, (S19 A n).of rfl⟩, trivial⟩) fn16 fun x y h => (e16 n x).trans h
def s12 : Sig := ⟨[], [.val .bool]⟩
/-- rabbet/rabbetlaw16.begun -/
def F12 (n : Nat) (x : Unit) : Option ((Bool × Unit) × (Unit)) :=
  ((F19 n ((([((1:Int), [97], (4:Int), ())] : List (Int × List Int × Int × Unit)), (1:Int), ()), ((5:Int), (1:Int), [98], (0:Int), ((0:Int), (0:Int), [], ()), (58:Int), (0:Int), ()), ([((4:Int), (0:Int), [120, 58, 121, 58, 122], ())] : List (Int × Int × List Int × Unit)), ())).bind fun (y1 : ((List (Int × Int × List Int × Unit)) × Bool × Unit) × (Unit)) => ((F16 n ((([((1:Int), [97], (4:Int), ())] : List (Int × List Int × Int × Unit)), (1:Int), ()), ((8:Int), (0:Int), [], (0:Int), ((0:Int), (0:Int), [], ()), (0:Int), (0:Int), ()), ([([((0:Int), (0:Int), [], ())] : List (Int × Int × List Int × Unit))] : List (List (Int × Int × List Int × Unit))), ())).bind fun (y2 : ((List (List (Int × Int × List Int × Unit))) × Bool × Unit) × (Unit)) => ((F19 n ((([((1:Int), [97], (4:Int), ())] : List (Int × List Int × Int × Unit)), (1:Int), ()), ((8:Int), (0:Int), [], (0:Int), ((0:Int), (0:Int), [], ()), (0:Int), (0:Int), ()), [], ())).bind fun (y3 : ((List (Int × Int × List Int × Unit)) × Bool × Unit) × (Unit)) => (if y1.1.2.1 = true then (if (decide ((y1.1.1.length : Int) = (2:Int))) = true then (atI (0:Int) y1.1.1.length (if (decide (((((y1.1.1.getD (0:Int).toNat ((0:Int), (0:Int), [], ())).2).2).1) = [120])) = true then (atI (1:Int) y1.1.1.length (if (decide (((((y1.1.1.getD (1:Int).toNat ((0:Int), (0:Int), [], ())).2).2).1) = [121, 58, 122])) = true then (if y2.1.2.1 = true then (if (decide ((y2.1.1.length : Int) = (1:Int))) = true then (some (((!y3.1.2.1), ()), ())) else (some ((false, ()), ()))) else (some ((false, ()), ()))) else (some ((false, ()), ())))) else (some ((false, ()), ())))) else (some ((false, ()), ()))) else (some ((false, ()), ()))))))
def h12 : Hints := ⟨[], []⟩
def ft12 (n : Nat) : List (Nat × FEnt) := [(16, ⟨s16, F16 n⟩), (19, ⟨s19, F19 n⟩)]
def c12 (n : Nat) : Ctx := ⟨66, find? tys, find? (ft12 n), gls, [], [], []⟩
theorem e12 (n x) : execFn (c12 n) h12 n Go.Proofs.Try.f12 s12 x = F12 n x := by kernel_rfl
theorem fn12 : P.funcs[12]? = some Go.Proofs.Try.f12 := by kernel_rfl
theorem call12 : Callable P 12 := callB_ok (by kernel_rfl)
theorem S12 (A : Amb) (n : Nat) : Sound A P (c12 n) 12 s12 (F12 n) :=
  execFn_sound mixed (tab rfl) (ft_all (C := c12 n) (l := ft12 n) rfl ⟨⟨call16, (S16 A n).of rfl⟩, ⟨call19, (S19 A n).of rfl⟩, trivial⟩) fn12 fun x y h => (e12 n x).trans h
def s25 : Sig := ⟨[.io (.st (.pair (.sl .imm 1 tB) (.pair tI .unit))), .val (.st (.pair (.sl .imm 32 (.st (.pair tI (.pair .str (.pair tI .unit))))) (.pair tI .unit)))], [.val tI]⟩
/-- (*rabbet/rabbetplay.Picks).col -/
def F25 (n : Nat) (x : (List Int × Int × Unit) × (List (Int × List Int × Int × Unit) × Int × Unit) × Unit) : Option ((Int × Unit) × ((List Int × Int × Unit) × Unit)) :=
  ((F22 n (x.1, (x.2.1.1.length : Int), ())).bind fun (y1 : (Int × Unit) × ((List Int × Int × Unit) × Unit)) => (atI y1.1.1 x.2.1.1.length (some (((x.2.1.1.getD y1.1.1.toNat ((0:Int), [], (0:Int), ())).1, ()), (y1.2.1, ())))))
def h25 : Hints := ⟨[], []⟩
def ft25 (n : Nat) : List (Nat × FEnt) := [(22, ⟨s22, F22 n⟩)]
def c25 (n : Nat) : Ctx := ⟨15, find? tys, find? (ft25 n), gls, [], [3], []⟩
theorem e25 (n x) : execFn (c25 n) h25 n Go.Proofs.Try.f25 s25 x = F25 n x := by kernel_rfl
theorem fn25 : P.funcs[25]? = some Go.Proofs.Try.f25 := by kernel_rfl
theorem call25 : Callable P 25 := callB_ok (by kernel_rfl)
theorem S25 (A : Amb) (n : Nat) : Sound A P (c25 n) 25 s25 (F25 n) :=
  execFn_sound mixed (tab rfl) (ft_all (C := c25 n) (l := ft25 n) rfl ⟨⟨call22, (S22 A n).of rfl⟩, trivial⟩) fn25 fun x y h => (e25 n x).trans h
def s44 : Sig := ⟨[.io (.st (.pair (.sl .imm 1 tB) (.pair tI .unit)))], [.val .bool]⟩
/-- (*rabbet/rabbetplay.Picks).Over -/
def F44 (n : Nat) (x : (List Int × Int × Unit) × Unit) : Option ((Bool × Unit) × ((List Int × Int × Unit) × Unit)) :=
  (some (((decide ((x.1.1.length : Int) ≤ x.1.2.1)), ()), (x.1, ())))
def h44 : Hints := ⟨[], []⟩
def ft44 (n : Nat) : List (Nat × FEnt) := []
def c44 (n : Nat) : Ctx := ⟨13, find? tys, find? (ft44 n), gls, [], [], []⟩
theorem e44 (n x) : execFn (c44 n) h44 n Go.Proofs.Try.f44 s44 x = F44 n x := by kernel_rfl
theorem fn44 : P.funcs[44]? = some Go.Proofs.Try.f44 := by kernel_rfl
theorem call44 : Callable P 44 := callB_ok (by kernel_rfl)
theorem S44 (A : Amb) (n : Nat) : Sound A P (c44 n) 44 s44 (F44 n) :=
  execFn_sound mixed (tab rfl) (ft_all (C := c44 n) (l := ft44 n) rfl trivial) fn44 fun x y h => (e44 n x).trans h
def s26 : Sig := ⟨[.io (.st (.pair (.sl .imm 1 tB) (.pair tI .unit))), .val tI], [.val (.st (.pair tI (.pair tI (.pair .str .unit))))]⟩
/-- (*rabbet/rabbetplay.Picks).Value -/
def F26 (n : Nat) (x : (List Int × Int × Unit) × Int × Unit) : Option (((Int × Int × List Int × Unit) × Unit) × ((List Int × Int × Unit) × Unit)) :=
  ((F22 n (x.1, (9:Int), ())).bind fun (y1 : (Int × Unit) × ((List Int × Int × Unit) × Unit)) => (joinF (fun (s2 : (List Int × Int × Unit) × Int × Int × List Int × Unit) => (if (decide (x.2.1 = (1:Int))) = true then (atI y1.1.1 ([(0:Int), (1:Int), (2:Int), (3:Int), (-1:Int), (100:Int), (-32768:Int), (32767:Int), (5:Int)].length) (some (((x.2.1, ([(0:Int), (1:Int), (2:Int), (3:Int), (-1:Int), (100:Int), (-32768:Int), (32767:Int), (5:Int)].getD y1.1.1.toNat (0:Int)), [], ()), ()), (s2.1, ())))) else (if (decide (x.2.1 = (2:Int))) = true then (atI y1.1.1 ([(0:Int), (1:Int), (2:Int), (3:Int), (-1:Int), (1000000:Int), (-9223372036854775808:Int), (9223372036854775807:Int), (4611686018427387904:Int)].length) (some (((x.2.1, ([(0:Int), (1:Int), (2:Int), (3:Int), (-1:Int), (1000000:Int), (-9223372036854775808:Int), (9223372036854775807:Int), (4611686018427387904:Int)].getD y1.1.1.toNat (0:Int)), [], ()), ()), (s2.1, ())))) else (if (decide (x.2.1 = (3:Int))) = true then (some (((x.2.1, (y1.1.1.tmod (2:Int)), [], ()), ()), (s2.1, ()))) else (atI y1.1.1 (([[], [97], [98], [97, 58, 98], [97, 98], [120, 58, 121, 58, 122], [58], [116, 119, 101, 110, 116, 121, 45, 98, 121, 116, 101, 115, 45, 111, 102, 45, 116, 101, 120, 116], [99]] : List (List Int)).length) (some ((((4:Int), (0:Int), (([[], [97], [98], [97, 58, 98], [97, 98], [120, 58, 121, 58, 122], [58], [116, 119, 101, 110, 116, 121, 45, 98, 121, 116, 101, 115, 45, 111, 102, 45, 116, 101, 120, 116], [99]] : List (List Int)).getD y1.1.1.toNat []), ()), ()), (s2.1, ())))))))) fun J3 => (if (decide (y1.1.1 = (0:Int))) = true then ((F44 n (y1.2.1, ())).bind fun (y4 : (Bool × Unit) × ((List Int × Int × Unit) × Unit)) => (if (!y4.1.1) = true then (some ((((0:Int), (0:Int), [], ()), ()), (y4.2.1, ()))) else (J3 (y4.2.1, (0:Int), (0:Int), [], ())))) else (J3 (y1.2.1, (0:Int), (0:Int), [], ())))))
def h26 : Hints := ⟨[], [(8, ⟨[(0, .box (.st (.pair (.sl .imm 1 tB) (.pair tI .unit)))), (4, .box (.st (.pair tI (.pair tI (.pair .str .unit)))))], [1, 5], []⟩)]⟩
def ft26 (n : Nat) : List (Nat × FEnt) := [(22, ⟨s22, F22 n⟩), (44, ⟨s44, F44 n⟩)]
def c26 (n : Nat) : Ctx := ⟨44, find? tys, find? (ft26 n), gls, [], [], []⟩
theorem e26 (n x) : execFn (c26 n) h26 n Go.Proofs.Try.f26 s26 x = F26 n x := by kernel_rfl
theorem fn26 : P.funcs[26]? = some Go.Proofs.Try.f26 := by kernel_rfl
theorem call26 : Callable P 26 := callB_ok (by kernel_rfl)
theorem S26 (A : Amb) (n : Nat) : Sound A P (c26 n) 26 s26 (F26 n) :=
  execFn_sound mixed (tab rfl) (ft_all (C := c26 n) (l := ft26 n) rfl ⟨⟨call22, (S22 A n).of rfl⟩, ⟨call44, (S44 A n).of rfl⟩, trivial⟩) fn26 fun x y h => (e26 n x).trans h
def s13 : Sig := ⟨[.io (.st (.pair (.sl .imm 1 tB) (.pair tI .unit))), .val (.st (.pair (.sl .imm 32 (.st (.pair tI (.pair .str (.pair tI .unit))))) (.pair tI .unit)))], [.val (.st (.pair tI (.pair tI (.pair .str (.pair tI (.pair (.st (.pair tI (.pair tI (.pair .str .unit)))) (.pair tB (.pair tI .unit))))))))]⟩
/-- (*rabbet/rabbetplay.Picks).Change -/
def F13 (n : Nat) (x : (List Int × Int × Unit) × (List (Int × List Int × Int × Unit) × Int × Unit) × Unit) : Option (((Int × Int × List Int × Int × (Int × Int × List Int × Unit) × Int × Int × Unit) × Unit) × ((List Int × Int × Unit) × Unit)) :=
  ((F22 n (x.1, (9:Int), ())).bind fun (y1 : (Int × Unit) × ((List Int × Int × Unit) × Unit)) => ((F25 n (y1.2.1, x.2.1, ())).bind fun (y2 : (Int × Unit) × ((List Int × Int × Unit) × Unit)) => (if (decide ((IntKind.i64.wrap ((1:Int) + y1.1.1)) = (1:Int))) = true then ((F22 n (y2.2.1, (4:Int), ())).bind fun (y3 : (Int × Unit) × ((List Int × Int × Unit) × Unit)) => ((F22 n (y3.2.1, (9:Int), ())).bind fun (y4 : (Int × Unit) × ((List Int × Int × Unit) × Unit)) => (if [110].length + [(IntKind.u8.wrap (IntKind.i64.wrap ((97:Int) + y4.1.1)))].length ≤ 140737488355328 then ((F26 n (y4.2.1, (IntKind.i64.wrap ((1:Int) + y3.1.1)), ())).bind fun (y5 : ((Int × Int × List Int × Unit) × Unit) × ((List Int × Int × Unit) × Unit)) => (some ((((IntKind.i64.wrap ((1:Int) + y1.1.1)), (0:Int), ([110] ++ [(IntKind.u8.wrap (IntKind.i64.wrap ((97:Int) + y4.1.1)))]), (IntKind.i64.wrap ((1:Int) + y3.1.1)), y5.1.1, (0:Int), (0:Int), ()), ()), (y5.2.1, ())))) else none))) else (if (decide ((IntKind.i64.wrap ((1:Int) + y1.1.1)) = (3:Int))) = true then ((F22 n (y2.2.1, (9:Int), ())).bind fun (y6 : (Int × Unit) × ((List Int × Int × Unit) × Unit)) => (if [114].length + [(IntKind.u8.wrap (IntKind.i64.wrap ((97:Int) + y6.1.1)))].length ≤ 140737488355328 then (some ((((IntKind.i64.wrap ((1:Int) + y1.1.1)), y2.1.1, ([114] ++ [(IntKind.u8.wrap (IntKind.i64.wrap ((97:Int) + y6.1.1)))]), (0:Int), ((0:Int), (0:Int), [], ()), (0:Int), (0:Int), ()), ()), (y6.2.1, ()))) else none)) else (if (decide ((IntKind.i64.wrap ((1:Int) + y1.1.1)) = (5:Int))) = true then ((F22 n (y2.2.1, (9:Int), ())).bind fun (y7 : (Int × Unit) × ((List Int × Int × Unit) × Unit)) => (if [115].length + [(IntKind.u8.wrap (IntKind.i64.wrap ((97:Int) + y7.1.1)))].length ≤ 140737488355328 then ((F22 n (y7.2.1, (2:Int), ())).bind fun (y8 : (Int × Unit) × ((List Int × Int × Unit) × Unit)) => (if (decide (y8.1.1 = (0:Int))) = true then (some ((((IntKind.i64.wrap ((1:Int) + y1.1.1)), (2:Int), ([115] ++ [(IntKind.u8.wrap (IntKind.i64.wrap ((97:Int) + y7.1.1)))]), (0:Int), ((0:Int), (0:Int), [], ()), (58:Int), (0:Int), ()), ()), (y8.2.1, ()))) else (some ((((IntKind.i64.wrap ((1:Int) + y1.1.1)), y2.1.1, ([115] ++ [(IntKind.u8.wrap (IntKind.i64.wrap ((97:Int) + y7.1.1)))]), (0:Int), ((0:Int), (0:Int), [], ()), (58:Int), (0:Int), ()), ()), (y8.2.1, ()))))) else none)) else (if (decide ((IntKind.i64.wrap ((1:Int) + y1.1.1)) = (6:Int))) = true then ((F22 n (y2.2.1, (4:Int), ())).bind fun (y9 : (Int × Unit) × ((List Int × Int × Unit) × Unit)) => (if (decide (y9.1.1 = (0:Int))) = true then (some ((((IntKind.i64.wrap ((1:Int) + y1.1.1)), (0:Int), [], (0:Int), ((0:Int), (0:Int), [], ()), (0:Int), (0:Int), ()), ()), (y9.2.1, ()))) else (some ((((IntKind.i64.wrap ((1:Int) + y1.1.1)), y2.1.1, [], (0:Int), ((0:Int), (0:Int), [], ()), (0:Int), (0:Int), ()), ()), (y9.2.1, ()))))) else (if (decide ((IntKind.i64.wrap ((1:Int) + y1.1.1)) = (7:Int))) = true then ((F22 n (y2.2.1, (4:Int), ())).bind fun (y10 : (Int × Unit) × ((List Int × Int × Unit) × Unit)) => (some ((((IntKind.i64.wrap ((1:Int) + y1.1.1)), y2.1.1, [], (0:Int), ((0:Int), (0:Int), [], ()), (0:Int), (IntKind.i64.wrap ((1:Int) + y10.1.1)), ()), ()), (y10.2.1, ())))) else (if (decide ((IntKind.i64.wrap ((1:Int) + y1.1.1)) = (8:Int))) = true then (some ((((IntKind.i64.wrap ((1:Int) + y1.1.1)), (0:Int), [], (0:Int), ((0:Int), (0:Int), [], ()), (0:Int), (0:Int), ()), ()), (y2.2.1, ()))) else (if (decide ((IntKind.i64.wrap ((1:Int) + y1.1.1)) = (9:Int))) = true then ((F22 n (y2.2.1, (5:Int), ())).bind fun (y11 : (Int × Unit) × ((List Int × Int × Unit) × Unit)) => (some ((((IntKind.i64.wrap ((1:Int) + y1.1.1)), y2.1.1, [], (0:Int), ((0:Int), (0:Int), [], ()), (0:Int), (IntKind.i64.wrap ((1:Int) + y11.1.1)), ()), ()), (y11.2.1, ())))) else (some ((((IntKind.i64.wrap ((1:Int) + y1.1.1)), y2.1.1, [], (0:Int), ((0:Int), (0:Int), [], ()), (0:Int), (0:Int), ()), ()), (y2.2.1, ()))))))))))))
def h13 : Hints := ⟨[], []⟩
def ft13 (n : Nat) : List (Nat × FEnt) := [(22, ⟨s22, F22 n⟩), (25, ⟨s25, F25 n⟩), (26, ⟨s26, F26 n⟩)]
def c13 (n : Nat) : Ctx := ⟨82, find? tys, find? (ft13 n), gls, [], [3], []⟩
theorem e13 (n x) : execFn (c13 n) h13 n Go.Proofs.Try.f13 s13 x = F13 n x := by kernel_rfl
theorem fn13 : P.funcs[13]? = some Go.Proofs.Try.f13 := by kernel_rfl
theorem call13 : Callable P 13 := callB_ok (by kernel_rfl)
theorem S13 (A : Amb) (n : Nat) : Sound A P (c13 n) 13 s13 (F13 n) :=
  execFn_sound mixed (tab rfl) (ft_all (C := c13 n) (l := ft13 n) rfl ⟨⟨call22, (S22 A n).of rfl⟩, ⟨call25, (S25 A n).of rfl⟩, ⟨call26, (S26 A n).of rfl⟩, trivial⟩) fn13 fun x y h => (e13 n x).trans h
def s45 : Sig := ⟨[.val .str], [.val .bool]⟩
/-- rabbet/rabbetref12.MayName -/
def F45 (n : Nat) (x : List Int × Unit) : Option ((Bool × Unit) × (Unit)) :=
  (iterF (fun rec2 (s1 : Int) => (if (decide (s1 < (x.1.length : Int))) = true then (atI s1 x.1.length (if (decide ((x.1.getD s1.toNat (0:Int)) < (33:Int))) = true then (some ((false, ()), ())) else (atI s1 x.1.length (if (decide ((126:Int) < (x.1.getD s1.toNat (0:Int)))) = true then (some ((false, ()), ())) else (rec2 (IntKind.i64.wrap (s1 + (1:Int)))))))) else (if (decide ((1:Int) ≤ (x.1.length : Int))) = true then (some (((decide ((x.1.length : Int) ≤ (12:Int))), ()), ())) else (some ((false, ()), ()))))) n (0:Int))
def h45 : Hints := ⟨[(0, ⟨[(3, .val tI)], [0], []⟩)], []⟩
def ft45 (n : Nat) : List (Nat × FEnt) := []
def c45 (n : Nat) : Ctx := ⟨28, find? tys, find? (ft45 n), gls, [], [], []⟩
theorem e45 (n x) : execFn (c45 n) h45 n Go.Proofs.Try.f45 s45 x = F45 n x := by kernel_rfl
theorem fn45 : P.funcs[45]? = some Go.Proofs.Try.f45 := by kernel_rfl
theorem call45 : Callable P 45 := callB_ok (by kernel_rfl)
theorem S45 (A : Amb) (n : Nat) : Sound A P (c45 n) 45 s45 (F45 n) :=
  execFn_sound mixed (tab rfl) (ft_all (C := c45 n) (l := ft45 n) rfl trivial) fn45 fun x y h => (e45 n x).trans h
def s46 : Sig := ⟨[.val tI], [.val .bool]⟩
/-- rabbet/rabbetref12.isType -/
def F46 (n : Nat) (x : Int × Unit) : Option ((Bool × Unit) × (Unit)) :=
  (if (decide ((1:Int) ≤ x.1)) = true then (some (((decide (x.1 ≤ (4:Int))), ()), ())) else (some ((false, ()), ())))
def h46 : Hints := ⟨[], []⟩
def ft46 (n : Nat) : List (Nat × FEnt) := []
def c46 (n : Nat) : Ctx := ⟨9, find? tys, find? (ft46 n), gls, [], [], []⟩
theorem e46 (n x) : execFn (c46 n) h46 n Go.Proofs.Try.f46 s46 x = F46 n x := by kernel_rfl
theorem fn46 : P.funcs[46]? = some Go.Proofs.Try.f46 := by kernel_rfl
theorem call46 : Callable P 46 := callB_ok (by kernel_rfl)
theorem S46 (A : Amb) (n : Nat) : Sound A P (c46 n) 46 s46 (F46 n) :=
  execFn_sound mixed (tab rfl) (ft_all (C := c46 n) (l := ft46 n) rfl trivial) fn46 fun x y h => (e46 n x).trans h
def s27 : Sig := ⟨[.val (.st (.pair (.sl .imm 32 (.st (.pair tI (.pair .str (.pair tI .unit))))) (.pair tI .unit)))], [.val .bool]⟩
/-- rabbet/rabbetref12.May -/
def F27 (n : Nat) (x : (List (Int × List Int × Int × Unit) × Int × Unit) × Unit) : Option ((Bool × Unit) × (Unit)) :=
  (iterF (fun rec2 (s1 : Int) => (if (decide (s1 < (x.1.1.length : Int))) = true then (atI s1 x.1.1.length (if (decide ((x.1.1.getD s1.toNat ((0:Int), [], (0:Int), ())).1 < (1:Int))) = true then (some ((false, ()), ())) else (if (decide (x.1.2.1 < (x.1.1.getD s1.toNat ((0:Int), [], (0:Int), ())).1)) = true then (some ((false, ()), ())) else ((F45 n (((x.1.1.getD s1.toNat ((0:Int), [], (0:Int), ())).2).1, ())).bind fun (y3 : (Bool × Unit) × (Unit)) => (if (!y3.1.1) = true then (some ((false, ()), ())) else ((F46 n ((((x.1.1.getD s1.toNat ((0:Int), [], (0:Int), ())).2).2).1, ())).bind fun (y4 : (Bool × Unit) × (Unit)) => (if (!y4.1.1) = true then (some ((false, ()), ())) else (iterF (fun rec6 (s5 : Int) => (if (decide (s5 < s1)) = true then (atI s5 x.1.1.length (if (decide ((x.1.1.getD s5.toNat ((0:Int), [], (0:Int), ())).1 = (x.1.1.getD s1.toNat ((0:Int), [], (0:Int), ())).1)) = true then (some ((false, ()), ())) else (atI s5 x.1.1.length (if (decide ((((x.1.1.getD s5.toNat ((0:Int), [], (0:Int), ())).2).1) = (((x.1.1.getD s1.toNat ((0:Int), [], (0:Int), ())).2).1))) = true then (some ((false, ()), ())) else (rec6 (IntKind.i64.wrap (s5 + (1:Int)))))))) else (rec2 (IntKind.i64.wrap (s1 + (1:Int)))))) n (0:Int))))))))) else (if (decide ((1:Int) ≤ (x.1.1.length : Int))) = true then (if (decide ((x.1.1.length : Int) ≤ (6:Int))) = true then (some (((decide (x.1.2.1 ≤ (10000:Int))), ()), ())) else (some ((false, ()), ()))) else (some ((false, ()), ()))))) n (0:Int))
def h27 : Hints := ⟨[(2, ⟨[(5, .val tI)], [1, 3, 4], []⟩), (0, ⟨[(3, .val tI)], [1], []⟩)], []⟩
def ft27 (n : Nat) : List (Nat × FEnt) := [(45, ⟨s45, F45 n⟩), (46, ⟨s46, F46 n⟩)]
def c27 (n : Nat) : Ctx := ⟨80, find? tys, find? (ft27 n), gls, [], [1], []⟩
theorem e27 (n x) : execFn (c27 n) h27 n Go.Proofs.Try.f27 s27 x = F27 n x := by kernel_rfl
theorem fn27 : P.funcs[27]? = some Go.Proofs.Try.f27 := by kernel_rfl
theorem call27 : Callable P 27 := callB_ok (by kernel_rfl)
theorem S27 (A : Amb) (n : Nat) : Sound A P (c27 n) 27 s27 (F27 n) :=
  execFn_sound mixed (tab rfl) (ft_all (C := c27 n) (l := ft27 n) rfl ⟨⟨call45, (S45 A n).of rfl⟩, ⟨call46, (S46 A n).of rfl⟩, trivial⟩) fn27 fun x y h => (e27 n x).trans h
def s47 : Sig := ⟨[.val (.st (.pair (.sl .imm 32 (.st (.pair tI (.pair .str (.pair tI .unit))))) (.pair tI .unit))), .val tI], [.val tI, .val .bool]⟩
/-- rabbet/rabbetref12.ByID -/
def F47 (n : Nat) (x : (List (Int × List Int × Int × Unit) × Int × Unit) × Int × Unit) : Option ((Int × Bool × Unit) × (Unit)) :=
  (iterF (fun rec2 (s1 : Int) => (if (decide (s1 < (x.1.1.length : Int))) = true then (atI s1 x.1.1.length (if (decide ((x.1.1.getD s1.toNat ((0:Int), [], (0:Int), ())).1 = x.2.1)) = true then (some ((s1, true, ()), ())) else (rec2 (IntKind.i64.wrap (s1 + (1:Int)))))) else (some (((0:Int), false, ()), ())))) n (0:Int))
def h47 : Hints := ⟨[(0, ⟨[(6, .val tI)], [1, 2], []⟩)], []⟩
def ft47 (n : Nat) : List (Nat × FEnt) := []
def c47 (n : Nat) : Ctx := ⟨23, find? tys, find? (ft47 n), gls, [], [2], []⟩
theorem e47 (n x) : execFn (c47 n) h47 n Go.Proofs.Try.f47 s47 x = F47 n x := by kernel_rfl
theorem fn47 : P.funcs[47]? = some Go.Proofs.Try.f47 := by kernel_rfl
theorem call47 : Callable P 47 := callB_ok (by kernel_rfl)
theorem S47 (A : Amb) (n : Nat) : Sound A P (c47 n) 47 s47 (F47 n) :=
  execFn_sound mixed (tab rfl) (ft_all (C := c47 n) (l := ft47 n) rfl trivial) fn47 fun x y h => (e47 n x).trans h
def s28 : Sig := ⟨[.val (.st (.pair (.sl .imm 32 (.st (.pair tI (.pair .str (.pair tI .unit))))) (.pair tI .unit))), .val (.st (.pair tI (.pair tI (.pair tI (.pair (.sl .imm 8 tI) .unit)))))], [.val .bool]⟩
/-- rabbet/rabbetref12.MayLayout -/
def F28 (n : Nat) (x : (List (Int × List Int × Int × Unit) × Int × Unit) × (Int × Int × Int × List Int × Unit) × Unit) : Option ((Bool × Unit) × (Unit)) :=
  ((F47 n (x.1, x.2.1.1, ())).bind fun (y1 : (Int × Bool × Unit) × (Unit)) => ((F47 n (x.1, x.2.1.2.1, ())).bind fun (y2 : (Int × Bool × Unit) × (Unit)) => (iterF (fun rec4 (s3 : Int) => (if (decide (s3 < (x.2.1.2.2.2.1.length : Int))) = true then (atI s3 x.2.1.2.2.2.1.length (if (decide ((x.2.1.2.2.2.1.getD s3.toNat (0:Int)) < (1:Int))) = true then (some ((false, ()), ())) else (atI s3 x.2.1.2.2.2.1.length (if (decide ((5:Int) < (x.2.1.2.2.2.1.getD s3.toNat (0:Int)))) = true then (some ((false, ()), ())) else (rec4 (IntKind.i64.wrap (s3 + (1:Int)))))))) else (if (decide (x.2.1.1 = (0:Int))) = true then (if (decide ((1:Int) ≤ x.2.1.2.2.1)) = true then (if (decide (x.2.1.2.2.1 ≤ (4:Int))) = true then (if y2.1.2.1 = true then (some (((decide ((x.2.1.2.2.2.1.length : Int) = (x.1.1.length : Int))), ()), ())) else (if (decide (x.2.1.2.1 = (0:Int))) = true then (if (decide (x.2.1.2.2.1 = (1:Int))) = true then (some (((decide ((x.2.1.2.2.2.1.length : Int) = (x.1.1.length : Int))), ()), ())) else (some ((false, ()), ()))) else (some ((false, ()), ())))) else (some ((false, ()), ()))) else (some ((false, ()), ()))) else (if y1.1.2.1 = true then (if (decide ((1:Int) ≤ x.2.1.2.2.1)) = true then (if (decide (x.2.1.2.2.1 ≤ (4:Int))) = true then (if y2.1.2.1 = true then (some (((decide ((x.2.1.2.2.2.1.length : Int) = (x.1.1.length : Int))), ()), ())) else (if (decide (x.2.1.2.1 = (0:Int))) = true then (if (decide (x.2.1.2.2.1 = (1:Int))) = true then (some (((decide ((x.2.1.2.2.2.1.length : Int) = (x.1.1.length : Int))), ()), ())) else (some ((false, ()), ()))) else (some ((false, ()), ())))) else (some ((false, ()), ()))) else (some ((false, ()), ()))) else (some ((false, ()), ())))))) n (0:Int))))
def h28 : Hints := ⟨[(0, ⟨[(9, .val tI)], [2, 3, 6, 8], []⟩)], []⟩
def ft28 (n : Nat) : List (Nat × FEnt) := [(47, ⟨s47, F47 n⟩)]
def c28 (n : Nat) : Ctx := ⟨83, find? tys, find? (ft28 n), gls, [], [2, 3], []⟩
theorem e28 (n x) : execFn (c28 n) h28 n Go.Proofs.Try.f28 s28 x = F28 n x := by kernel_rfl
theorem fn28 : P.funcs[28]? = some Go.Proofs.Try.f28 := by kernel_rfl
theorem call28 : Callable P 28 := callB_ok (by kernel_rfl)
theorem S28 (A : Amb) (n : Nat) : Sound A P (c28 n) 28 s28 (F28 n) :=
  execFn_sound mixed (tab rfl) (ft_all (C := c28 n) (l := ft28 n) rfl ⟨⟨call47, (S47 A n).of rfl⟩, trivial⟩) fn28 fun x y h => (e28 n x).trans h
def s49 : Sig := ⟨[.val (.st (.pair tI (.pair tI (.pair .str .unit))))], [.val .bool]⟩
/-- rabbet/rabbetref1.May -/
def F49 (n : Nat) (x : (Int × Int × List Int × Unit) × Unit) : Option ((Bool × Unit) × (Unit)) :=
  (if (decide (x.1.1 = (0:Int))) = true then (if (decide (x.1.2.1 = (0:Int))) = true then (some (((decide (x.1.2.2.1 = [])), ()), ())) else (some ((false, ()), ()))) else (if (decide (x.1.1 = (1:Int))) = true then (if (decide ((-32768:Int) ≤ x.1.2.1)) = true then (if (decide (x.1.2.1 ≤ (32767:Int))) = true then (some (((decide (x.1.2.2.1 = [])), ()), ())) else (some ((false, ()), ()))) else (some ((false, ()), ()))) else (if (decide (x.1.1 = (2:Int))) = true then (some (((decide (x.1.2.2.1 = [])), ()), ())) else (if (decide (x.1.1 = (3:Int))) = true then (if (decide (x.1.2.1 = (0:Int))) = true then (some (((decide (x.1.2.2.1 = [])), ()), ())) else (if (decide (x.1.2.1 = (1:Int))) = true then (some (((decide (x.1.2.2.1 = [])), ()), ())) else (some ((false, ()), ())))) else (if (decide (x.1.1 = (4:Int))) = true then (if (decide (x.1.2.1 = (0:Int))) = true then (some (((decide ((x.1.2.2.1.length : Int) ≤ (20:Int))), ()), ())) else (some ((false, ()), ()))) else (some ((false, ()), ())))))))
def h49 : Hints := ⟨[], []⟩
def ft49 (n : Nat) : List (Nat × FEnt) := []
def c49 (n : Nat) : Ctx := ⟨61, find? tys, find? (ft49 n), gls, [], [1], []⟩
theorem e49 (n x) : execFn (c49 n) h49 n Go.Proofs.Try.f49 s49 x = F49 n x := by kernel_rfl
theorem fn49 : P.funcs[49]? = some Go.Proofs.Try.f49 := by kernel_rfl
theorem call49 : Callable P 49 := callB_ok (by kernel_rfl)
theorem S49 (A : Amb) (n : Nat) : Sound A P (c49 n) 49 s49 (F49 n) :=
  execFn_sound mixed (tab rfl) (ft_all (C := c49 n) (l := ft49 n) rfl trivial) fn49 fun x y h => (e49 n x).trans h
def s50 : Sig := ⟨[.val tI], [.val .bool]⟩
/-- rabbet/rabbetref1.isType -/
def F50 (n : Nat) (x : Int × Unit) : Option ((Bool × Unit) × (Unit)) :=
  (if (decide ((1:Int) ≤ x.1)) = true then (some (((decide (x.1 ≤ (4:Int))), ()), ())) else (some ((false, ()), ())))
def h50 : Hints := ⟨[], []⟩
def ft50 (n : Nat) : List (Nat × FEnt) := []
def c50 (n : Nat) : Ctx := ⟨9, find? tys, find? (ft50 n), gls, [], [], []⟩
theorem e50 (n x) : execFn (c50 n) h50 n Go.Proofs.Try.f50 s50 x = F50 n x := by kernel_rfl
theorem fn50 : P.funcs[50]? = some Go.Proofs.Try.f50 := by kernel_rfl
theorem call50 : Callable P 50 := callB_ok (by kernel_rfl)
theorem S50 (A : Amb) (n : Nat) : Sound A P (c50 n) 50 s50 (F50 n) :=
  execFn_sound mixed (tab rfl) (ft_all (C := c50 n) (l := ft50 n) rfl trivial) fn50 fun x y h => (e50 n x).trans h
def s33 : Sig := ⟨[.val tI, .val (.st (.pair tI (.pair tI (.pair .str .unit))))], [.val .bool]⟩
/-- rabbet/rabbetref1.Fits -/
def F33 (n : Nat) (x : Int × (Int × Int × List Int × Unit) × Unit) : Option ((Bool × Unit) × (Unit)) :=
  ((F49 n (x.2.1, ())).bind fun (y1 : (Bool × Unit) × (Unit)) => (if y1.1.1 = true then ((F50 n (x.1, ())).bind fun (y2 : (Bool × Unit) × (Unit)) => (if y2.1.1 = true then (if (decide (x.2.1.1 = (0:Int))) = true then (some ((true, ()), ())) else (some (((decide (x.2.1.1 = x.1)), ()), ()))) else (some ((false, ()), ())))) else (some ((false, ()), ()))))
def h33 : Hints := ⟨[], []⟩
def ft33 (n : Nat) : List (Nat × FEnt) := [(49, ⟨s49, F49 n⟩), (50, ⟨s50, F50 n⟩)]
def c33 (n : Nat) : Ctx := ⟨22, find? tys, find? (ft33 n), gls, [], [3], []⟩
theorem e33 (n x) : execFn (c33 n) h33 n Go.Proofs.Try.f33 s33 x = F33 n x := by kernel_rfl
theorem fn33 : P.funcs[33]? = some Go.Proofs.Try.f33 := by kernel_rfl
theorem call33 : Callable P 33 := callB_ok (by kernel_rfl)
theorem S33 (A : Amb) (n : Nat) : Sound A P (c33 n) 33 s33 (F33 n) :=
  execFn_sound mixed (tab rfl) (ft_all (C := c33 n) (l := ft33 n) rfl ⟨⟨call49, (S49 A n).of rfl⟩, ⟨call50, (S50 A n).of rfl⟩, trivial⟩) fn33 fun x y h => (e33 n x).trans h
def s48 : Sig := ⟨[.val (.st (.pair (.sl .imm 32 (.st (.pair tI (.pair .str (.pair tI .unit))))) (.pair tI .unit))), .val .str], [.val tI, .val .bool]⟩
/-- rabbet/rabbetref12.Find -/
def F48 (n : Nat) (x : (List (Int × List Int × Int × Unit) × Int × Unit) × List Int × Unit) : Option ((Int × Bool × Unit) × (Unit)) :=
  (iterF (fun rec2 (s1 : Int) => (if (decide (s1 < (x.1.1.length : Int))) = true then (atI s1 x.1.1.length (if (decide ((((x.1.1.getD s1.toNat ((0:Int), [], (0:Int), ())).2).1) = x.2.1)) = true then (some ((s1, true, ()), ())) else (rec2 (IntKind.i64.wrap (s1 + (1:Int)))))) else (some (((0:Int), false, ()), ())))) n (0:Int))
def h48 : Hints := ⟨[(0, ⟨[(6, .val tI)], [1, 2], []⟩)], []⟩
def ft48 (n : Nat) : List (Nat × FEnt) := []
def c48 (n : Nat) : Ctx := ⟨23, find? tys, find? (ft48 n), gls, [], [2], []⟩
theorem e48 (n x) : execFn (c48 n) h48 n Go.Proofs.Try.f48 s48 x = F48 n x := by kernel_rfl
theorem fn48 : P.funcs[48]? = some Go.Proofs.Try.f48 := by kernel_rfl
theorem call48 : Callable P 48 := callB_ok (by kernel_rfl)
theorem S48 (A : Amb) (n : Nat) : Sound A P (c48 n) 48 s48 (F48 n) :=
  execFn_sound mixed (tab rfl) (ft_all (C := c48 n) (l := ft48 n) rfl trivial) fn48 fun x y h => (e48 n x).trans h
def s29 : Sig := ⟨[.io (.st (.pair (.sl .own 32 (.st (.pair tI (.pair .str (.pair tI .unit))))) (.pair tI .unit))), .io (.st (.pair tI (.pair tI (.pair tI (.pair (.sl .own 8 tI) .unit))))), .val (.st (.pair tI (.pair tI (.pair .str (.pair tI (.pair (.st (.pair tI (.pair tI (.pair .str .unit)))) (.pair tB (.pair tI .unit))))))))], [.val tI]⟩
/-- rabbet/rabbetref12.add -/
def F29 (n : Nat) (x : (List (Int × List Int × Int × Unit) × Int × Unit) × (Int × Int × Int × List Int × Unit) × (Int × Int × List Int × Int × (Int × Int × List Int × Unit) × Int × Int × Unit) × Unit) : Option ((Int × Unit) × ((List (Int × List Int × Int × Unit) × Int × Unit) × (Int × Int × Int × List Int × Unit) × Unit)) :=
  ((F48 n (x.1, x.2.2.1.2.2.1, ())).bind fun (y1 : (Int × Bool × Unit) × (Unit)) => ((F45 n (x.2.2.1.2.2.1, ())).bind fun (y2 : (Bool × Unit) × (Unit)) => (if (!y2.1.1) = true then (some (((1:Int), ()), (x.1, x.2.1, ()))) else ((F46 n (x.2.2.1.2.2.2.1, ())).bind fun (y3 : (Bool × Unit) × (Unit)) => (if (!y3.1.1) = true then (some (((1:Int), ()), (x.1, x.2.1, ()))) else (if y1.1.2.1 = true then (some (((9:Int), ()), (x.1, x.2.1, ()))) else ((F33 n (x.2.2.1.2.2.2.1, x.2.2.1.2.2.2.2.1, ())).bind fun (y4 : (Bool × Unit) × (Unit)) => (if (!y4.1.1) = true then (some (((4:Int), ()), (x.1, x.2.1, ()))) else (if (decide ((6:Int) ≤ (x.1.1.length : Int))) = true then (some (((6:Int), ()), (x.1, x.2.1, ()))) else (if (decide ((10000:Int) ≤ x.1.2.1)) = true then (some (((6:Int), ()), (x.1, x.2.1, ()))) else (if (x.1.1.length + ([((IntKind.i64.wrap (x.1.2.1 + (1:Int))), x.2.2.1.2.2.1, x.2.2.1.2.2.2.1, ())] : List (Int × List Int × Int × Unit)).length) * 32 ≤ room then (if (x.2.1.2.2.2.1.length + [(1:Int)].length) * 8 ≤ room then (some (((0:Int), ()), (((x.1.1 ++ ([((IntKind.i64.wrap (x.1.2.1 + (1:Int))), x.2.2.1.2.2.1, x.2.2.1.2.2.2.1, ())] : List (Int × List Int × Int × Unit))), (IntKind.i64.wrap (x.1.2.1 + (1:Int))), x.1.2.2), (x.2.1.1, x.2.1.2.1, x.2.1.2.2.1, (x.2.1.2.2.2.1 ++ [(1:Int)]), x.2.1.2.2.2.2), ()))) else none) else none)))))))))))
def h29 : Hints := ⟨[], []⟩
def ft29 (n : Nat) : List (Nat × FEnt) := [(33, ⟨s33, F33 n⟩), (45, ⟨s45, F45 n⟩), (46, ⟨s46, F46 n⟩), (48, ⟨s48, F48 n⟩)]
def c29 (n : Nat) : Ctx := ⟨86, find? tys, find? (ft29 n), gls, [], [5], []⟩
theorem e29 (n x) : execFn (c29 n) h29 n Go.Proofs.Try.f29 s29 x = F29 n x := by kernel_rfl
theorem fn29 : P.funcs[29]? = some Go.Proofs.Try.f29 := by kernel_rfl
theorem call29 : Callable P 29 := callB_ok (by kernel_rfl)
theorem S29 (A : Amb) (n : Nat) : Sound A P (c29 n) 29 s29 (F29 n) :=
  execFn_sound mixed (tab rfl) (ft_all (C := c29 n) (l := ft29 n) rfl ⟨⟨call33, (S33 A n).of rfl⟩, ⟨call45, (S45 A n).of rfl⟩, ⟨call46, (S46 A n).of rfl⟩, ⟨call48, (S48 A n).of rfl⟩, trivial⟩) fn29 fun x y h => (e29 n x).trans h
def s30 : Sig := ⟨[.io (.st (.pair (.sl .own 32 (.st (.pair tI (.pair .str (.pair tI .unit))))) (.pair tI .unit))), .io (.st (.pair tI (.pair tI (.pair tI (.pair (.sl .own 8 tI) .unit))))), .val (.st (.pair tI (.pair tI (.pair .str (.pair tI (.pair (.st (.pair tI (.pair tI (.pair .str .unit)))) (.pair tB (.pair tI .unit))))))))], [.val tI]⟩
/-- rabbet/rabbetref12.turn -/
def F30 (n : Nat) (x : (List (Int × List Int × Int × Unit) × Int × Unit) × (Int × Int × Int × List Int × Unit) × (Int × Int × List Int × Int × (Int × Int × List Int × Unit) × Int × Int × Unit) × Unit) : Option ((Int × Unit) × ((List (Int × List Int × Int × Unit) × Int × Unit) × (Int × Int × Int × List Int × Unit) × Unit)) :=
  ((F47 n (x.1, x.2.2.1.2.1, ())).bind fun (y1 : (Int × Bool × Unit) × (Unit)) => (if (!y1.1.2.1) = true then (some (((3:Int), ()), (x.1, x.2.1, ()))) else (joinF (fun (s2 : (Int × Int × Int × List Int × Unit) × Bool) => ((F48 n (x.1, x.2.2.1.2.2.1, ())).bind fun (y4 : (Int × Bool × Unit) × (Unit)) => (if (decide (x.2.2.1.1 = (2:Int))) = true then (if (decide ((x.1.1.length : Int) = (1:Int))) = true then (some (((1:Int), ()), (x.1, s2.1, ()))) else (if s2.2 = true then (some (((1:Int), ()), (x.1, s2.1, ()))) else (if 0 ≤ y1.1.1 ∧ y1.1.1 ≤ (x.1.1.length : Int) then (if 0 ≤ (IntKind.i64.wrap (y1.1.1 + (1:Int))) ∧ (IntKind.i64.wrap (y1.1.1 + (1:Int))) ≤ (x.1.1.length : Int) then (if ((x.1.1.take y1.1.1.toNat).length + ((x.1.1.take (x.1.1.length : Int).toNat).drop (IntKind.i64.wrap (y1.1.1 + (1:Int))).toNat).length) * 32 ≤ room then (if 0 ≤ y1.1.1 ∧ y1.1.1 ≤ (s2.1.2.2.2.1.length : Int) then (if 0 ≤ (IntKind.i64.wrap (y1.1.1 + (1:Int))) ∧ (IntKind.i64.wrap (y1.1.1 + (1:Int))) ≤ (s2.1.2.2.2.1.length : Int) then (if ((s2.1.2.2.2.1.take y1.1.1.toNat).length + ((s2.1.2.2.2.1.take (s2.1.2.2.2.1.length : Int).toNat).drop (IntKind.i64.wrap (y1.1.1 + (1:Int))).toNat).length) * 8 ≤ room then (some (((0:Int), ()), ((((x.1.1.take y1.1.1.toNat) ++ ((x.1.1.take (x.1.1.length : Int).toNat).drop (IntKind.i64.wrap (y1.1.1 + (1:Int))).toNat)), x.1.2), (s2.1.1, s2.1.2.1, s2.1.2.2.1, ((s2.1.2.2.2.1.take y1.1.1.toNat) ++ ((s2.1.2.2.2.1.take (s2.1.2.2.2.1.length : Int).toNat).drop (IntKind.i64.wrap (y1.1.1 + (1:Int))).toNat)), s2.1.2.2.2.2), ()))) else none) else none) else none) else none) else none) else none))) else (if (decide (x.2.2.1.1 = (3:Int))) = true then ((F45 n (x.2.2.1.2.2.1, ())).bind fun (y5 : (Bool × Unit) × (Unit)) => (if (!y5.1.1) = true then (some (((1:Int), ()), (x.1, s2.1, ()))) else (if y4.1.2.1 = true then (if (!decide (y4.1.1 = y1.1.1)) = true then (some (((9:Int), ()), (x.1, s2.1, ()))) else (atI y1.1.1 x.1.1.length (some (((0:Int), ()), (((x.1.1.set y1.1.1.toNat ((x.1.1.getD y1.1.1.toNat ((0:Int), [], (0:Int), ())).1, x.2.2.1.2.2.1, ((x.1.1.getD y1.1.1.toNat ((0:Int), [], (0:Int), ())).2).2)), x.1.2), s2.1, ()))))) else (atI y1.1.1 x.1.1.length (some (((0:Int), ()), (((x.1.1.set y1.1.1.toNat ((x.1.1.getD y1.1.1.toNat ((0:Int), [], (0:Int), ())).1, x.2.2.1.2.2.1, ((x.1.1.getD y1.1.1.toNat ((0:Int), [], (0:Int), ())).2).2)), x.1.2), s2.1, ()))))))) else (if (decide (x.2.2.1.1 = (4:Int))) = true then (atI y1.1.1 x.1.1.length (if (decide ((((x.1.1.getD y1.1.1.toNat ((0:Int), [], (0:Int), ())).2).2).1 = (3:Int))) = true then (atI y1.1.1 x.1.1.length (some (((0:Int), ()), (((x.1.1.set y1.1.1.toNat ((x.1.1.getD y1.1.1.toNat ((0:Int), [], (0:Int), ())).1, ((x.1.1.getD y1.1.1.toNat ((0:Int), [], (0:Int), ())).2).1, (1:Int), (((x.1.1.getD y1.1.1.toNat ((0:Int), [], (0:Int), ())).2).2).2)), x.1.2), s2.1, ())))) else (if (decide ((((x.1.1.getD y1.1.1.toNat ((0:Int), [], (0:Int), ())).2).2).1 = (1:Int))) = true then (atI y1.1.1 x.1.1.length (some (((0:Int), ()), (((x.1.1.set y1.1.1.toNat ((x.1.1.getD y1.1.1.toNat ((0:Int), [], (0:Int), ())).1, ((x.1.1.getD y1.1.1.toNat ((0:Int), [], (0:Int), ())).2).1, (2:Int), (((x.1.1.getD y1.1.1.toNat ((0:Int), [], (0:Int), ())).2).2).2)), x.1.2), s2.1, ())))) else (some (((4:Int), ()), (x.1, s2.1, ())))))) else (atI y1.1.1 x.1.1.length (if (!decide ((((x.1.1.getD y1.1.1.toNat ((0:Int), [], (0:Int), ())).2).2).1 = (4:Int))) = true then (some (((4:Int), ()), (x.1, s2.1, ()))) else (if s2.2 = true then (some (((1:Int), ()), (x.1, s2.1, ()))) else ((F45 n (x.2.2.1.2.2.1, ())).bind fun (y6 : (Bool × Unit) × (Unit)) => (if (!y6.1.1) = true then (some (((1:Int), ()), (x.1, s2.1, ()))) else (if y4.1.2.1 = true then (some (((9:Int), ()), (x.1, s2.1, ()))) else (if (decide ((6:Int) ≤ (x.1.1.length : Int))) = true then (some (((6:Int), ()), (x.1, s2.1, ()))) else (if (decide ((10000:Int) ≤ x.1.2.1)) = true then (some (((6:Int), ()), (x.1, s2.1, ()))) else (if 0 ≤ (IntKind.i64.wrap (y1.1.1 + (1:Int))) ∧ (IntKind.i64.wrap (y1.1.1 + (1:Int))) ≤ (x.1.1.length : Int) then (if (([] : List (Int × List Int × Int × Unit)).length + ((x.1.1.take (IntKind.i64.wrap (y1.1.1 + (1:Int))).toNat).drop (0:Int).toNat).length) * 32 ≤ room then (if ((([] : List (Int × List Int × Int × Unit)) ++ ((x.1.1.take (IntKind.i64.wrap (y1.1.1 + (1:Int))).toNat).drop (0:Int).toNat)).length + ([((IntKind.i64.wrap (x.1.2.1 + (1:Int))), x.2.2.1.2.2.1, (4:Int), ())] : List (Int × List Int × Int × Unit)).length) * 32 ≤ room then (if 0 ≤ (IntKind.i64.wrap (y1.1.1 + (1:Int))) ∧ (IntKind.i64.wrap (y1.1.1 + (1:Int))) ≤ (x.1.1.length : Int) then (if (((([] : List (Int × List Int × Int × Unit)) ++ ((x.1.1.take (IntKind.i64.wrap (y1.1.1 + (1:Int))).toNat).drop (0:Int).toNat)) ++ ([((IntKind.i64.wrap (x.1.2.1 + (1:Int))), x.2.2.1.2.2.1, (4:Int), ())] : List (Int × List Int × Int × Unit))).length + ((x.1.1.take (x.1.1.length : Int).toNat).drop (IntKind.i64.wrap (y1.1.1 + (1:Int))).toNat).length) * 32 ≤ room then (if 0 ≤ (IntKind.i64.wrap (y1.1.1 + (1:Int))) ∧ (IntKind.i64.wrap (y1.1.1 + (1:Int))) ≤ (s2.1.2.2.2.1.length : Int) then (if (([] : List (Int)).length + ((s2.1.2.2.2.1.take (IntKind.i64.wrap (y1.1.1 + (1:Int))).toNat).drop (0:Int).toNat).length) * 8 ≤ room then (if (([] ++ ((s2.1.2.2.2.1.take (IntKind.i64.wrap (y1.1.1 + (1:Int))).toNat).drop (0:Int).toNat)).length + [(1:Int)].length) * 8 ≤ room then (if 0 ≤ (IntKind.i64.wrap (y1.1.1 + (1:Int))) ∧ (IntKind.i64.wrap (y1.1.1 + (1:Int))) ≤ (s2.1.2.2.2.1.length : Int) then (if ((([] ++ ((s2.1.2.2.2.1.take (IntKind.i64.wrap (y1.1.1 + (1:Int))).toNat).drop (0:Int).toNat)) ++ [(1:Int)]).length + ((s2.1.2.2.2.1.take (s2.1.2.2.2.1.length : Int).toNat).drop (IntKind.i64.wrap (y1.1.1 + (1:Int))).toNat).length) * 8 ≤ room then (some (((0:Int), ()), (((((([] : List (Int × List Int × Int × Unit)) ++ ((x.1.1.take (IntKind.i64.wrap (y1.1.1 + (1:Int))).toNat).drop (0:Int).toNat)) ++ ([((IntKind.i64.wrap (x.1.2.1 + (1:Int))), x.2.2.1.2.2.1, (4:Int), ())] : List (Int × List Int × Int × Unit))) ++ ((x.1.1.take (x.1.1.length : Int).toNat).drop (IntKind.i64.wrap (y1.1.1 + (1:Int))).toNat)), (IntKind.i64.wrap (x.1.2.1 + (1:Int))), x.1.2.2), (s2.1.1, s2.1.2.1, s2.1.2.2.1, ((([] ++ ((s2.1.2.2.2.1.take (IntKind.i64.wrap (y1.1.1 + (1:Int))).toNat).drop (0:Int).toNat)) ++ [(1:Int)]) ++ ((s2.1.2.2.2.1.take (s2.1.2.2.2.1.length : Int).toNat).drop (IntKind.i64.wrap (y1.1.1 + (1:Int))).toNat)), s2.1.2.2.2.2), ()))) else none) else none) else none) else none) else none) else none) else none) else none) else none) else none)))))))))))))) fun J3 => (if (decide (x.2.1.1 = x.2.2.1.2.1)) = true then (J3 (x.2.1, true)) else (J3 (x.2.1, (decide (x.2.1.2.1 = x.2.2.1.2.1))))))))
def h30 : Hints := ⟨[], [(10, ⟨[(1, .box (.st (.pair tI (.pair tI (.pair tI (.pair (.sl .own 8 tI) .unit)))))), (9, .val .bool)], [5, 7], [0]⟩)]⟩
def ft30 (n : Nat) : List (Nat × FEnt) := [(45, ⟨s45, F45 n⟩), (47, ⟨s47, F47 n⟩), (48, ⟨s48, F48 n⟩)]
def c30 (n : Nat) : Ctx := ⟨238, find? tys, find? (ft30 n), gls, [], [5], []⟩
theorem e30 (n x) : execFn (c30 n) h30 n Go.Proofs.Try.f30 s30 x = F30 n x := by kernel_rfl
theorem fn30 : P.funcs[30]? = some Go.Proofs.Try.f30 := by kernel_rfl
theorem call30 : Callable P 30 := callB_ok (by kernel_rfl)
theorem S30 (A : Amb) (n : Nat) : Sound A P (c30 n) 30 s30 (F30 n) :=
  execFn_sound mixed (tab rfl) (ft_all (C := c30 n) (l := ft30 n) rfl ⟨⟨call45, (S45 A n).of rfl⟩, ⟨call47, (S47 A n).of rfl⟩, ⟨call48, (S48 A n).of rfl⟩, trivial⟩) fn30 fun x y h => (e30 n x).trans h
def s31 : Sig := ⟨[.val (.st (.pair (.sl .imm 32 (.st (.pair tI (.pair .str (.pair tI .unit))))) (.pair tI .unit))), .io (.st (.pair tI (.pair tI (.pair tI (.pair (.sl .own 8 tI) .unit))))), .val (.st (.pair tI (.pair tI (.pair .str (.pair tI (.pair (.st (.pair tI (.pair tI (.pair .str .unit)))) (.pair tB (.pair tI .unit))))))))], [.val tI]⟩
/-- rabbet/rabbetref12.lay -/
def F31 (n : Nat) (x : (List (Int × List Int × Int × Unit) × Int × Unit) × (Int × Int × Int × List Int × Unit) × (Int × Int × List Int × Int × (Int × Int × List Int × Unit) × Int × Int × Unit) × Unit) : Option ((Int × Unit) × ((Int × Int × Int × List Int × Unit) × Unit)) :=
  ((F47 n (x.1, x.2.2.1.2.1, ())).bind fun (y1 : (Int × Bool × Unit) × (Unit)) => (if (decide (x.2.2.1.1 = (6:Int))) = true then (if (!y1.1.2.1) = true then (if (!decide (x.2.2.1.2.1 = (0:Int))) = true then (some (((3:Int), ()), (x.2.1, ()))) else (some (((0:Int), ()), ((x.2.2.1.2.1, x.2.1.2), ())))) else (some (((0:Int), ()), ((x.2.2.1.2.1, x.2.1.2), ())))) else (if (decide (x.2.2.1.1 = (7:Int))) = true then (if (decide (x.2.2.1.2.2.2.2.2.2.1 < (1:Int))) = true then (some (((1:Int), ()), (x.2.1, ()))) else (if (decide ((4:Int) < x.2.2.1.2.2.2.2.2.2.1)) = true then (some (((1:Int), ()), (x.2.1, ()))) else (if (!y1.1.2.1) = true then (if (!decide (x.2.2.1.2.1 = (0:Int))) = true then (some (((3:Int), ()), (x.2.1, ()))) else (if (!decide (x.2.2.1.2.2.2.2.2.2.1 = (1:Int))) = true then (some (((3:Int), ()), (x.2.1, ()))) else (some (((0:Int), ()), ((x.2.1.1, x.2.2.1.2.1, x.2.2.1.2.2.2.2.2.2.1, x.2.1.2.2.2), ()))))) else (some (((0:Int), ()), ((x.2.1.1, x.2.2.1.2.1, x.2.2.1.2.2.2.2.2.2.1, x.2.1.2.2.2), ())))))) else (if (decide (x.2.2.1.1 = (8:Int))) = true then (some (((0:Int), ()), (x.2.1, ()))) else (if (decide (x.2.2.1.1 = (9:Int))) = true then (if (!y1.1.2.1) = true then (some (((3:Int), ()), (x.2.1, ()))) else (if (decide (x.2.2.1.2.2.2.2.2.2.1 < (1:Int))) = true then (some (((1:Int), ()), (x.2.1, ()))) else (if (decide ((5:Int) < x.2.2.1.2.2.2.2.2.2.1)) = true then (some (((1:Int), ()), (x.2.1, ()))) else (atI y1.1.1 x.2.1.2.2.2.1.length (some (((0:Int), ()), ((x.2.1.1, x.2.1.2.1, x.2.1.2.2.1, (x.2.1.2.2.2.1.set y1.1.1.toNat x.2.2.1.2.2.2.2.2.2.1), x.2.1.2.2.2.2), ()))))))) else (some (((1:Int), ()), (x.2.1, ()))))))))
def h31 : Hints := ⟨[], []⟩
def ft31 (n : Nat) : List (Nat × FEnt) := [(47, ⟨s47, F47 n⟩)]
def c31 (n : Nat) : Ctx := ⟨86, find? tys, find? (ft31 n), gls, [], [3, 5], []⟩
theorem e31 (n x) : execFn (c31 n) h31 n Go.Proofs.Try.f31 s31 x = F31 n x := by kernel_rfl
theorem fn31 : P.funcs[31]? = some Go.Proofs.Try.f31 := by kernel_rfl
theorem call31 : Callable P 31 := callB_ok (by kernel_rfl)
theorem S31 (A : Amb) (n : Nat) : Sound A P (c31 n) 31 s31 (F31 n) :=
  execFn_sound mixed (tab rfl) (ft_all (C := c31 n) (l := ft31 n) rfl ⟨⟨call47, (S47 A n).of rfl⟩, trivial⟩) fn31 fun x y h => (e31 n x).trans h
def s14 : Sig := ⟨[.val (.st (.pair (.sl .imm 32 (.st (.pair tI (.pair .str (.pair tI .unit))))) (.pair tI .unit))), .val (.st (.pair tI (.pair tI (.pair tI (.pair (.sl .imm 8 tI) .unit))))), .val (.st (.pair tI (.pair tI (.pair .str (.pair tI (.pair (.st (.pair tI (.pair tI (.pair .str .unit)))) (.pair tB (.pair tI .unit))))))))], [.val (.st (.pair (.sl .imm 32 (.st (.pair tI (.pair .str (.pair tI .unit))))) (.pair tI .unit))), .val (.st (.pair tI (.pair tI (.pair tI (.pair (.sl .imm 8 tI) .unit))))), .val tI]⟩
/-- rabbet/rabbetref12.Apply -/
def F14 (n : Nat) (x : (List (Int × List Int × Int × Unit) × Int × Unit) × (Int × Int × Int × List Int × Unit) × (Int × Int × List Int × Int × (Int × Int × List Int × Unit) × Int × Int × Unit) × Unit) : Option (((List (Int × List Int × Int × Unit) × Int × Unit) × (Int × Int × Int × List Int × Unit) × Int × Unit) × (Unit)) :=
  ((F27 n (x.1, ())).bind fun (y1 : (Bool × Unit) × (Unit)) => (if (!y1.1.1) = true then (some ((([], (0:Int), ()), ((0:Int), (0:Int), (0:Int), [], ()), (1:Int), ()), ())) else ((F28 n (x.1, x.2.1, ())).bind fun (y2 : (Bool × Unit) × (Unit)) => (if (!y2.1.1) = true then (some ((([], (0:Int), ()), ((0:Int), (0:Int), (0:Int), [], ()), (1:Int), ()), ())) else (if (([] : List (Int × List Int × Int × Unit)).length + x.1.1.length) * 32 ≤ room then (if (([] : List (Int)).length + x.2.1.2.2.2.1.length) * 8 ≤ room then (joinF (fun (s3 : (List (Int × List Int × Int × Unit) × Int × Unit) × (Int × Int × Int × List Int × Unit) × Int) => (if (!decide (s3.2.2 = (0:Int))) = true then (some ((([], (0:Int), ()), ((0:Int), (0:Int), (0:Int), [], ()), s3.2.2, ()), ())) else (some ((s3.1, s3.2.1, (0:Int), ()), ())))) fun J4 => (if (decide (x.2.2.1.1 = (1:Int))) = true then ((F29 n (((([] : List (Int × List Int × Int × Unit)) ++ x.1.1), x.1.2), (x.2.1.1, x.2.1.2.1, x.2.1.2.2.1, ([] ++ x.2.1.2.2.2.1), x.2.1.2.2.2.2), x.2.2.1, ())).bind fun (y5 : (Int × Unit) × ((List (Int × List Int × Int × Unit) × Int × Unit) × (Int × Int × Int × List Int × Unit) × Unit)) => (J4 (y5.2.1, y5.2.2.1, y5.1.1))) else (if (decide ((2:Int) ≤ x.2.2.1.1)) = true then (if (decide (x.2.2.1.1 ≤ (5:Int))) = true then ((F30 n (((([] : List (Int × List Int × Int × Unit)) ++ x.1.1), x.1.2), (x.2.1.1, x.2.1.2.1, x.2.1.2.2.1, ([] ++ x.2.1.2.2.2.1), x.2.1.2.2.2.2), x.2.2.1, ())).bind fun (y6 : (Int × Unit) × ((List (Int × List Int × Int × Unit) × Int × Unit) × (Int × Int × Int × List Int × Unit) × Unit)) => (J4 (y6.2.1, y6.2.2.1, y6.1.1))) else ((F31 n (x.1, (x.2.1.1, x.2.1.2.1, x.2.1.2.2.1, ([] ++ x.2.1.2.2.2.1), x.2.1.2.2.2.2), x.2.2.1, ())).bind fun (y7 : (Int × Unit) × ((Int × Int × Int × List Int × Unit) × Unit)) => (J4 (((([] : List (Int × List Int × Int × Unit)) ++ x.1.1), x.1.2), y7.2.1, y7.1.1)))) else ((F31 n (x.1, (x.2.1.1, x.2.1.2.1, x.2.1.2.2.1, ([] ++ x.2.1.2.2.2.1), x.2.1.2.2.2.2), x.2.2.1, ())).bind fun (y8 : (Int × Unit) × ((Int × Int × Int × List Int × Unit) × Unit)) => (J4 (((([] : List (Int × List Int × Int × Unit)) ++ x.1.1), x.1.2), y8.2.1, y8.1.1)))))) else none) else none)))))
def h14 : Hints := ⟨[], [(22, ⟨[(9, .box (.st (.pair (.sl .own 32 (.st (.pair tI (.pair .str (.pair tI .unit))))) (.pair tI .unit)))), (10, .box (.st (.pair tI (.pair tI (.pair tI (.pair (.sl .own 8 tI) .unit)))))), (11, .val tI)], [], [6, 7]⟩)]⟩
def ft14 (n : Nat) : List (Nat × FEnt) := [(27, ⟨s27, F27 n⟩), (28, ⟨s28, F28 n⟩), (29, ⟨s29, F29 n⟩), (30, ⟨s30, F30 n⟩), (31, ⟨s31, F31 n⟩)]
def c14 (n : Nat) : Ctx := ⟨60, find? tys, find? (ft14 n), gls, [], [3, 4, 5], []⟩
theorem e14 (n x) : execFn (c14 n) h14 n Go.Proofs.Try.f14 s14 x = F14 n x := by kernel_rfl
theorem fn14 : P.funcs[14]? = some Go.Proofs.Try.f14 := by kernel_rfl
theorem call14 : Callable P 14 := callB_ok (by kernel_rfl)
theorem S14 (A : Amb) (n : Nat) : Sound A P (c14 n) 14 s14 (F14 n) :=
  execFn_sound mixed (tab rfl) (ft_all (C := c14 n) (l := ft14 n) rfl ⟨⟨call27, (S27 A n).of rfl⟩, ⟨call28, (S28 A n).of rfl⟩, ⟨call29, (S29 A n).of rfl⟩, ⟨call30, (S30 A n).of rfl⟩, ⟨call31, (S31 A n).of rfl⟩, trivial⟩) fn14 fun x y h => (e14 n x).trans h
def s32 : Sig := ⟨[.io (.st (.pair (.sl .imm 1 tB) (.pair tI .unit))), .val (.st (.pair (.sl .imm 32 (.st (.pair tI (.pair .str (.pair tI .unit))))) (.pair tI .unit)))], [.val (.sl .imm 32 (.st (.pair tI (.pair tI (.pair .str .unit)))))]⟩
/-- (*rabbet/rabbetplay.Picks).Row -/
def F32 (n : Nat) (x : (List Int × Int × Unit) × (List (Int × List Int × Int × Unit) × Int × Unit) × Unit) : Option (((List (Int × Int × List Int × Unit)) × Unit) × ((List Int × Int × Unit) × Unit)) :=
  (iterF (fun rec2 (s1 : (List Int × Int × Unit) × (List (Int × Int × List Int × Unit)) × Int) => (if (decide (s1.2.2 < (x.2.1.1.length : Int))) = true then (atI s1.2.2 x.2.1.1.length ((F26 n (s1.1, (((x.2.1.1.getD s1.2.2.toNat ((0:Int), [], (0:Int), ())).2).2).1, ())).bind fun (y3 : ((Int × Int × List Int × Unit) × Unit) × ((List Int × Int × Unit) × Unit)) => (if (s1.2.1.length + ([y3.1.1] : List (Int × Int × List Int × Unit)).length) * 32 ≤ room then (rec2 (y3.2.1, (s1.2.1 ++ ([y3.1.1] : List (Int × Int × List Int × Unit))), (IntKind.i64.wrap (s1.2.2 + (1:Int))))) else none))) else (some ((s1.2.1, ()), (s1.1, ()))))) n (x.1, [], (0:Int)))
def h32 : Hints := ⟨[(0, ⟨[(0, .box (.st (.pair (.sl .imm 1 tB) (.pair tI .unit)))), (5, .val (.sl .own 32 (.st (.pair tI (.pair tI (.pair .str .unit)))))), (6, .val tI)], [3], []⟩)], []⟩
def ft32 (n : Nat) : List (Nat × FEnt) := [(26, ⟨s26, F26 n⟩)]
def c32 (n : Nat) : Ctx := ⟨26, find? tys, find? (ft32 n), gls, [], [3], []⟩
theorem e32 (n x) : execFn (c32 n) h32 n Go.Proofs.Try.f32 s32 x = F32 n x := by kernel_rfl
theorem fn32 : P.funcs[32]? = some Go.Proofs.Try.f32 := by kernel_rfl
theorem call32 : Callable P 32 := callB_ok (by kernel_rfl)
theorem S32 (A : Amb) (n : Nat) : Sound A P (c32 n) 32 s32 (F32 n) :=
  execFn_sound mixed (tab rfl) (ft_all (C := c32 n) (l := ft32 n) rfl ⟨⟨call26, (S26 A n).of rfl⟩, trivial⟩) fn32 fun x y h => (e32 n x).trans h
def s15 : Sig := ⟨[.io (.st (.pair (.sl .imm 1 tB) (.pair tI .unit))), .val (.st (.pair (.sl .imm 32 (.st (.pair tI (.pair .str (.pair tI .unit))))) (.pair tI .unit))), .val tI], [.val (.sl .imm 24 (.sl .imm 32 (.st (.pair tI (.pair tI (.pair .str .unit))))))]⟩
/-- (*rabbet/rabbetplay.Picks).Rows -/
def F15 (n : Nat) (x : (List Int × Int × Unit) × (List (Int × List Int × Int × Unit) × Int × Unit) × Int × Unit) : Option (((List (List (Int × Int × List Int × Unit))) × Unit) × ((List Int × Int × Unit) × Unit)) :=
  (iterF (fun rec2 (s1 : (List Int × Int × Unit) × (List (List (Int × Int × List Int × Unit))) × Int) => (if (decide (s1.2.2 < x.2.2.1)) = true then ((F32 n (s1.1, x.2.1, ())).bind fun (y3 : ((List (Int × Int × List Int × Unit)) × Unit) × ((List Int × Int × Unit) × Unit)) => (if (s1.2.1.length + ([y3.1.1] : List (List (Int × Int × List Int × Unit))).length) * 24 ≤ room then (rec2 (y3.2.1, (s1.2.1 ++ ([y3.1.1] : List (List (Int × Int × List Int × Unit)))), (IntKind.i64.wrap (s1.2.2 + (1:Int))))) else none)) else (some ((s1.2.1, ()), (s1.1, ()))))) n (x.1, [], (0:Int)))
def h15 : Hints := ⟨[(0, ⟨[(0, .box (.st (.pair (.sl .imm 1 tB) (.pair tI .unit)))), (7, .val (.sl .own 24 (.sl .imm 32 (.st (.pair tI (.pair tI (.pair .str .unit))))))), (8, .val tI)], [2, 4], []⟩)], []⟩
def ft15 (n : Nat) : List (Nat × FEnt) := [(32, ⟨s32, F32 n⟩)]
def c15 (n : Nat) : Ctx := ⟨21, find? tys, find? (ft15 n), gls, [], [4], []⟩
theorem e15 (n x) : execFn (c15 n) h15 n Go.Proofs.Try.f15 s15 x = F15 n x := by kernel_rfl
theorem fn15 : P.funcs[15]? = some Go.Proofs.Try.f15 := by kernel_rfl
theorem call15 : Callable P 15 := callB_ok (by kernel_rfl)
theorem S15 (A : Amb) (n : Nat) : Sound A P (c15 n) 15 s15 (F15 n) :=
  execFn_sound mixed (tab rfl) (ft_all (C := c15 n) (l := ft15 n) rfl ⟨⟨call32, (S32 A n).of rfl⟩, trivial⟩) fn15 fun x y h => (e15 n x).trans h
def s17 : Sig := ⟨[.val (.st (.pair (.sl .imm 32 (.st (.pair tI (.pair .str (.pair tI .unit))))) (.pair tI .unit))), .val (.sl .imm 32 (.st (.pair tI (.pair tI (.pair .str .unit)))))], [.val .bool]⟩
/-- rabbet/rabbetref12.Fits -/
def F17 (n : Nat) (x : (List (Int × List Int × Int × Unit) × Int × Unit) × (List (Int × Int × List Int × Unit)) × Unit) : Option ((Bool × Unit) × (Unit)) :=
  (if (!decide ((x.2.1.length : Int) = (x.1.1.length : Int))) = true then (some ((false, ()), ())) else (iterF (fun rec2 (s1 : Int) => (if (decide (s1 < (x.2.1.length : Int))) = true then (atI s1 x.1.1.length (atI s1 x.2.1.length ((F33 n ((((x.1.1.getD s1.toNat ((0:Int), [], (0:Int), ())).2).2).1, (x.2.1.getD s1.toNat ((0:Int), (0:Int), [], ())), ())).bind fun (y3 : (Bool × Unit) × (Unit)) => (if (!y3.1.1) = true then (some ((false, ()), ())) else (rec2 (IntKind.i64.wrap (s1 + (1:Int)))))))) else (some ((true, ()), ())))) n (0:Int)))
def h17 : Hints := ⟨[(0, ⟨[(5, .val tI)], [1, 2], []⟩)], []⟩
def ft17 (n : Nat) : List (Nat × FEnt) := [(33, ⟨s33, F33 n⟩)]
def c17 (n : Nat) : Ctx := ⟨30, find? tys, find? (ft17 n), gls, [], [2], []⟩
theorem e17 (n x) : execFn (c17 n) h17 n Go.Proofs.Try.f17 s17 x = F17 n x := by kernel_rfl
theorem fn17 : P.funcs[17]? = some Go.Proofs.Try.f17 := by kernel_rfl
theorem call17 : Callable P 17 := callB_ok (by kernel_rfl)
theorem S17 (A : Amb) (n : Nat) : Sound A P (c17 n) 17 s17 (F17 n) :=
  execFn_sound mixed (tab rfl) (ft_all (C := c17 n) (l := ft17 n) rfl ⟨⟨call33, (S33 A n).of rfl⟩, trivial⟩) fn17 fun x y h => (e17 n x).trans h
def s34 : Sig := ⟨[.val (.sl .imm 32 (.st (.pair tI (.pair tI (.pair .str .unit))))), .val (.sl .imm 32 (.st (.pair tI (.pair tI (.pair .str .unit)))))], [.val .bool]⟩
/-- rabbet/rabbetref1.SameValues -/
def F34 (n : Nat) (x : (List (Int × Int × List Int × Unit)) × (List (Int × Int × List Int × Unit)) × Unit) : Option ((Bool × Unit) × (Unit)) :=
  (if (!decide ((x.1.length : Int) = (x.2.1.length : Int))) = true then (some ((false, ()), ())) else (iterF (fun rec2 (s1 : Int) => (if (decide (s1 < (x.1.length : Int))) = true then (atI s1 x.1.length (atI s1 x.2.1.length (if (!((decide ((x.1.getD s1.toNat ((0:Int), (0:Int), [], ())).1 = (x.2.1.getD s1.toNat ((0:Int), (0:Int), [], ())).1)) && ((decide (((x.1.getD s1.toNat ((0:Int), (0:Int), [], ())).2).1 = ((x.2.1.getD s1.toNat ((0:Int), (0:Int), [], ())).2).1)) && (decide ((((x.1.getD s1.toNat ((0:Int), (0:Int), [], ())).2).2).1 = (((x.2.1.getD s1.toNat ((0:Int), (0:Int), [], ())).2).2).1))))) = true then (some ((false, ()), ())) else (rec2 (IntKind.i64.wrap (s1 + (1:Int))))))) else (some ((true, ()), ())))) n (0:Int)))
def h34 : Hints := ⟨[(0, ⟨[(5, .val tI)], [0, 1], []⟩)], []⟩
def ft34 (n : Nat) : List (Nat × FEnt) := []
def c34 (n : Nat) : Ctx := ⟨26, find? tys, find? (ft34 n), gls, [], [], []⟩
theorem e34 (n x) : execFn (c34 n) h34 n Go.Proofs.Try.f34 s34 x = F34 n x := by kernel_rfl
theorem fn34 : P.funcs[34]? = some Go.Proofs.Try.f34 := by kernel_rfl
theorem call34 : Callable P 34 := callB_ok (by kernel_rfl)
theorem S34 (A : Amb) (n : Nat) : Sound A P (c34 n) 34 s34 (F34 n) :=
  execFn_sound mixed (tab rfl) (ft_all (C := c34 n) (l := ft34 n) rfl trivial) fn34 fun x y h => (e34 n x).trans h
def s18 : Sig := ⟨[.val (.sl .imm 32 (.st (.pair tI (.pair tI (.pair .str .unit))))), .val (.sl .imm 32 (.st (.pair tI (.pair tI (.pair .str .unit)))))], [.val .bool]⟩
/-- rabbet/rabbetref12.SameRow -/
def F18 (n : Nat) (x : (List (Int × Int × List Int × Unit)) × (List (Int × Int × List Int × Unit)) × Unit) : Option ((Bool × Unit) × (Unit)) :=
  ((F34 n (x.1, x.2.1, ())).bind fun (y1 : (Bool × Unit) × (Unit)) => (some ((y1.1.1, ()), ())))
def h18 : Hints := ⟨[], []⟩
def ft18 (n : Nat) : List (Nat × FEnt) := [(34, ⟨s34, F34 n⟩)]
def c18 (n : Nat) : Ctx := ⟨8, find? tys, find? (ft18 n), gls, [], [], []⟩
theorem e18 (n x) : execFn (c18 n) h18 n Go.Proofs.Try.f18 s18 x = F18 n x := by kernel_rfl
theorem fn18 : P.funcs[18]? = some Go.Proofs.Try.f18 := by kernel_rfl
theorem call18 : Callable P 18 := callB_ok (by kernel_rfl)
theorem S18 (A : Amb) (n : Nat) : Sound A P (c18 n) 18 s18 (F18 n) :=
  execFn_sound mixed (tab rfl) (ft_all (C := c18 n) (l := ft18 n) rfl ⟨⟨call34, (S34 A n).of rfl⟩, trivial⟩) fn18 fun x y h => (e18 n x).trans h
def s4 : Sig := ⟨[.val (.sl .imm 1 tB), .val (.sl .imm 1 tB)], [.val .bool]⟩
/-- rabbet/rabbetlaw16.ChangeFits -/
def F4 (n : Nat) (x : List Int × List Int × Unit) : Option ((Bool × Unit) × (Unit)) :=
  ((F12 n ()).bind fun (y1 : (Bool × Unit) × (Unit)) => (if (!y1.1.1) = true then (some ((false, ()), ())) else (if (decide ((60:Int) < (x.1.length : Int))) = true then (some ((true, ()), ())) else (if (decide ((60:Int) < (x.2.1.length : Int))) = true then (some ((true, ()), ())) else ((F8 n (x.1, ())).bind fun (y2 : ((List Int × Int × Unit) × Unit) × (Unit)) => ((F9 n (y2.1.1, ())).bind fun (y3 : ((List (Int × List Int × Int × Unit) × Int × Unit) × (Int × Int × Int × List Int × Unit) × Unit) × ((List Int × Int × Unit) × Unit)) => ((F8 n (x.2.1, ())).bind fun (y4 : ((List Int × Int × Unit) × Unit) × (Unit)) => ((F13 n (y4.1.1, y3.1.1, ())).bind fun (y5 : ((Int × Int × List Int × Int × (Int × Int × List Int × Unit) × Int × Int × Unit) × Unit) × ((List Int × Int × Unit) × Unit)) => ((F14 n (y3.1.1, y3.1.2.1, y5.1.1, ())).bind fun (y6 : ((List (Int × List Int × Int × Unit) × Int × Unit) × (Int × Int × Int × List Int × Unit) × Int × Unit) × (Unit)) => (if (!decide (y6.1.2.2.1 = (0:Int))) = true then (some ((true, ()), ())) else ((F15 n (y5.2.1, y3.1.1, (10:Int), ())).bind fun (y7 : ((List (List (Int × Int × List Int × Unit))) × Unit) × ((List Int × Int × Unit) × Unit)) => ((F16 n (y3.1.1, y5.1.1, y7.1.1, ())).bind fun (y8 : ((List (List (Int × Int × List Int × Unit))) × Bool × Unit) × (Unit)) => (if (!y8.1.2.1) = true then (some ((false, ()), ())) else (if (!decide ((y8.1.1.length : Int) = (y7.1.1.length : Int))) = true then (some ((false, ()), ())) else (iterF (fun rec10 (s9 : Int) => (if (decide (s9 < (y8.1.1.length : Int))) = true then (atI s9 y8.1.1.length ((F17 n (y6.1.1, (y8.1.1.getD s9.toNat []), ())).bind fun (y11 : (Bool × Unit) × (Unit)) => (if (!y11.1.1) = true then (some ((false, ()), ())) else (if (decide ((6:Int) ≤ y5.1.1.1)) = true then (atI s9 y8.1.1.length (atI s9 y7.1.1.length ((F18 n ((y8.1.1.getD s9.toNat []), (y7.1.1.getD s9.toNat []), ())).bind fun (y12 : (Bool × Unit) × (Unit)) => (if (!y12.1.1) = true then (some ((false, ()), ())) else (rec10 (IntKind.i64.wrap (s9 + (1:Int)))))))) else (rec10 (IntKind.i64.wrap (s9 + (1:Int)))))))) else (some ((true, ()), ())))) n (0:Int))))))))))))))))
def h4 : Hints := ⟨[(0, ⟨[(15, .val tI)], [8, 9, 12, 13], []⟩)], []⟩
def ft4 (n : Nat) : List (Nat × FEnt) := [(8, ⟨s8, F8 n⟩), (9, ⟨s9, F9 n⟩), (12, ⟨s12, F12 n⟩), (13, ⟨s13, F13 n⟩), (14, ⟨s14, F14 n⟩), (15, ⟨s15, F15 n⟩), (16, ⟨s16, F16 n⟩), (17, ⟨s17, F17 n⟩), (18, ⟨s18, F18 n⟩)]
def c4 (n : Nat) : Ctx := ⟨96, find? tys, find? (ft4 n), gls, [], [], []⟩
theorem e4 (n x) : execFn (c4 n) h4 n Go.Proofs.Try.f4 s4 x = F4 n x := by kernel_rfl
theorem fn4 : P.funcs[4]? = some Go.Proofs.Try.f4 := by kernel_rfl
theorem call4 : Callable P 4 := callB_ok (by kernel_rfl)
theorem S4 (A : Amb) (n : Nat) : Sound A P (c4 n) 4 s4 (F4 n) :=
  execFn_sound mixed (tab rfl) (ft_all (C := c4 n) (l := ft4 n) rfl ⟨⟨call8, (S8 A n).of rfl⟩, ⟨call9, (S9 A n).of rfl⟩, ⟨call12, (S12 A n).of rfl⟩, ⟨call13, (S13 A n).of rfl⟩, ⟨call14, (S14 A n).of rfl⟩, ⟨call15, (S15 A n).of rfl⟩, ⟨call16, (S16 A n).of rfl⟩, ⟨call17, (S17 A n).of rfl⟩, ⟨call18, (S18 A n).of rfl⟩, trivial⟩) fn4 fun x y h => (e4 n x).trans h
def s5 : Sig := ⟨[.val .str, .val tB], [.val .bool]⟩
/-- rabbet/rabbetlaw16.ChangeJoins -/
def F5 (n : Nat) (x : List Int × Int × Unit) : Option ((Bool × Unit) × (Unit)) :=
  ((F12 n ()).bind fun (y1 : (Bool × Unit) × (Unit)) => (if (!y1.1.1) = true then (some ((false, ()), ())) else (if (decide ((20:Int) < (x.1.length : Int))) = true then (some ((true, ()), ())) else ((F19 n ((([((1:Int), [97], (4:Int), ())] : List (Int × List Int × Int × Unit)), (1:Int), ()), ((5:Int), (1:Int), [98], (0:Int), ((0:Int), (0:Int), [], ()), x.2.1, (0:Int), ()), ([((4:Int), (0:Int), x.1, ())] : List (Int × Int × List Int × Unit)), ())).bind fun (y2 : ((List (Int × Int × List Int × Unit)) × Bool × Unit) × (Unit)) => (if (!y2.1.2.1) = true then (some ((false, ()), ())) else (if (!decide ((y2.1.1.length : Int) = (2:Int))) = true then (some ((false, ()), ())) else (atI (0:Int) y2.1.1.length (if (!decide ((y2.1.1.getD (0:Int).toNat ((0:Int), (0:Int), [], ())).1 = (4:Int))) = true then (some ((false, ()), ())) else (iterF (fun rec4 (s3 : Bool × Int) => (if (decide (s3.2 < (x.1.length : Int))) = true then (if s3.1 = true then (rec4 (true, (IntKind.i64.wrap (s3.2 + (1:Int))))) else (atI s3.2 x.1.length (rec4 ((decide ((x.1.getD s3.2.toNat (0:Int)) = x.2.1)), (IntKind.i64.wrap (s3.2 + (1:Int))))))) else (atI (0:Int) y2.1.1.length (joinF (fun (s5 : List Int) => (iterF (fun rec8 (s7 : Int) => (atI (0:Int) y2.1.1.length (if (decide (s7 < (((((y2.1.1.getD (0:Int).toNat ((0:Int), (0:Int), [], ())).2).2).1).length : Int))) = true then (atI (0:Int) y2.1.1.length (atI s7 (((((y2.1.1.getD (0:Int).toNat ((0:Int), (0:Int), [], ())).2).2).1).length) (if (decide ((((((y2.1.1.getD (0:Int).toNat ((0:Int), (0:Int), [], ())).2).2).1).getD s7.toNat (0:Int)) = x.2.1)) = true then (some ((false, ()), ())) else (rec8 (IntKind.i64.wrap (s7 + (1:Int))))))) else (joinF (fun (s9 : Unit) => ((F19 n ((([((1:Int), [97], (4:Int), ()), ((2:Int), [98], (4:Int), ())] : List (Int × List Int × Int × Unit)), (2:Int), ()), ((2:Int), (2:Int), [], (0:Int), ((0:Int), (0:Int), [], ()), (0:Int), (0:Int), ()), y2.1.1, ())).bind fun (y11 : ((List (Int × Int × List Int × Unit)) × Bool × Unit) × (Unit)) => (if y11.1.2.1 = true then (if (decide ((y11.1.1.length : Int) = (1:Int))) = true then (atI (0:Int) y11.1.1.length (atI (0:Int) y2.1.1.length (some ((((decide ((y11.1.1.getD (0:Int).toNat ((0:Int), (0:Int), [], ())).1 = (y2.1.1.getD (0:Int).toNat ((0:Int), (0:Int), [], ())).1)) && ((decide (((y11.1.1.getD (0:Int).toNat ((0:Int), (0:Int), [], ())).2).1 = ((y2.1.1.getD (0:Int).toNat ((0:Int), (0:Int), [], ())).2).1)) && (decide ((((y11.1.1.getD (0:Int).toNat ((0:Int), (0:Int), [], ())).2).2).1 = (((y2.1.1.getD (0:Int).toNat ((0:Int), (0:Int), [], ())).2).2).1)))), ()), ())))) else (some ((false, ()), ()))) else (some ((false, ()), ()))))) fun J10 => (if (!decide (s5 = x.1)) = true then (some ((false, ()), ())) else (atI (1:Int) y2.1.1.length (if (!(s3.1 == (decide ((y2.1.1.getD (1:Int).toNat ((0:Int), (0:Int), [], ())).1 = (4:Int))))) = true then (some ((false, ()), ())) else (if (!s3.1) = true then (atI (1:Int) y2.1.1.length (if (!((decide ((y2.1.1.getD (1:Int).toNat ((0:Int), (0:Int), [], ())).1 = (0:Int))) && ((decide (((y2.1.1.getD (1:Int).toNat ((0:Int), (0:Int), [], ())).2).1 = (0:Int))) && (decide ((((y2.1.1.getD (1:Int).toNat ((0:Int), (0:Int), [], ())).2).2).1 = []))))) = true then (some ((false, ()), ())) else (J10 ()))) else (J10 ()))))))))) n (0:Int))) fun J6 => (atI (1:Int) y2.1.1.length (if (decide ((y2.1.1.getD (1:Int).toNat ((0:Int), (0:Int), [], ())).1 = (4:Int))) = true then (if ((((y2.1.1.getD (0:Int).toNat ((0:Int), (0:Int), [], ())).2).2).1).length + [x.2.1].length ≤ 140737488355328 then (atI (1:Int) y2.1.1.length (if (((((y2.1.1.getD (0:Int).toNat ((0:Int), (0:Int), [], ())).2).2).1) ++ [x.2.1]).length + ((((y2.1.1.getD (1:Int).toNat ((0:Int), (0:Int), [], ())).2).2).1).length ≤ 140737488355328 then (J6 ((((((y2.1.1.getD (0:Int).toNat ((0:Int), (0:Int), [], ())).2).2).1) ++ [x.2.1]) ++ ((((y2.1.1.getD (1:Int).toNat ((0:Int), (0:Int), [], ())).2).2).1))) else none)) else none) else (J6 (((y2.1.1.getD (0:Int).toNat ((0:Int), (0:Int), [], ())).2).2).1))))))) n (false, (0:Int)))))))))))
def h5 : Hints := ⟨[(0, ⟨[(9, .val .bool), (10, .val tI)], [0, 1, 7], []⟩), (2, ⟨[(12, .val tI)], [0, 1, 7, 9, 11], []⟩)], [(36, ⟨[(11, .val .str)], [0, 1, 7, 9], []⟩), (50, ⟨[], [7], []⟩)]⟩
def ft5 (n : Nat) : List (Nat × FEnt) := [(12, ⟨s12, F12 n⟩), (19, ⟨s19, F19 n⟩)]
def c5 (n : Nat) : Ctx := ⟨147, find? tys, find? (ft5 n), gls, [], [], []⟩
theorem e5 (n x) : execFn (c5 n) h5 n Go.Proofs.Try.f5 s5 x = F5 n x := by kernel_rfl
theorem fn5 : P.funcs[5]? = some Go.Proofs.Try.f5 := by kernel_rfl
theorem call5 : Callable P 5 := callB_ok (by kernel_rfl)
theorem S5 (A : Amb) (n : Nat) : Sound A P (c5 n) 5 s5 (F5 n) :=
  execFn_sound mixed (tab rfl) (ft_all (C := c5 n) (l := ft5 n) rfl ⟨⟨call12, (S12 A n).of rfl⟩, ⟨call19, (S19 A n).of rfl⟩, trivial⟩) fn5 fun x y h => (e5 n x).trans h
def s6 : Sig := ⟨[], [.val .bool]⟩
/-- rabbet/rabbetlaw16.ChangeForms -/
def F6 (n : Nat) (x : Unit) : Option ((Bool × Unit) × (Unit)) :=
  ((F12 n ()).bind fun (y1 : (Bool × Unit) × (Unit)) => (if (!y1.1.1) = true then (some ((false, ()), ())) else (iterF (fun rec3 (s2 : Int) => (if (decide (s2 < (([((1:Int), (0:Int), [110], (2:Int), ((2:Int), (9:Int), [], ()), (0:Int), (0:Int), ()), ((2:Int), (1:Int), [], (0:Int), ((0:Int), (0:Int), [], ()), (0:Int), (0:Int), ()), ((3:Int), (1:Int), [113], (0:Int), ((0:Int), (0:Int), [], ()), (0:Int), (0:Int), ()), ((4:Int), (1:Int), [], (0:Int), ((0:Int), (0:Int), [], ()), (0:Int), (0:Int), ()), ((4:Int), (3:Int), [], (0:Int), ((0:Int), (0:Int), [], ()), (0:Int), (0:Int), ()), ((5:Int), (2:Int), [117], (0:Int), ((0:Int), (0:Int), [], ()), (58:Int), (0:Int), ()), ((5:Int), (2:Int), [117], (0:Int), ((0:Int), (0:Int), [], ()), (122:Int), (0:Int), ()), ((6:Int), (1:Int), [], (0:Int), ((0:Int), (0:Int), [], ()), (0:Int), (0:Int), ()), ((9:Int), (1:Int), [], (0:Int), ((0:Int), (0:Int), [], ()), (0:Int), (2:Int), ())] : List (Int × Int × List Int × Int × (Int × Int × List Int × Unit) × Int × Int × Unit)).length : Int))) = true then (atI s2 (([((1:Int), (0:Int), [110], (2:Int), ((2:Int), (9:Int), [], ()), (0:Int), (0:Int), ()), ((2:Int), (1:Int), [], (0:Int), ((0:Int), (0:Int), [], ()), (0:Int), (0:Int), ()), ((3:Int), (1:Int), [113], (0:Int), ((0:Int), (0:Int), [], ()), (0:Int), (0:Int), ()), ((4:Int), (1:Int), [], (0:Int), ((0:Int), (0:Int), [], ()), (0:Int), (0:Int), ()), ((4:Int), (3:Int), [], (0:Int), ((0:Int), (0:Int), [], ()), (0:Int), (0:Int), ()), ((5:Int), (2:Int), [117], (0:Int), ((0:Int), (0:Int), [], ()), (58:Int), (0:Int), ()), ((5:Int), (2:Int), [117], (0:Int), ((0:Int), (0:Int), [], ()), (122:Int), (0:Int), ()), ((6:Int), (1:Int), [], (0:Int), ((0:Int), (0:Int), [], ()), (0:Int), (0:Int), ()), ((9:Int), (1:Int), [], (0:Int), ((0:Int), (0:Int), [], ()), (0:Int), (2:Int), ())] : List (Int × Int × List Int × Int × (Int × Int × List Int × Unit) × Int × Int × Unit)).length) ((F19 n ((([((1:Int), [115], (1:Int), ()), ((2:Int), [116], (4:Int), ()), ((3:Int), [98], (3:Int), ())] : List (Int × List Int × Int × Unit)), (3:Int), ()), (([((1:Int), (0:Int), [110], (2:Int), ((2:Int), (9:Int), [], ()), (0:Int), (0:Int), ()), ((2:Int), (1:Int), [], (0:Int), ((0:Int), (0:Int), [], ()), (0:Int), (0:Int), ()), ((3:Int), (1:Int), [113], (0:Int), ((0:Int), (0:Int), [], ()), (0:Int), (0:Int), ()), ((4:Int), (1:Int), [], (0:Int), ((0:Int), (0:Int), [], ()), (0:Int), (0:Int), ()), ((4:Int), (3:Int), [], (0:Int), ((0:Int), (0:Int), [], ()), (0:Int), (0:Int), ()), ((5:Int), (2:Int), [117], (0:Int), ((0:Int), (0:Int), [], ()), (58:Int), (0:Int), ()), ((5:Int), (2:Int), [117], (0:Int), ((0:Int), (0:Int), [], ()), (122:Int), (0:Int), ()), ((6:Int), (1:Int), [], (0:Int), ((0:Int), (0:Int), [], ()), (0:Int), (0:Int), ()), ((9:Int), (1:Int), [], (0:Int), ((0:Int), (0:Int), [], ()), (0:Int), (2:Int), ())] : List (Int × Int × List Int × Int × (Int × Int × List Int × Unit) × Int × Int × Unit)).getD s2.toNat ((0:Int), (0:Int), [], (0:Int), ((0:Int), (0:Int), [], ()), (0:Int), (0:Int), ())), ([((1:Int), (-7:Int), [], ()), ((4:Int), (0:Int), [120, 58, 58, 121], ()), ((3:Int), (1:Int), [], ())] : List (Int × Int × List Int × Unit)), ())).bind fun (y4 : ((List (Int × Int × List Int × Unit)) × Bool × Unit) × (Unit)) => (if (!y4.1.2.1) = true then (some ((false, ()), ())) else (atI s2 (([([((1:Int), (-7:Int), [], ()), ((4:Int), (0:Int), [120, 58, 58, 121], ()), ((3:Int), (1:Int), [], ()), ((2:Int), (9:Int), [], ())] : List (Int × Int × List Int × Unit)), ([((4:Int), (0:Int), [120, 58, 58, 121], ()), ((3:Int), (1:Int), [], ())] : List (Int × Int × List Int × Unit)), ([((1:Int), (-7:Int), [], ()), ((4:Int), (0:Int), [120, 58, 58, 121], ()), ((3:Int), (1:Int), [], ())] : List (Int × Int × List Int × Unit)), ([((2:Int), (-7:Int), [], ()), ((4:Int), (0:Int), [120, 58, 58, 121], ()), ((3:Int), (1:Int), [], ())] : List (Int × Int × List Int × Unit)), ([((1:Int), (-7:Int), [], ()), ((4:Int), (0:Int), [120, 58, 58, 121], ()), ((1:Int), (1:Int), [], ())] : List (Int × Int × List Int × Unit)), ([((1:Int), (-7:Int), [], ()), ((4:Int), (0:Int), [120], ()), ((4:Int), (0:Int), [58, 121], ()), ((3:Int), (1:Int), [], ())] : List (Int × Int × List Int × Unit)), ([((1:Int), (-7:Int), [], ()), ((4:Int), (0:Int), [120, 58, 58, 121], ()), ((0:Int), (0:Int), [], ()), ((3:Int), (1:Int), [], ())] : List (Int × Int × List Int × Unit)), ([((1:Int), (-7:Int), [], ()), ((4:Int), (0:Int), [120, 58, 58, 121], ()), ((3:Int), (1:Int), [], ())] : List (Int × Int × List Int × Unit)), ([((1:Int), (-7:Int), [], ()), ((4:Int), (0:Int), [120, 58, 58, 121], ()), ((3:Int), (1:Int), [], ())] : List (Int × Int × List Int × Unit))] : List (List (Int × Int × List Int × Unit))).length) ((F18 n (y4.1.1, (([([((1:Int), (-7:Int), [], ()), ((4:Int), (0:Int), [120, 58, 58, 121], ()), ((3:Int), (1:Int), [], ()), ((2:Int), (9:Int), [], ())] : List (Int × Int × List Int × Unit)), ([((4:Int), (0:Int), [120, 58, 58, 121], ()), ((3:Int), (1:Int), [], ())] : List (Int × Int × List Int × Unit)), ([((1:Int), (-7:Int), [], ()), ((4:Int), (0:Int), [120, 58, 58, 121], ()), ((3:Int), (1:Int), [], ())] : List (Int × Int × List Int × Unit)), ([((2:Int), (-7:Int), [], ()), ((4:Int), (0:Int), [120, 58, 58, 121], ()), ((3:Int), (1:Int), [], ())] : List (Int × Int × List Int × Unit)), ([((1:Int), (-7:Int), [], ()), ((4:Int), (0:Int), [120, 58, 58, 121], ()), ((1:Int), (1:Int), [], ())] : List (Int × Int × List Int × Unit)), ([((1:Int), (-7:Int), [], ()), ((4:Int), (0:Int), [120], ()), ((4:Int), (0:Int), [58, 121], ()), ((3:Int), (1:Int), [], ())] : List (Int × Int × List Int × Unit)), ([((1:Int), (-7:Int), [], ()), ((4:Int), (0:Int), [120, 58, 58, 121], ()), ((0:Int), (0:Int), [], ()), ((3:Int), (1:Int), [], ())] : List (Int × Int × List Int × Unit)), ([((1:Int), (-7:Int), [], ()), ((4:Int), (0:Int), [120, 58, 58, 121], ()), ((3:Int), (1:Int), [], ())] : List (Int × Int × List Int × Unit)), ([((1:Int), (-7:Int), [], ()), ((4:Int), (0:Int), [120, 58, 58, 121], ()), ((3:Int), (1:Int), [], ())] : List (Int × Int × List Int × Unit))] : List (List (Int × Int × List Int × Unit))).getD s2.toNat []), ())).bind fun (y5 : (Bool × Unit) × (Unit)) => (if (!y5.1.1) = true then (some ((false, ()), ())) else (rec3 (IntKind.i64.wrap (s2 + (1:Int)))))))))) else (atI (5:Int) (([((1:Int), (0:Int), [110], (2:Int), ((2:Int), (9:Int), [], ()), (0:Int), (0:Int), ()), ((2:Int), (1:Int), [], (0:Int), ((0:Int), (0:Int), [], ()), (0:Int), (0:Int), ()), ((3:Int), (1:Int), [113], (0:Int), ((0:Int), (0:Int), [], ()), (0:Int), (0:Int), ()), ((4:Int), (1:Int), [], (0:Int), ((0:Int), (0:Int), [], ()), (0:Int), (0:Int), ()), ((4:Int), (3:Int), [], (0:Int), ((0:Int), (0:Int), [], ()), (0:Int), (0:Int), ()), ((5:Int), (2:Int), [117], (0:Int), ((0:Int), (0:Int), [], ()), (58:Int), (0:Int), ()), ((5:Int), (2:Int), [117], (0:Int), ((0:Int), (0:Int), [], ()), (122:Int), (0:Int), ()), ((6:Int), (1:Int), [], (0:Int), ((0:Int), (0:Int), [], ()), (0:Int), (0:Int), ()), ((9:Int), (1:Int), [], (0:Int), ((0:Int), (0:Int), [], ()), (0:Int), (2:Int), ())] : List (Int × Int × List Int × Int × (Int × Int × List Int × Unit) × Int × Int × Unit)).length) ((F19 n ((([((1:Int), [115], (1:Int), ()), ((2:Int), [116], (4:Int), ()), ((3:Int), [98], (3:Int), ())] : List (Int × List Int × Int × Unit)), (3:Int), ()), (([((1:Int), (0:Int), [110], (2:Int), ((2:Int), (9:Int), [], ()), (0:Int), (0:Int), ()), ((2:Int), (1:Int), [], (0:Int), ((0:Int), (0:Int), [], ()), (0:Int), (0:Int), ()), ((3:Int), (1:Int), [113], (0:Int), ((0:Int), (0:Int), [], ()), (0:Int), (0:Int), ()), ((4:Int), (1:Int), [], (0:Int), ((0:Int), (0:Int), [], ()), (0:Int), (0:Int), ()), ((4:Int), (3:Int), [], (0:Int), ((0:Int), (0:Int), [], ()), (0:Int), (0:Int), ()), ((5:Int), (2:Int), [117], (0:Int), ((0:Int), (0:Int), [], ()), (58:Int), (0:Int), ()), ((5:Int), (2:Int), [117], (0:Int), ((0:Int), (0:Int), [], ()), (122:Int), (0:Int), ()), ((6:Int), (1:Int), [], (0:Int), ((0:Int), (0:Int), [], ()), (0:Int), (0:Int), ()), ((9:Int), (1:Int), [], (0:Int), ((0:Int), (0:Int), [], ()), (0:Int), (2:Int), ())] : List (Int × Int × List Int × Int × (Int × Int × List Int × Unit) × Int × Int × Unit)).getD (5:Int).toNat ((0:Int), (0:Int), [], (0:Int), ((0:Int), (0:Int), [], ()), (0:Int), (0:Int), ())), ([((0:Int), (0:Int), [], ()), ((0:Int), (0:Int), [], ()), ((0:Int), (0:Int), [], ())] : List (Int × Int × List Int × Unit)), ())).bind fun (y6 : ((List (Int × Int × List Int × Unit)) × Bool × Unit) × (Unit)) => ((F19 n ((([((1:Int), [115], (1:Int), ()), ((2:Int), [116], (4:Int), ()), ((3:Int), [98], (3:Int), ())] : List (Int × List Int × Int × Unit)), (3:Int), ()), ((2:Int), (9:Int), [], (0:Int), ((0:Int), (0:Int), [], ()), (0:Int), (0:Int), ()), ([((1:Int), (-7:Int), [], ()), ((4:Int), (0:Int), [120, 58, 58, 121], ()), ((3:Int), (1:Int), [], ())] : List (Int × Int × List Int × Unit)), ())).bind fun (y7 : ((List (Int × Int × List Int × Unit)) × Bool × Unit) × (Unit)) => (atI (0:Int) (([((1:Int), (0:Int), [110], (2:Int), ((2:Int), (9:Int), [], ()), (0:Int), (0:Int), ()), ((2:Int), (1:Int), [], (0:Int), ((0:Int), (0:Int), [], ()), (0:Int), (0:Int), ()), ((3:Int), (1:Int), [113], (0:Int), ((0:Int), (0:Int), [], ()), (0:Int), (0:Int), ()), ((4:Int), (1:Int), [], (0:Int), ((0:Int), (0:Int), [], ()), (0:Int), (0:Int), ()), ((4:Int), (3:Int), [], (0:Int), ((0:Int), (0:Int), [], ()), (0:Int), (0:Int), ()), ((5:Int), (2:Int), [117], (0:Int), ((0:Int), (0:Int), [], ()), (58:Int), (0:Int), ()), ((5:Int), (2:Int), [117], (0:Int), ((0:Int), (0:Int), [], ()), (122:Int), (0:Int), ()), ((6:Int), (1:Int), [], (0:Int), ((0:Int), (0:Int), [], ()), (0:Int), (0:Int), ()), ((9:Int), (1:Int), [], (0:Int), ((0:Int), (0:Int), [], ()), (0:Int), (2:Int), ())] : List (Int × Int × List Int × Int × (Int × Int × List Int × Unit) × Int × Int × Unit)).length) (if 0 ≤ (2:Int) ∧ (2:Int) ≤ (([((1:Int), (-7:Int), [], ()), ((4:Int), (0:Int), [120, 58, 58, 121], ()), ((3:Int), (1:Int), [], ())] : List (Int × Int × List Int × Unit)).length : Int) then ((F19 n ((([((1:Int), [115], (1:Int), ()), ((2:Int), [116], (4:Int), ()), ((3:Int), [98], (3:Int), ())] : List (Int × List Int × Int × Unit)), (3:Int), ()), (([((1:Int), (0:Int), [110], (2:Int), ((2:Int), (9:Int), [], ()), (0:Int), (0:Int), ()), ((2:Int), (1:Int), [], (0:Int), ((0:Int), (0:Int), [], ()), (0:Int), (0:Int), ()), ((3:Int), (1:Int), [113], (0:Int), ((0:Int), (0:Int), [], ()), (0:Int), (0:Int), ()), ((4:Int), (1:Int), [], (0:Int), ((0:Int), (0:Int), [], ()), (0:Int), (0:Int), ()), ((4:Int), (3:Int), [], (0:Int), ((0:Int), (0:Int), [], ()), (0:Int), (0:Int), ()), ((5:Int), (2:Int), [117], (0:Int), ((0:Int), (0:Int), [], ()), (58:Int), (0:Int), ()), ((5:Int), (2:Int), [117], (0:Int), ((0:Int), (0:Int), [], ()), (122:Int), (0:Int), ()), ((6:Int), (1:Int), [], (0:Int), ((0:Int), (0:Int), [], ()), (0:Int), (0:Int), ()), ((9:Int), (1:Int), [], (0:Int), ((0:Int), (0:Int), [], ()), (0:Int), (2:Int), ())] : List (Int × Int × List Int × Int × (Int × Int × List Int × Unit) × Int × Int × Unit)).getD (0:Int).toNat ((0:Int), (0:Int), [], (0:Int), ((0:Int), (0:Int), [], ()), (0:Int), (0:Int), ())), ((([((1:Int), (-7:Int), [], ()), ((4:Int), (0:Int), [120, 58, 58, 121], ()), ((3:Int), (1:Int), [], ())] : List (Int × Int × List Int × Unit)).take (2:Int).toNat).drop (0:Int).toNat), ())).bind fun (y8 : ((List (Int × Int × List Int × Unit)) × Bool × Unit) × (Unit)) => (atI (0:Int) (([((1:Int), (0:Int), [110], (2:Int), ((2:Int), (9:Int), [], ()), (0:Int), (0:Int), ()), ((2:Int), (1:Int), [], (0:Int), ((0:Int), (0:Int), [], ()), (0:Int), (0:Int), ()), ((3:Int), (1:Int), [113], (0:Int), ((0:Int), (0:Int), [], ()), (0:Int), (0:Int), ()), ((4:Int), (1:Int), [], (0:Int), ((0:Int), (0:Int), [], ()), (0:Int), (0:Int), ()), ((4:Int), (3:Int), [], (0:Int), ((0:Int), (0:Int), [], ()), (0:Int), (0:Int), ()), ((5:Int), (2:Int), [117], (0:Int), ((0:Int), (0:Int), [], ()), (58:Int), (0:Int), ()), ((5:Int), (2:Int), [117], (0:Int), ((0:Int), (0:Int), [], ()), (122:Int), (0:Int), ()), ((6:Int), (1:Int), [], (0:Int), ((0:Int), (0:Int), [], ()), (0:Int), (0:Int), ()), ((9:Int), (1:Int), [], (0:Int), ((0:Int), (0:Int), [], ()), (0:Int), (2:Int), ())] : List (Int × Int × List Int × Int × (Int × Int × List Int × Unit) × Int × Int × Unit)).length) (if 0 ≤ (2:Int) ∧ (2:Int) ≤ (([((1:Int), (-7:Int), [], ()), ((4:Int), (0:Int), [120, 58, 58, 121], ()), ((3:Int), (1:Int), [], ())] : List (Int × Int × List Int × Unit)).length : Int) then ((F16 n ((([((1:Int), [115], (1:Int), ()), ((2:Int), [116], (4:Int), ()), ((3:Int), [98], (3:Int), ())] : List (Int × List Int × Int × Unit)), (3:Int), ()), (([((1:Int), (0:Int), [110], (2:Int), ((2:Int), (9:Int), [], ()), (0:Int), (0:Int), ()), ((2:Int), (1:Int), [], (0:Int), ((0:Int), (0:Int), [], ()), (0:Int), (0:Int), ()), ((3:Int), (1:Int), [113], (0:Int), ((0:Int), (0:Int), [], ()), (0:Int), (0:Int), ()), ((4:Int), (1:Int), [], (0:Int), ((0:Int), (0:Int), [], ()), (0:Int), (0:Int), ()), ((4:Int), (3:Int), [], (0:Int), ((0:Int), (0:Int), [], ()), (0:Int), (0:Int), ()), ((5:Int), (2:Int), [117], (0:Int), ((0:Int), (0:Int), [], ()), (58:Int), (0:Int), ()), ((5:Int), (2:Int), [117], (0:Int), ((0:Int), (0:Int), [], ()), (122:Int), (0:Int), ()), ((6:Int), (1:Int), [], (0:Int), ((0:Int), (0:Int), [], ()), (0:Int), (0:Int), ()), ((9:Int), (1:Int), [], (0:Int), ((0:Int), (0:Int), [], ()), (0:Int), (2:Int), ())] : List (Int × Int × List Int × Int × (Int × Int × List Int × Unit) × Int × Int × Unit)).getD (0:Int).toNat ((0:Int), (0:Int), [], (0:Int), ((0:Int), (0:Int), [], ()), (0:Int), (0:Int), ())), ([([((1:Int), (-7:Int), [], ()), ((4:Int), (0:Int), [120, 58, 58, 121], ()), ((3:Int), (1:Int), [], ())] : List (Int × Int × List Int × Unit)), ((([((1:Int), (-7:Int), [], ()), ((4:Int), (0:Int), [120, 58, 58, 121], ()), ((3:Int), (1:Int), [], ())] : List (Int × Int × List Int × Unit)).take (2:Int).toNat).drop (0:Int).toNat)] : List (List (Int × Int × List Int × Unit))), ())).bind fun (y9 : ((List (List (Int × Int × List Int × Unit))) × Bool × Unit) × (Unit)) => (atI (1:Int) (([((1:Int), (0:Int), [110], (2:Int), ((2:Int), (9:Int), [], ()), (0:Int), (0:Int), ()), ((2:Int), (1:Int), [], (0:Int), ((0:Int), (0:Int), [], ()), (0:Int), (0:Int), ()), ((3:Int), (1:Int), [113], (0:Int), ((0:Int), (0:Int), [], ()), (0:Int), (0:Int), ()), ((4:Int), (1:Int), [], (0:Int), ((0:Int), (0:Int), [], ()), (0:Int), (0:Int), ()), ((4:Int), (3:Int), [], (0:Int), ((0:Int), (0:Int), [], ()), (0:Int), (0:Int), ()), ((5:Int), (2:Int), [117], (0:Int), ((0:Int), (0:Int), [], ()), (58:Int), (0:Int), ()), ((5:Int), (2:Int), [117], (0:Int), ((0:Int), (0:Int), [], ()), (122:Int), (0:Int), ()), ((6:Int), (1:Int), [], (0:Int), ((0:Int), (0:Int), [], ()), (0:Int), (0:Int), ()), ((9:Int), (1:Int), [], (0:Int), ((0:Int), (0:Int), [], ()), (0:Int), (2:Int), ())] : List (Int × Int × List Int × Int × (Int × Int × List Int × Unit) × Int × Int × Unit)).length) ((F16 n ((([((1:Int), [115], (1:Int), ()), ((2:Int), [116], (4:Int), ()), ((3:Int), [98], (3:Int), ())] : List (Int × List Int × Int × Unit)), (3:Int), ()), (([((1:Int), (0:Int), [110], (2:Int), ((2:Int), (9:Int), [], ()), (0:Int), (0:Int), ()), ((2:Int), (1:Int), [], (0:Int), ((0:Int), (0:Int), [], ()), (0:Int), (0:Int), ()), ((3:Int), (1:Int), [113], (0:Int), ((0:Int), (0:Int), [], ()), (0:Int), (0:Int), ()), ((4:Int), (1:Int), [], (0:Int), ((0:Int), (0:Int), [], ()), (0:Int), (0:Int), ()), ((4:Int), (3:Int), [], (0:Int), ((0:Int), (0:Int), [], ()), (0:Int), (0:Int), ()), ((5:Int), (2:Int), [117], (0:Int), ((0:Int), (0:Int), [], ()), (58:Int), (0:Int), ()), ((5:Int), (2:Int), [117], (0:Int), ((0:Int), (0:Int), [], ()), (122:Int), (0:Int), ()), ((6:Int), (1:Int), [], (0:Int), ((0:Int), (0:Int), [], ()), (0:Int), (0:Int), ()), ((9:Int), (1:Int), [], (0:Int), ((0:Int), (0:Int), [], ()), (0:Int), (2:Int), ())] : List (Int × Int × List Int × Int × (Int × Int × List Int × Unit) × Int × Int × Unit)).getD (1:Int).toNat ((0:Int), (0:Int), [], (0:Int), ((0:Int), (0:Int), [], ()), (0:Int), (0:Int), ())), [], ())).bind fun (y10 : ((List (List (Int × Int × List Int × Unit))) × Bool × Unit) × (Unit)) => (if y6.1.2.1 = true then (if (decide ((y6.1.1.length : Int) = (4:Int))) = true then (atI (1:Int) y6.1.1.length (if ((decide ((y6.1.1.getD (1:Int).toNat ((0:Int), (0:Int), [], ())).1 = (0:Int))) && ((decide (((y6.1.1.getD (1:Int).toNat ((0:Int), (0:Int), [], ())).2).1 = (0:Int))) && (decide ((((y6.1.1.getD (1:Int).toNat ((0:Int), (0:Int), [], ())).2).2).1 = [])))) = true then (atI (2:Int) y6.1.1.length (if ((decide ((y6.1.1.getD (2:Int).toNat ((0:Int), (0:Int), [], ())).1 = (0:Int))) && ((decide (((y6.1.1.getD (2:Int).toNat ((0:Int), (0:Int), [], ())).2).1 = (0:Int))) && (decide ((((y6.1.1.getD (2:Int).toNat ((0:Int), (0:Int), [], ())).2).2).1 = [])))) = true then (if (!y7.1.2.1) = true then (if (!y8.1.2.1) = true then (if (!y9.1.2.1) = true then (if y10.1.2.1 = true then (some (((decide ((y10.1.1.length : Int) = (0:Int))), ()), ())) else (some ((false, ()), ()))) else (some ((false, ()), ()))) else (some ((false, ()), ()))) else (some ((false, ()), ()))) else (some ((false, ()), ())))) else (some ((false, ()), ())))) else (some ((false, ()), ()))) else (some ((false, ()), ())))))) else none))) else none))))))) n (0:Int))))
def h6 : Hints := ⟨[(0, ⟨[(8, .val tI)], [1, 5, 6, 7], []⟩)], []⟩
def ft6 (n : Nat) : List (Nat × FEnt) := [(12, ⟨s12, F12 n⟩), (16, ⟨s16, F16 n⟩), (18, ⟨s18, F18 n⟩), (19, ⟨s19, F19 n⟩)]
def c6 (n : Nat) : Ctx := ⟨192, find? tys, find? (ft6 n), gls, [], [], []⟩
theorem e6 (n x) : execFn (c6 n) h6 n Go.Proofs.Try.f6 s6 x = F6 n x := by kernel_rfl
theorem fn6 : P.funcs[6]? = some Go.Proofs.Try.f6 := by kernel_rfl
theorem call6 : Callable P 6 := callB_ok (by kernel_rfl)
theorem S6 (A : Amb) (n : Nat) : Sound A P (c6 n) 6 s6 (F6 n) :=
  execFn_sound mixed (tab rfl) (ft_all (C := c6 n) (l := ft6 n) rfl ⟨⟨call12, (S12 A n).of rfl⟩, ⟨call16, (S16 A n).of rfl⟩, ⟨call18, (S18 A n).of rfl⟩, ⟨call19, (S19 A n).of rfl⟩, trivial⟩) fn6 fun x y h => (e6 n x).trans h
end Go.Rb.S1
