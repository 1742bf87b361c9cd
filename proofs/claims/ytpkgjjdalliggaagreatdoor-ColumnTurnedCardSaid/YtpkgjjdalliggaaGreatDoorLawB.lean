/- The functions that the law runs, as pure functions; that their code is computed so, and their contracts. Printed by a program of our own. -/
import Derived.Test.YtpkgjjdalliggaaGreatDoorLawA
import Derived.Laws.Externs
import Derived.Lib.Walk
import Derived.RowKitTokens
import Derived.Shelf.RegionOpenPlain
import Derived.Test.YtpkgjjdalliggaaGreatDoorRbI
import Derived.WalkKit
set_option autoImplicit false
set_option linter.unusedVariables false
set_option linter.unusedSimpArgs false
namespace Go.Rb.R4
open Go.Rb
open Go.RowKit
set_option maxRecDepth 100000
def a2t : List Int := [0, 1, 2, 2, 3, 3, 3, 3, 4, 4, 4, 4, 4, 4, 4, 4, 5, 5, 5, 5, 5, 5, 5, 5, 5, 5, 5, 5, 5, 5, 5, 5, 6, 6, 6, 6, 6, 6, 6, 6, 6, 6, 6, 6, 6, 6, 6, 6, 6, 6, 6, 6, 6, 6, 6, 6, 6, 6, 6, 6, 6, 6, 6, 6, 7, 7, 7, 7, 7, 7, 7, 7, 7, 7, 7, 7, 7, 7, 7, 7, 7, 7, 7, 7, 7, 7, 7, 7, 7, 7, 7, 7, 7, 7, 7, 7, 7, 7, 7, 7, 7, 7, 7, 7, 7, 7, 7, 7, 7, 7, 7, 7, 7, 7, 7, 7, 7, 7, 7, 7, 7, 7, 7, 7, 7, 7, 7, 7, 8, 8, 8, 8, 8, 8, 8, 8, 8, 8, 8, 8, 8, 8, 8, 8, 8, 8, 8, 8, 8, 8, 8, 8, 8, 8, 8, 8, 8, 8, 8, 8, 8, 8, 8, 8, 8, 8, 8, 8, 8, 8, 8, 8, 8, 8, 8, 8, 8, 8, 8, 8, 8, 8, 8, 8, 8, 8, 8, 8, 8, 8, 8, 8, 8, 8, 8, 8, 8, 8, 8, 8, 8, 8, 8, 8, 8, 8, 8, 8, 8, 8, 8, 8, 8, 8, 8, 8, 8, 8, 8, 8, 8, 8, 8, 8, 8, 8, 8, 8, 8, 8, 8, 8, 8, 8, 8, 8, 8, 8, 8, 8, 8, 8, 8, 8, 8, 8, 8, 8, 8, 8, 8, 8, 8, 8, 8, 8]
def s19 : Sig := ⟨[.val tI, .val tI], [.val tI, .val .bool]⟩
def a2p (n : Nat) (x : Int × Int × Unit) : Option ((Int × Bool × Unit) × (Unit)) :=
 (if (decide (x.2.1 < 1)) = true then (some (((0:Int), false, ()), ())) else (if (decide ((4:Int) < x.2.1)) = true then (some (((0:Int), false, ()), ())) else (if (decide (x.1 = 5)) = true then (if (decide (x.2.1 = 1)) = true then (some (((5:Int), true, ()), ())) else (if (decide (x.2.1 = 2)) = true then (some (((5:Int), true, ()), ())) else (if (!decide (x.2.1 = (4:Int))) = true then (some (((4:Int), true, ()), ())) else (some (((3:Int), true, ()), ()))))) else (if (decide (x.1 = 4)) = true then (if (!decide (x.2.1 = (4:Int))) = true then (some (((4:Int), true, ()), ())) else (some (((3:Int), true, ()), ()))) else (if (decide (x.1 = 3)) = true then (some (((3:Int), true, ()), ())) else (if (decide (x.1 = 2)) = true then (some ((x.1, true, ()), ())) else (if (decide (x.1 = 1)) = true then (some ((x.1, true, ()), ())) else (some (((0:Int), false, ()), ())))))))))
def h19 : Hints := ⟨[], []⟩
def ft19 (n : Nat) : List (Nat × FEnt) := []
def c19 (n : Nat) : Ctx := ⟨31, find? tys, find? (ft19 n), gls, [], [], []⟩
theorem e19 (n x) : a0m (c19 n) h19 n Go.Proofs.Tryz.f19 s19 x = a2p n x := by kernel_rfl
theorem fn19 : P.funcs[19]? = some Go.Proofs.Tryz.f19 := by kernel_rfl
theorem f2q : a0b P 19 := a0d (by kernel_rfl)
theorem S19 (A : Amb) (n : Nat) : a0s A P (c19 n) 19 s19 (a2p n) :=
 a0a mixed (tab rfl) (a0o (C := c19 n) (l := ft19 n) rfl trivial) fn19 fun x y h => (e19 n x).trans h
def s64 : Sig := ⟨[.val (.st (.pair tI (.pair tI (.pair .str .unit))))], [.val .bool]⟩
def a2r (n : Nat) (x : V4 × Unit) : Option ((Bool × Unit) × (Unit)) :=
 (if (decide (x.1.1 = 1)) = true then (if (decide (x.1.2.1 < (-32768:Int))) = true then (some ((false, ()), ())) else (if (decide ((32767:Int) < x.1.2.1)) = true then (some ((false, ()), ())) else (some (((decide (x.1.2.2.1 = [])), ()), ())))) else (if (decide (x.1.1 = 2)) = true then (some (((decide (x.1.2.2.1 = [])), ()), ())) else (if (decide (x.1.1 = 0)) = true then (if (decide (x.1.2.1 = 0)) = true then (some (((decide (x.1.2.2.1 = [])), ()), ())) else (some ((false, ()), ()))) else (if (decide (x.1.1 = 3)) = true then (if (decide (x.1.2.1 = 0)) = true then (some (((decide (x.1.2.2.1 = [])), ()), ())) else (if (decide (x.1.2.1 = 1)) = true then (some (((decide (x.1.2.2.1 = [])), ()), ())) else (some ((false, ()), ())))) else (if (decide (x.1.1 = 4)) = true then (if (decide (x.1.2.1 = 0)) = true then (some (((decide ((x.1.2.2.1.length : Int) ≤ 20)), ()), ())) else (some ((false, ()), ()))) else (some ((false, ()), ())))))))
def h64 : Hints := ⟨[], []⟩
def ft64 (n : Nat) : List (Nat × FEnt) := []
def c64 (n : Nat) : Ctx := ⟨56, find? tys, find? (ft64 n), gls, [], [1], []⟩
theorem e64 (n x) : a0m (c64 n) h64 n Go.Proofs.Tryz.f64 s64 x = a2r n x := by kernel_rfl
theorem fn64 : P.funcs[64]? = some Go.Proofs.Tryz.f64 := by kernel_rfl
theorem d0q : a0b P 64 := a0d (by kernel_rfl)
theorem S64 (A : Amb) (n : Nat) : a0s A P (c64 n) 64 s64 (a2r n) :=
 a0a mixed (tab rfl) (a0o (C := c64 n) (l := ft64 n) rfl trivial) fn64 fun x y h => (e64 n x).trans h
def s28 : Sig := ⟨[.val tI, .val (.sl .imm 32 (.st (.pair tI (.pair tI (.pair .str .unit)))))], [.val .bool]⟩
def b4z (n : Nat) (x : Int × (List V4) × Unit) : Option ((Bool × Unit) × (Unit)) :=
 (if (decide (x.1 < 1)) = true then (some ((false, ()), ())) else (if (decide ((4:Int) < x.1)) = true then (some ((false, ()), ())) else (a1d (fun rec2 (s1 : Int) => (if (decide (s1 < (x.2.1.length : Int))) = true then (atI s1 x.2.1.length (if (!decide ((x.2.1.getD s1.toNat ((0:Int), (0:Int), [], ())).1 = x.1)) = true then (some ((false, ()), ())) else ((a2r n ((x.2.1.getD s1.toNat ((0:Int), (0:Int), [], ())), ())).bind fun y3 => (if (!y3.1.1) = true then (some ((false, ()), ())) else (rec2 (IntKind.i64.wrap (s1 + 1))))))) else (some ((true, ()), ())))) n (0:Int))))
def h28 : Hints := ⟨[(0, ⟨[(15, .val tI)], [0, 13, 14], []⟩)], []⟩
def ft28 (n : Nat) : List (Nat × FEnt) := [(64, ⟨s64, a2r n⟩)]
def c28 (n : Nat) : Ctx := ⟨29, find? tys, find? (ft28 n), gls, [], [], []⟩
theorem e28 (n x) : a0m (c28 n) h28 n Go.Proofs.Tryz.f28 s28 x = b4z n x := by kernel_rfl
theorem fn28 : P.funcs[28]? = some Go.Proofs.Tryz.f28 := by kernel_rfl
theorem f6a : a0b P 28 := a0d (by kernel_rfl)
theorem S28 (A : Amb) (n : Nat) : a0s A P (c28 n) 28 s28 (b4z n) :=
 a0a mixed (tab rfl) (a0o (C := c28 n) (l := ft28 n) rfl ⟨⟨d0q, (S64 A n).of rfl⟩, trivial⟩) fn28 fun x y h => (e28 n x).trans h
def s110 : Sig := ⟨[.val tI], [.val .bool]⟩
def a6p (n : Nat) (x : Int × Unit) : Option ((Bool × Unit) × (Unit)) :=
 (some (((!decide (x.1 = x.1)), ()), ()))
def h110 : Hints := ⟨[], []⟩
def f8n (n : Nat) : List (Nat × FEnt) := []
def c110 (n : Nat) : Ctx := ⟨6, find? tys, find? (f8n n), gls, [], [], []⟩
theorem e110 (n x) : a0m (c110 n) h110 n Go.Proofs.Tryz.f110 s110 x = a6p n x := by kernel_rfl
theorem S110 (A : Amb) (n : Nat) : a0s A P (c110 n) 110 s110 (a6p n) :=
 a0a mixed (tab rfl) (a0o (C := c110 n) (l := f8n n) rfl trivial) f6j fun x y h => (e110 n x).trans h
def s67 : Sig := ⟨[.val tI, .val tI], [.val tI]⟩
def a6q (n : Nat) (x : Int × Int × Unit) : Option ((Int × Unit) × (Unit)) :=
 ((a6p n (x.1, ())).bind fun y1 => ((a6p n (x.2.1, ())).bind fun y2 => (if y1.1.1 = true then (if y2.1.1 = true then (some (((0:Int), ()), ())) else (some (((-1:Int), ()), ()))) else (if y2.1.1 = true then (some (((1:Int), ()), ())) else (if (decide (x.1 < x.2.1)) = true then (some (((-1:Int), ()), ())) else (if (decide (x.2.1 < x.1)) = true then (some (((1:Int), ()), ())) else (some (((0:Int), ()), ()))))))))
def h67 : Hints := ⟨[], []⟩
def ft67 (n : Nat) : List (Nat × FEnt) := [(110, ⟨s110, a6p n⟩)]
def c67 (n : Nat) : Ctx := ⟨20, find? tys, find? (ft67 n), gls, [], [], []⟩
theorem e67 (n x) : a0m (c67 n) h67 n Go.Proofs.Tryz.f67 s67 x = a6q n x := by kernel_rfl
theorem S67 (A : Amb) (n : Nat) : a0s A P (c67 n) 67 s67 (a6q n) :=
 a0a mixed (tab rfl) (a0o (C := c67 n) (l := ft67 n) rfl ⟨⟨f4z, (S110 A n).of rfl⟩, trivial⟩) fn67 fun x y h => (e67 n x).trans h
def s68 : Sig := ⟨[.val (.st (.pair tI (.pair tI (.pair .str .unit))))], [.val tI]⟩
def b0a (n : Nat) (x : V4 × Unit) : Option ((Int × Unit) × (Unit)) :=
 (if (decide (x.1.1 = 0)) = true then (some (((0:Int), ()), ())) else (if (decide (x.1.1 = 4)) = true then (some (((2:Int), ()), ())) else (some (((1:Int), ()), ()))))
def h68 : Hints := ⟨[], []⟩
def ft68 (n : Nat) : List (Nat × FEnt) := []
def c68 (n : Nat) : Ctx := ⟨9, find? tys, find? (ft68 n), gls, [], [1], []⟩
theorem e68 (n x) : a0m (c68 n) h68 n Go.Proofs.Tryz.f68 s68 x = b0a n x := by kernel_rfl
theorem S68 (A : Amb) (n : Nat) : a0s A P (c68 n) 68 s68 (b0a n) :=
 a0a mixed (tab rfl) (a0o (C := c68 n) (l := ft68 n) rfl trivial) fn68 fun x y h => (e68 n x).trans h
def s69 : Sig := ⟨[.val .str, .val .str], [.val tI]⟩
def a6u (n : Nat) (x : List Int × List Int × Unit) : Option ((Int × Unit) × (Unit)) :=
 ((a4x n (x.1, x.2.1, ())).bind fun y1 => (some ((y1.1.1, ()), ())))
def h69 : Hints := ⟨[], []⟩
def ft69 (n : Nat) : List (Nat × FEnt) := [(111, ⟨s111, a4x n⟩)]
def c69 (n : Nat) : Ctx := ⟨8, find? tys, find? (ft69 n), gls, [], [], []⟩
theorem e69 (n x) : a0m (c69 n) h69 n Go.Proofs.Tryz.f69 s69 x = a6u n x := by kernel_rfl
theorem S69 (A : Amb) (n : Nat) : a0s A P (c69 n) 69 s69 (a6u n) :=
 a0a mixed (tab rfl) (a0o (C := c69 n) (l := ft69 n) rfl ⟨⟨f5j, (S111 A n).of rfl⟩, trivial⟩) fn69 fun x y h => (e69 n x).trans h
def s112 : Sig := ⟨[.val tI], [.val .bool]⟩
def a5f (n : Nat) (x : Int × Unit) : Option ((Bool × Unit) × (Unit)) :=
 (some (((!decide (x.1 = x.1)), ()), ()))
def h112 : Hints := ⟨[], []⟩
def f6f (n : Nat) : List (Nat × FEnt) := []
def c112 (n : Nat) : Ctx := ⟨6, find? tys, find? (f6f n), gls, [], [], []⟩
theorem e112 (n x) : a0m (c112 n) h112 n Go.Proofs.Tryz.f112 s112 x = a5f n x := by kernel_rfl
theorem S112 (A : Amb) (n : Nat) : a0s A P (c112 n) 112 s112 (a5f n) :=
 a0a mixed (tab rfl) (a0o (C := c112 n) (l := f6f n) rfl trivial) f6x fun x y h => (e112 n x).trans h
def s70 : Sig := ⟨[.val tI, .val tI], [.val tI]⟩
def a5o (n : Nat) (x : Int × Int × Unit) : Option ((Int × Unit) × (Unit)) :=
 ((a5f n (x.1, ())).bind fun y1 => ((a5f n (x.2.1, ())).bind fun y2 => (if y1.1.1 = true then (if y2.1.1 = true then (some (((0:Int), ()), ())) else (some (((-1:Int), ()), ()))) else (if y2.1.1 = true then (some (((1:Int), ()), ())) else (if (decide (x.1 < x.2.1)) = true then (some (((-1:Int), ()), ())) else (if (decide (x.2.1 < x.1)) = true then (some (((1:Int), ()), ())) else (some (((0:Int), ()), ()))))))))
def h70 : Hints := ⟨[], []⟩
def ft70 (n : Nat) : List (Nat × FEnt) := [(112, ⟨s112, a5f n⟩)]
def c70 (n : Nat) : Ctx := ⟨20, find? tys, find? (ft70 n), gls, [], [], []⟩
theorem e70 (n x) : a0m (c70 n) h70 n Go.Proofs.Tryz.f70 s70 x = a5o n x := by kernel_rfl
theorem S70 (A : Amb) (n : Nat) : a0s A P (c70 n) 70 s70 (a5o n) :=
 a0a mixed (tab rfl) (a0o (C := c70 n) (l := ft70 n) rfl ⟨⟨f5f, (S112 A n).of rfl⟩, trivial⟩) fn70 fun x y h => (e70 n x).trans h
def s31 : Sig := ⟨[.val (.st (.pair tI (.pair tI (.pair .str .unit)))), .val (.st (.pair tI (.pair tI (.pair .str .unit))))], [.val tI]⟩
def a5h (n : Nat) (x : V4 × V4 × Unit) : Option ((Int × Unit) × (Unit)) :=
 ((b0a n (x.1, ())).bind fun y1 => ((b0a n (x.2.1, ())).bind fun y2 => ((a6q n (y1.1.1, y2.1.1, ())).bind fun y3 => (if (!decide (y3.1.1 = (0:Int))) = true then (some ((y3.1.1, ()), ())) else (if (decide (x.1.1 = 0)) = true then (some ((y3.1.1, ()), ())) else (if (decide (x.1.1 = 4)) = true then ((a6u n (x.1.2.2.1, x.2.1.2.2.1, ())).bind fun y4 => (some ((y4.1.1, ()), ()))) else ((a5o n (x.1.2.1, x.2.1.2.1, ())).bind fun y5 => (some ((y5.1.1, ()), ())))))))))
def h31 : Hints := ⟨[], []⟩
def ft31 (n : Nat) : List (Nat × FEnt) := [(67, ⟨s67, a6q n⟩), (68, ⟨s68, b0a n⟩), (69, ⟨s69, a6u n⟩), (70, ⟨s70, a5o n⟩)]
def c31 (n : Nat) : Ctx := ⟨32, find? tys, find? (ft31 n), gls, [], [2, 3], []⟩
theorem e31 (n x) : a0m (c31 n) h31 n Go.Proofs.Tryz.f31 s31 x = a5h n x := by kernel_rfl
theorem S31 (A : Amb) (n : Nat) : a0s A P (c31 n) 31 s31 (a5h n) :=
 a0a mixed (tab rfl) (a0o (C := c31 n) (l := ft31 n) rfl ⟨⟨f7k, (S67 A n).of rfl⟩, ⟨f8u, (S68 A n).of rfl⟩, ⟨f6b, (S69 A n).of rfl⟩, ⟨f8j, (S70 A n).of rfl⟩, trivial⟩) fn31 fun x y h => (e31 n x).trans h
def s33 : Sig := ⟨[.val tU], [.val (.sl .own 1 tB)]⟩
def a3r (n : Nat) (x : Int × Unit) : Option ((List Int × Unit) × (Unit)) :=
 (a1d (fun rec2 (s1 : Int × List Int) => (if (decide ((127:Int) < s1.1)) = true then (if (s1.2.length + [(bits .or .u8 (IntKind.u8.wrap s1.1) (128:Int))].length) * 1 ≤ room then (rec2 ((s1.1.fdiv (2 ^ min (7:Int).toNat IntKind.u64.bits)), (s1.2 ++ [(bits .or .u8 (IntKind.u8.wrap s1.1) (128:Int))]))) else none) else (if (s1.2.length + [(IntKind.u8.wrap s1.1)].length) * 1 ≤ room then (some (((s1.2 ++ [(IntKind.u8.wrap s1.1)]), ()), ())) else none))) n (x.1, []))
def h33 : Hints := ⟨[(0, ⟨[(0, .val tU), (2, .val (.sl .own 1 tB))], [], []⟩)], []⟩
def ft33 (n : Nat) : List (Nat × FEnt) := []
def c33 (n : Nat) : Ctx := ⟨18, find? tys, find? (ft33 n), gls, [], [], []⟩
theorem e33 (n x) : a0m (c33 n) h33 n Go.Proofs.Tryz.f33 s33 x = a3r n x := by kernel_rfl
theorem fn33 : P.funcs[33]? = some Go.Proofs.Tryz.f33 := by kernel_rfl
theorem c8r : a0b P 33 := a0d (by kernel_rfl)
theorem S33 (A : Amb) (n : Nat) : a0s A P (c33 n) 33 s33 (a3r n) :=
 a0a mixed (tab rfl) (a0o (C := c33 n) (l := ft33 n) rfl trivial) fn33 fun x y h => (e33 n x).trans h
def s71 : Sig := ⟨[.val tI], [.val tU]⟩
def a5n (n : Nat) (x : Int × Unit) : Option ((Int × Unit) × (Unit)) :=
 (some (((bits .xor .u64 (IntKind.u64.wrap ((IntKind.u64.wrap x.1) * 2 ^ min (1:Int).toNat IntKind.u64.bits)) (IntKind.u64.wrap (x.1.fdiv (2 ^ min (63:Int).toNat IntKind.i64.bits)))), ()), ()))
def h71 : Hints := ⟨[], []⟩
def ft71 (n : Nat) : List (Nat × FEnt) := []
def c71 (n : Nat) : Ctx := ⟨10, find? tys, find? (ft71 n), gls, [], [], []⟩
theorem e71 (n x) : a0m (c71 n) h71 n Go.Proofs.Tryz.f71 s71 x = a5n n x := by kernel_rfl
theorem fn71 : P.funcs[71]? = some Go.Proofs.Tryz.f71 := by kernel_rfl
theorem d6j : a0b P 71 := a0d (by kernel_rfl)
theorem S71 (A : Amb) (n : Nat) : a0s A P (c71 n) 71 s71 (a5n n) :=
 a0a mixed (tab rfl) (a0o (C := c71 n) (l := ft71 n) rfl trivial) fn71 fun x y h => (e71 n x).trans h
def s34 : Sig := ⟨[.val (.sl .own 1 tB), .val (.st (.pair tI (.pair tI (.pair .str .unit))))], [.val (.sl .own 1 tB)]⟩
def b2x (n : Nat) (x : List Int × V4 × Unit) : Option ((List Int × Unit) × (Unit)) :=
 (if (decide (x.2.1.1 = 3)) = true then (if (x.1.length + [(IntKind.u8.wrap x.2.1.2.1)].length) * 1 ≤ room then (some (((x.1 ++ [(IntKind.u8.wrap x.2.1.2.1)]), ()), ())) else none) else (if (decide (x.2.1.1 = 4)) = true then (if (x.1.length + [(IntKind.u8.wrap (x.2.1.2.2.1.length : Int))].length) * 1 ≤ room then (if ((x.1 ++ [(IntKind.u8.wrap (x.2.1.2.2.1.length : Int))]).length + x.2.1.2.2.1.length) * 1 ≤ room then (some ((((x.1 ++ [(IntKind.u8.wrap (x.2.1.2.2.1.length : Int))]) ++ x.2.1.2.2.1), ()), ())) else none) else none) else ((a5n n (x.2.1.2.1, ())).bind fun y1 => ((a3r n (y1.1.1, ())).bind fun y2 => (if (x.1.length + y2.1.1.length) * 1 ≤ room then (some (((x.1 ++ y2.1.1), ()), ())) else none)))))
def h34 : Hints := ⟨[], []⟩
def ft34 (n : Nat) : List (Nat × FEnt) := [(33, ⟨s33, a3r n⟩), (71, ⟨s71, a5n n⟩)]
def c34 (n : Nat) : Ctx := ⟨33, find? tys, find? (ft34 n), gls, [], [3], []⟩
theorem e34 (n x) : a0m (c34 n) h34 n Go.Proofs.Tryz.f34 s34 x = b2x n x := by kernel_rfl
theorem fn34 : P.funcs[34]? = some Go.Proofs.Tryz.f34 := by kernel_rfl
theorem f8h : a0b P 34 := a0d (by kernel_rfl)
theorem S34 (A : Amb) (n : Nat) : a0s A P (c34 n) 34 s34 (b2x n) :=
 a0a mixed (tab rfl) (a0o (C := c34 n) (l := ft34 n) rfl ⟨⟨c8r, (S33 A n).of rfl⟩, ⟨d6j, (S71 A n).of rfl⟩, trivial⟩) fn34 fun x y h => (e34 n x).trans h
def s35 : Sig := ⟨[.val (.sl .imm 32 (.st (.pair tI (.pair tI (.pair .str .unit))))), .val (.st (.pair tI (.pair tI (.pair .str .unit)))), .val (.fn2 (.st (.pair tI (.pair tI (.pair .str .unit)))) (.st (.pair tI (.pair tI (.pair .str .unit)))) tI)], [.val tI, .val .bool]⟩
def a0h (n : Nat) (x : (List V4) × V4 × ((V4 → V4 → Option (Int))) × Unit) : Option ((Int × Bool × Unit) × (Unit)) :=
 (a1d (fun rec2 (s1 : Int × Int) => (if (decide (s1.1 < s1.2)) = true then (atI (IntKind.i64.wrap ((IntKind.u64.wrap (IntKind.i64.wrap (s1.1 + s1.2))).fdiv (2 ^ min (1:Int).toNat IntKind.u64.bits))) x.1.length ((x.2.2.1 (x.1.getD (IntKind.i64.wrap ((IntKind.u64.wrap (IntKind.i64.wrap (s1.1 + s1.2))).fdiv (2 ^ min (1:Int).toNat IntKind.u64.bits))).toNat ((0:Int), (0:Int), [], ())) x.2.1).bind fun y3 => (if (decide (y3 < 0)) = true then (rec2 ((IntKind.i64.wrap ((IntKind.i64.wrap ((IntKind.u64.wrap (IntKind.i64.wrap (s1.1 + s1.2))).fdiv (2 ^ min (1:Int).toNat IntKind.u64.bits))) + 1)), s1.2)) else (rec2 (s1.1, (IntKind.i64.wrap ((IntKind.u64.wrap (IntKind.i64.wrap (s1.1 + s1.2))).fdiv (2 ^ min (1:Int).toNat IntKind.u64.bits)))))))) else (if (decide (s1.1 < (x.1.length : Int))) = true then (atI s1.1 x.1.length ((x.2.2.1 (x.1.getD s1.1.toNat ((0:Int), (0:Int), [], ())) x.2.1).bind fun y4 => (some ((s1.1, (decide (y4 = 0)), ()), ())))) else (some ((s1.1, false, ()), ()))))) n ((0:Int), (x.1.length : Int)))
def h35 : Hints := ⟨[(0, ⟨[(9, .val tI), (10, .val tI)], [0, 2, 4, 8], []⟩)], []⟩
def ft35 (n : Nat) : List (Nat × FEnt) := []
def c35 (n : Nat) : Ctx := ⟨49, find? tys, find? (ft35 n), gls, [], [4], []⟩
theorem e35 (n x) : a0m (c35 n) h35 n Go.Proofs.Tryz.f35 s35 x = a0h n x := by kernel_rfl
theorem fn35 : P.funcs[35]? = some Go.Proofs.Tryz.f35 := by kernel_rfl
theorem f8m : a0b P 35 := a0d (by kernel_rfl)
theorem S35 (A : Amb) (n : Nat) : a0s A P (c35 n) 35 s35 (a0h n) :=
 a0a mixed (tab rfl) (a0o (C := c35 n) (l := ft35 n) rfl trivial) fn35 fun x y h => (e35 n x).trans h
def s109 : Sig := ⟨[.val tU], [.val tI]⟩
def a5g (n : Nat) (x : Int × Unit) : Option ((Int × Unit) × (Unit)) :=
 (b3r (fun (s1 : Int × Int) => (b3r (fun (s3 : Int × Int) => (if (decide ((256:Int) ≤ s3.1)) = true then (atI (IntKind.u8.wrap (s3.1.fdiv (2 ^ min (8:Int).toNat IntKind.u64.bits))) a2t.length (some (((IntKind.i64.wrap ((IntKind.i64.wrap (s3.2 + 8)) + (IntKind.i64.wrap (a2t.getD (IntKind.u8.wrap (s3.1.fdiv (2 ^ min (8:Int).toNat IntKind.u64.bits))).toNat (0:Int))))), ()), ()))) else (atI (IntKind.u8.wrap s3.1) a2t.length (some (((IntKind.i64.wrap (s3.2 + (IntKind.i64.wrap (a2t.getD (IntKind.u8.wrap s3.1).toNat (0:Int))))), ()), ()))))) fun J4 => (if (decide ((65536:Int) ≤ s1.1)) = true then (J4 ((s1.1.fdiv (2 ^ min (16:Int).toNat IntKind.u64.bits)), (IntKind.i64.wrap (s1.2 + 16)))) else (J4 (s1.1, s1.2))))) fun J2 => (if (decide ((4294967296:Int) ≤ x.1)) = true then (J2 ((x.1.fdiv (2 ^ min (32:Int).toNat IntKind.u64.bits)), (32:Int))) else (J2 (x.1, (0:Int)))))
def h109 : Hints := ⟨[], [(8, ⟨[(0, .val tU), (2, .val tI)], [], []⟩), (14, ⟨[(0, .val tU), (2, .val tI)], [], []⟩)]⟩
def f8k (n : Nat) : List (Nat × FEnt) := []
def c109 (n : Nat) : Ctx := ⟨25, find? tys, find? (f8k n), gls, [], [], []⟩
theorem e109 (n x) : a0m (c109 n) h109 n Go.Proofs.Tryz.f109 s109 x = a5g n x := by kernel_rfl
theorem g0y : P.funcs[109]? = some Go.Proofs.Tryz.f109 := by kernel_rfl
theorem f5t : a0b P 109 := a0d (by kernel_rfl)
theorem S109 (A : Amb) (n : Nat) : a0s A P (c109 n) 109 s109 (a5g n) :=
 a0a mixed (tab rfl) (a0o (C := c109 n) (l := f8k n) rfl trivial) g0y fun x y h => (e109 n x).trans h
def s72 : Sig := ⟨[.val (.sl .imm 8 tU)], [.val tI]⟩
def a5d (n : Nat) (x : List Int × Unit) : Option ((Int × Unit) × (Unit)) :=
 (a1d (fun rec2 (s1 : Int × Int) => (if (decide (s1.2 < (x.1.length : Int))) = true then (atI s1.2 x.1.length ((a5g n ((x.1.getD s1.2.toNat (0:Int)), ())).bind fun y3 => (rec2 ((if y3.1.1 ≤ s1.1 then s1.1 else y3.1.1), (IntKind.i64.wrap (s1.2 + 1)))))) else (some ((s1.1, ()), ())))) n ((0:Int), (0:Int)))
def h72 : Hints := ⟨[(0, ⟨[(2, .val tI), (7, .val tI)], [5, 6], []⟩)], []⟩
def ft72 (n : Nat) : List (Nat × FEnt) := [(109, ⟨s109, a5g n⟩)]
def c72 (n : Nat) : Ctx := ⟨17, find? tys, find? (ft72 n), gls, [], [], []⟩
theorem e72 (n x) : a0m (c72 n) h72 n Go.Proofs.Tryz.f72 s72 x = a5d n x := by kernel_rfl
theorem fn72 : P.funcs[72]? = some Go.Proofs.Tryz.f72 := by kernel_rfl
theorem e7d : a0b P 72 := a0d (by kernel_rfl)
theorem S72 (A : Amb) (n : Nat) : a0s A P (c72 n) 72 s72 (a5d n) :=
 a0a mixed (tab rfl) (a0o (C := c72 n) (l := ft72 n) rfl ⟨⟨f5t, (S109 A n).of rfl⟩, trivial⟩) fn72 fun x y h => (e72 n x).trans h
def s73 : Sig := ⟨[.val tI], [.val tI]⟩
def a7y (n : Nat) (x : Int × Unit) : Option ((Int × Unit) × (Unit)) :=
 (some (((IntKind.i64.wrap ((IntKind.i64.wrap (x.1 + 7)).tdiv (8:Int))), ()), ()))
def h73 : Hints := ⟨[], []⟩
def ft73 (n : Nat) : List (Nat × FEnt) := []
def c73 (n : Nat) : Ctx := ⟨6, find? tys, find? (ft73 n), gls, [], [], []⟩
theorem e73 (n x) : a0m (c73 n) h73 n Go.Proofs.Tryz.f73 s73 x = a7y n x := by kernel_rfl
theorem fn73 : P.funcs[73]? = some Go.Proofs.Tryz.f73 := by kernel_rfl
theorem f1p : a0b P 73 := a0d (by kernel_rfl)
theorem S73 (A : Amb) (n : Nat) : a0s A P (c73 n) 73 s73 (a7y n) :=
 a0a mixed (tab rfl) (a0o (C := c73 n) (l := ft73 n) rfl trivial) fn73 fun x y h => (e73 n x).trans h
def s36 : Sig := ⟨[.val (.sl .imm 8 tU), .val tI], [.val (.sl .imm 1 tB), .val .bool]⟩
def a7n (n : Nat) (x : List Int × Int × Unit) : Option ((List Int × Bool × Unit) × (Unit)) :=
 (if (decide (x.2.1 < 0)) = true then (some (([], false, ()), ())) else (if (decide ((64:Int) < x.2.1)) = true then (some (([], false, ()), ())) else ((a5d n (x.1, ())).bind fun y1 => (if (decide (x.2.1 < y1.1.1)) = true then (some (([], false, ()), ())) else ((a7y n ((IntKind.i64.wrap ((x.1.length : Int) * x.2.1)), ())).bind fun y2 => (if 0 ≤ y2.1.1 ∧ y2.1.1 ≤ y2.1.1 ∧ y2.1.1 * 1 ≤ room then (a1d (fun rec4 (s3 : List Int × Int) => (if (decide (s3.2 < (x.1.length : Int))) = true then (atI s3.2 x.1.length (a1d (fun rec6 (s5 : List Int × Int) => (if (decide (s5.2 < x.2.1)) = true then (atI (IntKind.i64.wrap ((IntKind.i64.wrap ((IntKind.i64.wrap (s3.2 * x.2.1)) + s5.2)).tdiv (8:Int))) s5.1.length (if s5.2 < 0 then none else (if ((IntKind.i64.wrap ((IntKind.i64.wrap (s3.2 * x.2.1)) + s5.2)).tmod (8:Int)) < 0 then none else (atI (IntKind.i64.wrap ((IntKind.i64.wrap ((IntKind.i64.wrap (s3.2 * x.2.1)) + s5.2)).tdiv (8:Int))) s5.1.length (rec6 ((s5.1.set (IntKind.i64.wrap ((IntKind.i64.wrap ((IntKind.i64.wrap (s3.2 * x.2.1)) + s5.2)).tdiv (8:Int))).toNat (bits .or .u8 (s5.1.getD (IntKind.i64.wrap ((IntKind.i64.wrap ((IntKind.i64.wrap (s3.2 * x.2.1)) + s5.2)).tdiv (8:Int))).toNat (0:Int)) (IntKind.u8.wrap ((IntKind.u8.wrap (bits .and .u64 ((x.1.getD s3.2.toNat (0:Int)).fdiv (2 ^ min s5.2.toNat IntKind.u64.bits)) (1:Int))) * 2 ^ min ((IntKind.i64.wrap ((IntKind.i64.wrap (s3.2 * x.2.1)) + s5.2)).tmod (8:Int)).toNat IntKind.u8.bits)))), (IntKind.i64.wrap (s5.2 + 1)))))))) else (rec4 (s5.1, (IntKind.i64.wrap (s3.2 + 1)))))) n (s3.1, (0:Int)))) else (some ((s3.1, true, ()), ())))) n ((List.replicate y2.1.1.toNat (0:Int)), (0:Int))) else none))))))
def h36 : Hints := ⟨[(5, ⟨[(6, .val (.sl .own 1 tB)), (37, .val tI)], [1, 7, 8, 29, 30, 31, 36], []⟩), (3, ⟨[(6, .val (.sl .own 1 tB)), (31, .val tI)], [1, 29, 30], []⟩)], []⟩
def ft36 (n : Nat) : List (Nat × FEnt) := [(72, ⟨s72, a5d n⟩), (73, ⟨s73, a7y n⟩)]
def c36 (n : Nat) : Ctx := ⟨63, find? tys, find? (ft36 n), gls, [], [], []⟩
theorem e36 (n x) : a0m (c36 n) h36 n Go.Proofs.Tryz.f36 s36 x = a7n n x := by kernel_rfl
theorem fn36 : P.funcs[36]? = some Go.Proofs.Tryz.f36 := by kernel_rfl
theorem e5s : a0b P 36 := a0d (by kernel_rfl)
theorem S36 (A : Amb) (n : Nat) : a0s A P (c36 n) 36 s36 (a7n n) :=
 a0a mixed (tab rfl) (a0o (C := c36 n) (l := ft36 n) rfl ⟨⟨e7d, (S72 A n).of rfl⟩, ⟨f1p, (S73 A n).of rfl⟩, trivial⟩) fn36 fun x y h => (e36 n x).trans h
def s37 : Sig := ⟨[.val tI], [.val tI]⟩
def a6y (n : Nat) (x : Int × Unit) : Option ((Int × Unit) × (Unit)) :=
 ((a5d n ([(IntKind.u64.wrap (if (0:Int) ≤ (IntKind.i64.wrap (x.1 - 1)) then (IntKind.i64.wrap (x.1 - 1)) else (0:Int)))], ())).bind fun y1 => (some ((y1.1.1, ()), ())))
def h37 : Hints := ⟨[], []⟩
def ft37 (n : Nat) : List (Nat × FEnt) := [(72, ⟨s72, a5d n⟩)]
def c37 (n : Nat) : Ctx := ⟨9, find? tys, find? (ft37 n), gls, [], [], []⟩
theorem e37 (n x) : a0m (c37 n) h37 n Go.Proofs.Tryz.f37 s37 x = a6y n x := by kernel_rfl
theorem fn37 : P.funcs[37]? = some Go.Proofs.Tryz.f37 := by kernel_rfl
theorem f1e : a0b P 37 := a0d (by kernel_rfl)
theorem S37 (A : Amb) (n : Nat) : a0s A P (c37 n) 37 s37 (a6y n) :=
 a0a mixed (tab rfl) (a0o (C := c37 n) (l := ft37 n) rfl ⟨⟨e7d, (S72 A n).of rfl⟩, trivial⟩) fn37 fun x y h => (e37 n x).trans h
def s11 : Sig := ⟨[.val tI, .val (.sl .imm 32 (.st (.pair tI (.pair tI (.pair .str .unit)))))], [.val (.sl .imm 1 tB), .val .bool]⟩
def b0e (n : Nat) (x : Int × (List V4) × Unit) : Option ((List Int × Bool × Unit) × (Unit)) :=
 ((b4z n (x.1, x.2.1, ())).bind fun y1 => (if (!y1.1.1) = true then (some (([], false, ()), ())) else ((a0u n (x.2.1, ())).bind fun y2 => ((a1r n (y2.1.1, (), ())).bind fun y3 => ((a1u n (y3.2.1, ())).bind fun y4 => ((a3r n ((IntKind.u64.wrap (y4.1.1.length : Int)), ())).bind fun y5 => (a1d (fun rec7 (s6 : List Int × Int) => (if (decide (s6.2 < (y4.1.1.length : Int))) = true then (atI s6.2 y4.1.1.length ((b2x n (s6.1, (y4.1.1.getD s6.2.toNat ((0:Int), (0:Int), [], ())), ())).bind fun y8 => (rec7 (y8.1.1, (IntKind.i64.wrap (s6.2 + 1)))))) else (a1d (fun rec10 (s9 : List Int × Int) => (if (decide (s9.2 < (x.2.1.length : Int))) = true then (atI s9.2 x.2.1.length ((a0h n (y4.1.1, (x.2.1.getD s9.2.toNat ((0:Int), (0:Int), [], ())), (fun c d => (a5h n (c, d, ())).bind fun r => some r.1.1), ())).bind fun y11 => (if (s9.1.length + [(IntKind.u64.wrap y11.1.1)].length) * 8 ≤ room then (rec10 ((s9.1 ++ [(IntKind.u64.wrap y11.1.1)]), (IntKind.i64.wrap (s9.2 + 1)))) else none))) else ((a6y n ((y4.1.1.length : Int), ())).bind fun y12 => ((a7n n (s9.1, y12.1.1, ())).bind fun y13 => (if (s6.1.length + y13.1.1.length) * 1 ≤ room then (some (((s6.1 ++ y13.1.1), y13.1.2.1, ()), ())) else none))))) n ([], (0:Int))))) n (y5.1.1, (0:Int)))))))))
def h11 : Hints := ⟨[(0, ⟨[(7, .val (.sl .own 1 tB)), (33, .val tI)], [1, 6, 32, 31], []⟩), (2, ⟨[(10, .val (.sl .own 8 tU)), (43, .val tI)], [6, 41, 42], [7]⟩)], []⟩
def ft11 (n : Nat) : List (Nat × FEnt) := [(28, ⟨s28, b4z n⟩), (29, ⟨s29, a0u n⟩), (30, ⟨s30, a1r n⟩), (31, ⟨s31, a5h n⟩), (32, ⟨s32, a1u n⟩), (33, ⟨s33, a3r n⟩), (34, ⟨s34, b2x n⟩), (35, ⟨s35, a0h n⟩), (36, ⟨s36, a7n n⟩), (37, ⟨s37, a6y n⟩)]
def c11 (n : Nat) : Ctx := ⟨71, find? tys, find? (ft11 n), gls, [], [], []⟩
theorem e11 (n x) : a0m (c11 n) h11 n Go.Proofs.Tryz.f11 s11 x = b0e n x := by kernel_rfl
theorem fn11 : P.funcs[11]? = some Go.Proofs.Tryz.f11 := by kernel_rfl
theorem f1u : a0b P 11 := a0d (by kernel_rfl)
theorem S11 (A : Amb) (n : Nat) : a0s A P (c11 n) 11 s11 (b0e n) :=
 a0a mixed (tab rfl) (a0o (C := c11 n) (l := ft11 n) rfl ⟨⟨f6a, (S28 A n).of rfl⟩, ⟨f1x, (S29 A n).of rfl⟩, ⟨f7b, (S30 A n).of rfl⟩, ⟨f2s, (S31 A n).of rfl⟩, ⟨f7x, (S32 A n).of rfl⟩, ⟨c8r, (S33 A n).of rfl⟩, ⟨f8h, (S34 A n).of rfl⟩, ⟨f8m, (S35 A n).of rfl⟩, ⟨e5s, (S36 A n).of rfl⟩, ⟨f1e, (S37 A n).of rfl⟩, trivial⟩) fn11 fun x y h => (e11 n x).trans h
def s88 : Sig := ⟨[.val (.sl .imm 32 (.st (.pair tI (.pair tI (.pair .str .unit))))), .val (.fn (.st (.pair tI (.pair tI (.pair .str .unit)))) .bool)], [.val tI]⟩
def a0k (n : Nat) (x : (List V4) × ((V4 → Option (Bool))) × Unit) : Option ((Int × Unit) × (Unit)) :=
 (a1d (fun rec2 (s1 : Int) => (if (decide (s1 < (x.1.length : Int))) = true then (atI s1 x.1.length ((x.2.1 (x.1.getD s1.toNat ((0:Int), (0:Int), [], ()))).bind fun y3 => (if y3 = true then (some ((s1, ()), ())) else (rec2 (IntKind.i64.wrap (s1 + 1)))))) else (some (((-1:Int), ()), ())))) n (0:Int))
def h88 : Hints := ⟨[(0, ⟨[(8, .val tI)], [0, 1, 7], []⟩)], []⟩
def ft88 (n : Nat) : List (Nat × FEnt) := []
def c88 (n : Nat) : Ctx := ⟨19, find? tys, find? (ft88 n), gls, [], [], []⟩
theorem e88 (n x) : a0m (c88 n) h88 n Go.Proofs.Tryz.f88 s88 x = a0k n x := by kernel_rfl
theorem fn88 : P.funcs[88]? = some Go.Proofs.Tryz.f88 := by kernel_rfl
theorem f1k : a0b P 88 := a0d (by kernel_rfl)
theorem S88 (A : Amb) (n : Nat) : a0s A P (c88 n) 88 s88 (a0k n) :=
 a0a mixed (tab rfl) (a0o (C := c88 n) (l := ft88 n) rfl trivial) fn88 fun x y h => (e88 n x).trans h
def s49 : Sig := ⟨[.val (.sl .imm 32 (.st (.pair tI (.pair tI (.pair .str .unit))))), .val (.fn (.st (.pair tI (.pair tI (.pair .str .unit)))) .bool)], [.val .bool]⟩
def a0n (n : Nat) (x : (List V4) × ((V4 → Option (Bool))) × Unit) : Option ((Bool × Unit) × (Unit)) :=
 ((a0k n (x.1, x.2.1, ())).bind fun y1 => (some (((decide ((0:Int) ≤ y1.1.1)), ()), ())))
def h49 : Hints := ⟨[], []⟩
def ft49 (n : Nat) : List (Nat × FEnt) := [(88, ⟨s88, a0k n⟩)]
def c49 (n : Nat) : Ctx := ⟨9, find? tys, find? (ft49 n), gls, [], [], []⟩
theorem e49 (n x) : a0m (c49 n) h49 n Go.Proofs.Tryz.f49 s49 x = a0n n x := by kernel_rfl
theorem fn49 : P.funcs[49]? = some Go.Proofs.Tryz.f49 := by kernel_rfl
theorem f8g : a0b P 49 := a0d (by kernel_rfl)
theorem S49 (A : Amb) (n : Nat) : a0s A P (c49 n) 49 s49 (a0n n) :=
 a0a mixed (tab rfl) (a0o (C := c49 n) (l := ft49 n) rfl ⟨⟨f1k, (S88 A n).of rfl⟩, trivial⟩) fn49 fun x y h => (e49 n x).trans h
def s51 : Sig := ⟨[.val tI, .val (.st (.pair tI (.pair tI (.pair .str .unit))))], [.val .bool]⟩
def b0h (n : Nat) (x : Int × V4 × Unit) : Option ((Bool × Unit) × (Unit)) :=
 ((a2r n (x.2.1, ())).bind fun y1 => (if y1.1.1 = true then (if (decide ((1:Int) ≤ x.1)) = true then (if (decide (x.1 ≤ 4)) = true then (if (decide (x.2.1.1 = 0)) = true then (some ((true, ()), ())) else (some (((decide (x.2.1.1 = x.1)), ()), ()))) else (some ((false, ()), ()))) else (some ((false, ()), ()))) else (some ((false, ()), ()))))
def h51 : Hints := ⟨[], []⟩
def ft51 (n : Nat) : List (Nat × FEnt) := [(64, ⟨s64, a2r n⟩)]
def c51 (n : Nat) : Ctx := ⟨26, find? tys, find? (ft51 n), gls, [], [3], []⟩
theorem e51 (n x) : a0m (c51 n) h51 n Go.Proofs.Tryz.f51 s51 x = b0h n x := by kernel_rfl
theorem fn51 : P.funcs[51]? = some Go.Proofs.Tryz.f51 := by kernel_rfl
theorem f6o : a0b P 51 := a0d (by kernel_rfl)
theorem S51 (A : Amb) (n : Nat) : a0s A P (c51 n) 51 s51 (b0h n) :=
 a0a mixed (tab rfl) (a0o (C := c51 n) (l := ft51 n) rfl ⟨⟨d0q, (S64 A n).of rfl⟩, trivial⟩) fn51 fun x y h => (e51 n x).trans h
def s50 : Sig := ⟨[.val (.st (.pair tI (.pair tI (.pair .str .unit)))), .val (.ptr tI)], [.val .bool]⟩
def a9h (n : Nat) (x : V4 × Int × Unit) : Option ((Bool × Unit) × (Unit)) :=
 ((b0h n (x.2.1, x.1, ())).bind fun y1 => (some (((!y1.1.1), ()), ())))
def h50 : Hints := ⟨[], []⟩
def ft50 (n : Nat) : List (Nat × FEnt) := [(51, ⟨s51, b0h n⟩)]
def c50 (n : Nat) : Ctx := ⟨8, find? tys, find? (ft50 n), gls, [], [2], []⟩
theorem e50 (n x) : a0m (c50 n) h50 n Go.Proofs.Tryz.f50 s50 x = a9h n x := by kernel_rfl
theorem fn50 : P.funcs[50]? = some Go.Proofs.Tryz.f50 := by kernel_rfl
theorem f9i : a0b P 50 := a0d (by kernel_rfl)
theorem S50 (A : Amb) (n : Nat) : a0s A P (c50 n) 50 s50 (a9h n) :=
 a0a mixed (tab rfl) (a0o (C := c50 n) (l := ft50 n) rfl ⟨⟨f6o, (S51 A n).of rfl⟩, trivial⟩) fn50 fun x y h => (e50 n x).trans h
def s52 : Sig := ⟨[.val (.st (.pair tI (.pair tI (.pair .str .unit))))], [.val .bool]⟩
def a3i (n : Nat) (x : V4 × Unit) : Option ((Bool × Unit) × (Unit)) :=
 (some (((decide (x.1.1 = 0)), ()), ()))
def h52 : Hints := ⟨[], []⟩
def ft52 (n : Nat) : List (Nat × FEnt) := []
def c52 (n : Nat) : Ctx := ⟨6, find? tys, find? (ft52 n), gls, [], [1], []⟩
theorem e52 (n x) : a0m (c52 n) h52 n Go.Proofs.Tryz.f52 s52 x = a3i n x := by kernel_rfl
theorem fn52 : P.funcs[52]? = some Go.Proofs.Tryz.f52 := by kernel_rfl
theorem f9g : a0b P 52 := a0d (by kernel_rfl)
theorem S52 (A : Amb) (n : Nat) : a0s A P (c52 n) 52 s52 (a3i n) :=
 a0a mixed (tab rfl) (a0o (C := c52 n) (l := ft52 n) rfl trivial) fn52 fun x y h => (e52 n x).trans h
def s53 : Sig := ⟨[.val (.sl .imm 1 .bool)], [.val (.sl .imm 1 tB)]⟩
def a7a (n : Nat) (x : List Bool × Unit) : Option ((List Int × Unit) × (Unit)) :=
 (if 0 ≤ (IntKind.i64.wrap ((IntKind.i64.wrap ((x.1.length : Int) + 7)).tdiv (8:Int))) ∧ (IntKind.i64.wrap ((IntKind.i64.wrap ((x.1.length : Int) + 7)).tdiv (8:Int))) ≤ (IntKind.i64.wrap ((IntKind.i64.wrap ((x.1.length : Int) + 7)).tdiv (8:Int))) ∧ (IntKind.i64.wrap ((IntKind.i64.wrap ((x.1.length : Int) + 7)).tdiv (8:Int))) * 1 ≤ room then (a1d (fun rec2 (s1 : List Int × Int) => (if (decide (s1.2 < (x.1.length : Int))) = true then (atI s1.2 x.1.length (if (x.1.getD s1.2.toNat false) = true then (atI (IntKind.i64.wrap (s1.2.tdiv (8:Int))) s1.1.length (if (s1.2.tmod (8:Int)) < 0 then none else (atI (IntKind.i64.wrap (s1.2.tdiv (8:Int))) s1.1.length (rec2 ((s1.1.set (IntKind.i64.wrap (s1.2.tdiv (8:Int))).toNat (bits .or .u8 (s1.1.getD (IntKind.i64.wrap (s1.2.tdiv (8:Int))).toNat (0:Int)) (IntKind.u8.wrap ((1:Int) * 2 ^ min (s1.2.tmod (8:Int)).toNat IntKind.u8.bits)))), (IntKind.i64.wrap (s1.2 + 1))))))) else (rec2 (s1.1, (IntKind.i64.wrap (s1.2 + 1)))))) else (some ((s1.1, ()), ())))) n ((List.replicate (IntKind.i64.wrap ((IntKind.i64.wrap ((x.1.length : Int) + 7)).tdiv (8:Int))).toNat (0:Int)), (0:Int))) else none)
def h53 : Hints := ⟨[(0, ⟨[(3, .val (.sl .own 1 tB)), (13, .val tI)], [11, 12], []⟩)], []⟩
def ft53 (n : Nat) : List (Nat × FEnt) := []
def c53 (n : Nat) : Ctx := ⟨31, find? tys, find? (ft53 n), gls, [], [], []⟩
theorem e53 (n x) : a0m (c53 n) h53 n Go.Proofs.Tryz.f53 s53 x = a7a n x := by kernel_rfl
theorem fn53 : P.funcs[53]? = some Go.Proofs.Tryz.f53 := by kernel_rfl
theorem f2w : a0b P 53 := a0d (by kernel_rfl)
theorem S53 (A : Amb) (n : Nat) : a0s A P (c53 n) 53 s53 (a7a n) :=
 a0a mixed (tab rfl) (a0o (C := c53 n) (l := ft53 n) rfl trivial) fn53 fun x y h => (e53 n x).trans h
def s54 : Sig := ⟨[], [.val (.lf (.fmap [(1, 89, 90), (2, 91, 92), (3, 11, 14), (4, 93, 94), (5, 95, 96)]))]⟩
def a5k (_n : Nat) (_x : Unit) : Option ((Unit × Unit) × (Unit)) := some (((), ()), ())
theorem nt54 : Go.Proofs.Tryz.f54.ntmps = 8 := by kernel_rfl
theorem fn54 : P.funcs[54]? = some Go.Proofs.Tryz.f54 := by kernel_rfl
theorem f2b : a0b P 54 := a0d (by kernel_rfl)
theorem uT54 : P.underlying 80 = some (.map 3 79) := by kernel_rfl
theorem uK54 : P.underlying 3 = some (.int .i64) := by kernel_rfl
set_option maxHeartbeats 4000000 in
set_option maxRecDepth 1000000 in
theorem d6u (w : World) : Calls P 54 #[] w fun e w' => e = .returned (.map (some w.heap.size)) ∧ w' = b4p w [(1, 89, 90), (2, 91, 92), (3, 11, 14), (4, 93, 94), (5, 95, 96)] := by
 go_enter fn54, nt54
 go_upto_region 1 with fail
 refine wp_region_lit ?_
 refine wl rfl (.map (some w.heap.size)) (w1 := b4p w []) rfl ?_
 refine wl rfl (c7m (1, 89, 90)) (w1 := b4p w []) (by go_simp; rfl) ?_
 refine b8k rfl rfl 80 (.tmp 1) (.const (.int .i64 1)) (.tmp 2) rfl (a8g uT54 uK54 [] (1, 89, 90) (by decide)) ?_
 refine wl rfl (c7m (2, 91, 92)) (w1 := b4p w [(1, 89, 90)]) (by go_simp; rfl) ?_
 refine b8k rfl rfl 80 (.tmp 1) (.const (.int .i64 2)) (.tmp 3) rfl (a8g uT54 uK54 [(1, 89, 90)] (2, 91, 92) (by decide)) ?_
 refine wl rfl (c7m (3, 11, 14)) (w1 := b4p w [(1, 89, 90), (2, 91, 92)]) (by go_simp; rfl) ?_
 refine b8k rfl rfl 80 (.tmp 1) (.const (.int .i64 3)) (.tmp 4) rfl (a8g uT54 uK54 [(1, 89, 90), (2, 91, 92)] (3, 11, 14) (by decide)) ?_
 refine wl rfl (c7m (4, 93, 94)) (w1 := b4p w [(1, 89, 90), (2, 91, 92), (3, 11, 14)]) (by go_simp; rfl) ?_
 refine b8k rfl rfl 80 (.tmp 1) (.const (.int .i64 4)) (.tmp 5) rfl (a8g uT54 uK54 [(1, 89, 90), (2, 91, 92), (3, 11, 14)] (4, 93, 94) (by decide)) ?_
 refine wl rfl (c7m (5, 95, 96)) (w1 := b4p w [(1, 89, 90), (2, 91, 92), (3, 11, 14), (4, 93, 94)]) (by go_simp; rfl) ?_
 refine b8k rfl rfl 80 (.tmp 1) (.const (.int .i64 5)) (.tmp 6) rfl (a8g uT54 uK54 [(1, 89, 90), (2, 91, 92), (3, 11, 14), (4, 93, 94)] (5, 95, 96) (by decide)) ?_
 refine wl rfl (.map (some w.heap.size)) rfl ?_
 refine wl rfl (.map (some w.heap.size)) rfl (wpList_nil ?_)
 go_wp2
 go_ret
 exact ⟨rfl, rfl⟩
theorem S54 (A : Amb) (n : Nat) : a0s A P cH 54 s54 (a5k n) := d7n d6u
def s55 : Sig := ⟨[.val (.sl .own 32 (.st (.pair tI (.pair tI (.pair .str .unit))))), .val (.fn (.st (.pair tI (.pair tI (.pair .str .unit)))) .bool)], [.val (.sl .imm 32 (.st (.pair tI (.pair tI (.pair .str .unit)))))]⟩
def a0t (n : Nat) (x : (List V4) × ((V4 → Option (Bool))) × Unit) : Option (((List V4) × Unit) × (Unit)) :=
 ((a0k n (x.1, x.2.1, ())).bind fun y1 => (if (decide (y1.1.1 = (-1:Int))) = true then (some ((x.1, ()), ())) else (a1d (fun rec3 (s2 : (List V4) × Int × Int) => (if (decide (s2.2.2 < (s2.1.length : Int))) = true then (atI s2.2.2 s2.1.length ((x.2.1 (s2.1.getD s2.2.2.toNat ((0:Int), (0:Int), [], ()))).bind fun y4 => (if (!y4) = true then (atI s2.2.1 s2.1.length (rec3 ((s2.1.set s2.2.1.toNat (s2.1.getD s2.2.2.toNat ((0:Int), (0:Int), [], ()))), (IntKind.i64.wrap (s2.2.1 + 1)), (IntKind.i64.wrap (s2.2.2 + 1))))) else (rec3 (s2.1, s2.2.1, (IntKind.i64.wrap (s2.2.2 + 1))))))) else (if 0 ≤ s2.2.1 ∧ s2.2.1 ≤ (s2.1.length : Int) then (if 0 ≤ s2.2.1 ∧ s2.2.1 ≤ (s2.1.length : Int) ∧ (s2.1.length : Int) ≤ s2.1.length then (if 0 ≤ s2.2.1 ∧ s2.2.1 ≤ ((s2.1.take s2.2.1.toNat ++ (List.replicate ((s2.1.length : Int).toNat - s2.2.1.toNat) (((0:Int), (0:Int), [], ()) : Int × Int × List Int × Unit) ++ s2.1.drop (s2.1.length : Int).toNat)).length : Int) then (some ((((s2.1.take s2.2.1.toNat ++ (List.replicate ((s2.1.length : Int).toNat - s2.2.1.toNat) (((0:Int), (0:Int), [], ()) : Int × Int × List Int × Unit) ++ s2.1.drop (s2.1.length : Int).toNat)).take s2.2.1.toNat), ()), ())) else none) else none) else none))) n (x.1, y1.1.1, (IntKind.i64.wrap (y1.1.1 + 1))))))
def h55 : Hints := ⟨[(0, ⟨[(0, .val (.sl .own 32 (.st (.pair tI (.pair tI (.pair .str .unit)))))), (5, .val tI), (6, .val tI)], [1], []⟩)], []⟩
def ft55 (n : Nat) : List (Nat × FEnt) := [(88, ⟨s88, a0k n⟩)]
def c55 (n : Nat) : Ctx := ⟨42, find? tys, find? (ft55 n), gls, [], [], []⟩
theorem e55 (n x) : a0m (c55 n) h55 n Go.Proofs.Tryz.f55 s55 x = a0t n x := by kernel_rfl
theorem fn55 : P.funcs[55]? = some Go.Proofs.Tryz.f55 := by kernel_rfl
theorem f9j : a0b P 55 := a0d (by kernel_rfl)
theorem S55 (A : Amb) (n : Nat) : a0s A P (c55 n) 55 s55 (a0t n) :=
 a0a mixed (tab rfl) (a0o (C := c55 n) (l := ft55 n) rfl ⟨⟨f1k, (S88 A n).of rfl⟩, trivial⟩) fn55 fun x y h => (e55 n x).trans h
def s116 : Sig := ⟨[.val tI, .val (.sl .imm 32 (.st (.pair tI (.pair tI (.pair .str .unit)))))], [.val .bool]⟩
def b2y (n : Nat) (x : Int × (List V4) × Unit) : Option ((Bool × Unit) × (Unit)) :=
 (if (decide (x.1 < 1)) = true then (some ((false, ()), ())) else (if (decide ((4:Int) < x.1)) = true then (some ((false, ()), ())) else (a1d (fun rec2 (s1 : Int) => (if (decide (s1 < (x.2.1.length : Int))) = true then (atI s1 x.2.1.length (if (!decide ((x.2.1.getD s1.toNat ((0:Int), (0:Int), [], ())).1 = x.1)) = true then (some ((false, ()), ())) else ((a2r n ((x.2.1.getD s1.toNat ((0:Int), (0:Int), [], ())), ())).bind fun y3 => (if (!y3.1.1) = true then (some ((false, ()), ())) else (rec2 (IntKind.i64.wrap (s1 + 1))))))) else (some ((true, ()), ())))) n (0:Int))))
def h116 : Hints := ⟨[(0, ⟨[(15, .val tI)], [0, 13, 14], []⟩)], []⟩
def f8o (n : Nat) : List (Nat × FEnt) := [(64, ⟨s64, a2r n⟩)]
def c116 (n : Nat) : Ctx := ⟨29, find? tys, find? (f8o n), gls, [], [], []⟩
theorem e116 (n x) : a0m (c116 n) h116 n Go.Proofs.Tryz.f116 s116 x = b2y n x := by kernel_rfl
theorem g0i : P.funcs[116]? = some Go.Proofs.Tryz.f116 := by kernel_rfl
theorem f5q : a0b P 116 := a0d (by kernel_rfl)
theorem S116 (A : Amb) (n : Nat) : a0s A P (c116 n) 116 s116 (b2y n) :=
 a0a mixed (tab rfl) (a0o (C := c116 n) (l := f8o n) rfl ⟨⟨d0q, (S64 A n).of rfl⟩, trivial⟩) g0i fun x y h => (e116 n x).trans h
def s117 : Sig := ⟨[.val (.sl .own 1 tB), .val (.st (.pair tI (.pair tI (.pair .str .unit))))], [.val (.sl .own 1 tB)]⟩
def b1i (n : Nat) (x : List Int × V4 × Unit) : Option ((List Int × Unit) × (Unit)) :=
 (if (decide (x.2.1.1 = 3)) = true then (if (x.1.length + [(IntKind.u8.wrap x.2.1.2.1)].length) * 1 ≤ room then (some (((x.1 ++ [(IntKind.u8.wrap x.2.1.2.1)]), ()), ())) else none) else (if (decide (x.2.1.1 = 4)) = true then (if (x.1.length + [(IntKind.u8.wrap (x.2.1.2.2.1.length : Int))].length) * 1 ≤ room then (if ((x.1 ++ [(IntKind.u8.wrap (x.2.1.2.2.1.length : Int))]).length + x.2.1.2.2.1.length) * 1 ≤ room then (some ((((x.1 ++ [(IntKind.u8.wrap (x.2.1.2.2.1.length : Int))]) ++ x.2.1.2.2.1), ()), ())) else none) else none) else ((a5n n (x.2.1.2.1, ())).bind fun y1 => ((a3r n (y1.1.1, ())).bind fun y2 => (if (x.1.length + y2.1.1.length) * 1 ≤ room then (some (((x.1 ++ y2.1.1), ()), ())) else none)))))
def h117 : Hints := ⟨[], []⟩
def f7q (n : Nat) : List (Nat × FEnt) := [(33, ⟨s33, a3r n⟩), (71, ⟨s71, a5n n⟩)]
def c117 (n : Nat) : Ctx := ⟨33, find? tys, find? (f7q n), gls, [], [3], []⟩
theorem e117 (n x) : a0m (c117 n) h117 n Go.Proofs.Tryz.f117 s117 x = b1i n x := by kernel_rfl
theorem f9y : P.funcs[117]? = some Go.Proofs.Tryz.f117 := by kernel_rfl
theorem f5o : a0b P 117 := a0d (by kernel_rfl)
theorem S117 (A : Amb) (n : Nat) : a0s A P (c117 n) 117 s117 (b1i n) :=
 a0a mixed (tab rfl) (a0o (C := c117 n) (l := f7q n) rfl ⟨⟨c8r, (S33 A n).of rfl⟩, ⟨d6j, (S71 A n).of rfl⟩, trivial⟩) f9y fun x y h => (e117 n x).trans h
def s89 : Sig := ⟨[.val tI, .val (.sl .imm 32 (.st (.pair tI (.pair tI (.pair .str .unit)))))], [.val (.sl .imm 1 tB), .val .bool]⟩
def a8m (n : Nat) (x : Int × (List V4) × Unit) : Option ((List Int × Bool × Unit) × (Unit)) :=
 ((b2y n (x.1, x.2.1, ())).bind fun y1 => (if (!y1.1.1) = true then (some (([], false, ()), ())) else (a1d (fun rec3 (s2 : List Int × Int) => (if (decide (s2.2 < (x.2.1.length : Int))) = true then (atI s2.2 x.2.1.length ((b1i n (s2.1, (x.2.1.getD s2.2.toNat ((0:Int), (0:Int), [], ())), ())).bind fun y4 => (rec3 (y4.1.1, (IntKind.i64.wrap (s2.2 + 1)))))) else (some ((s2.1, true, ()), ())))) n ([], (0:Int)))))
def h89 : Hints := ⟨[(0, ⟨[(4, .val (.sl .own 1 tB)), (14, .val tI)], [12, 13], []⟩)], []⟩
def ft89 (n : Nat) : List (Nat × FEnt) := [(116, ⟨s116, b2y n⟩), (117, ⟨s117, b1i n⟩)]
def c89 (n : Nat) : Ctx := ⟨23, find? tys, find? (ft89 n), gls, [], [], []⟩
theorem e89 (n x) : a0m (c89 n) h89 n Go.Proofs.Tryz.f89 s89 x = a8m n x := by kernel_rfl
theorem fn89 : P.funcs[89]? = some Go.Proofs.Tryz.f89 := by kernel_rfl
theorem f2j : a0b P 89 := a0d (by kernel_rfl)
theorem S89 (A : Amb) (n : Nat) : a0s A P (c89 n) 89 s89 (a8m n) :=
 a0a mixed (tab rfl) (a0o (C := c89 n) (l := ft89 n) rfl ⟨⟨f5q, (S116 A n).of rfl⟩, ⟨f5o, (S117 A n).of rfl⟩, trivial⟩) fn89 fun x y h => (e89 n x).trans h
def s119 : Sig := ⟨[.val tI, .val (.sl .imm 32 (.st (.pair tI (.pair tI (.pair .str .unit)))))], [.val .bool]⟩
def b9f (n : Nat) (x : Int × (List V4) × Unit) : Option ((Bool × Unit) × (Unit)) :=
 (if (decide (x.1 < 1)) = true then (some ((false, ()), ())) else (if (decide ((4:Int) < x.1)) = true then (some ((false, ()), ())) else (a1d (fun rec2 (s1 : Int) => (if (decide (s1 < (x.2.1.length : Int))) = true then (atI s1 x.2.1.length (if (!decide ((x.2.1.getD s1.toNat ((0:Int), (0:Int), [], ())).1 = x.1)) = true then (some ((false, ()), ())) else ((a2r n ((x.2.1.getD s1.toNat ((0:Int), (0:Int), [], ())), ())).bind fun y3 => (if (!y3.1.1) = true then (some ((false, ()), ())) else (rec2 (IntKind.i64.wrap (s1 + 1))))))) else (some ((true, ()), ())))) n (0:Int))))
def h119 : Hints := ⟨[(0, ⟨[(15, .val tI)], [0, 13, 14], []⟩)], []⟩
def f6d (n : Nat) : List (Nat × FEnt) := [(64, ⟨s64, a2r n⟩)]
def c119 (n : Nat) : Ctx := ⟨29, find? tys, find? (f6d n), gls, [], [], []⟩
theorem e119 (n x) : a0m (c119 n) h119 n Go.Proofs.Tryz.f119 s119 x = b9f n x := by kernel_rfl
theorem g0j : P.funcs[119]? = some Go.Proofs.Tryz.f119 := by kernel_rfl
theorem f3p : a0b P 119 := a0d (by kernel_rfl)
theorem S119 (A : Amb) (n : Nat) : a0s A P (c119 n) 119 s119 (b9f n) :=
 a0a mixed (tab rfl) (a0o (C := c119 n) (l := f6d n) rfl ⟨⟨d0q, (S64 A n).of rfl⟩, trivial⟩) g0j fun x y h => (e119 n x).trans h
def s120 : Sig := ⟨[.val (.sl .own 1 tB), .val (.st (.pair tI (.pair tI (.pair .str .unit))))], [.val (.sl .own 1 tB)]⟩
def b5g (n : Nat) (x : List Int × V4 × Unit) : Option ((List Int × Unit) × (Unit)) :=
 (if (decide (x.2.1.1 = 3)) = true then (if (x.1.length + [(IntKind.u8.wrap x.2.1.2.1)].length) * 1 ≤ room then (some (((x.1 ++ [(IntKind.u8.wrap x.2.1.2.1)]), ()), ())) else none) else (if (decide (x.2.1.1 = 4)) = true then (if (x.1.length + [(IntKind.u8.wrap (x.2.1.2.2.1.length : Int))].length) * 1 ≤ room then (if ((x.1 ++ [(IntKind.u8.wrap (x.2.1.2.2.1.length : Int))]).length + x.2.1.2.2.1.length) * 1 ≤ room then (some ((((x.1 ++ [(IntKind.u8.wrap (x.2.1.2.2.1.length : Int))]) ++ x.2.1.2.2.1), ()), ())) else none) else none) else ((a5n n (x.2.1.2.1, ())).bind fun y1 => ((a3r n (y1.1.1, ())).bind fun y2 => (if (x.1.length + y2.1.1.length) * 1 ≤ room then (some (((x.1 ++ y2.1.1), ()), ())) else none)))))
def h120 : Hints := ⟨[], []⟩
def f7p (n : Nat) : List (Nat × FEnt) := [(33, ⟨s33, a3r n⟩), (71, ⟨s71, a5n n⟩)]
def c120 (n : Nat) : Ctx := ⟨33, find? tys, find? (f7p n), gls, [], [3], []⟩
theorem e120 (n x) : a0m (c120 n) h120 n Go.Proofs.Tryz.f120 s120 x = b5g n x := by kernel_rfl
theorem g0e : P.funcs[120]? = some Go.Proofs.Tryz.f120 := by kernel_rfl
theorem f3o : a0b P 120 := a0d (by kernel_rfl)
theorem S120 (A : Amb) (n : Nat) : a0s A P (c120 n) 120 s120 (b5g n) :=
 a0a mixed (tab rfl) (a0o (C := c120 n) (l := f7p n) rfl ⟨⟨c8r, (S33 A n).of rfl⟩, ⟨d6j, (S71 A n).of rfl⟩, trivial⟩) g0e fun x y h => (e120 n x).trans h
def s91 : Sig := ⟨[.val tI, .val (.sl .imm 32 (.st (.pair tI (.pair tI (.pair .str .unit)))))], [.val (.sl .imm 1 tB), .val .bool]⟩
def b1z (n : Nat) (x : Int × (List V4) × Unit) : Option ((List Int × Bool × Unit) × (Unit)) :=
 ((b9f n (x.1, x.2.1, ())).bind fun y1 => (if (!y1.1.1) = true then (some (([], false, ()), ())) else (a1d (fun rec3 (s2 : (List V4) × List Int) => (if (decide ((0:Int) < (s2.1.length : Int))) = true then (b3r (fun (s4 : Int) => ((a3r n ((IntKind.u64.wrap s4), ())).bind fun y6 => (if (s2.2.length + y6.1.1.length) * 1 ≤ room then (atI (0:Int) s2.1.length ((b5g n ((s2.2 ++ y6.1.1), (s2.1.getD (0:Int).toNat ((0:Int), (0:Int), [], ())), ())).bind fun y7 => (if 0 ≤ s4 ∧ s4 ≤ (s2.1.length : Int) then (rec3 (((s2.1.take (s2.1.length : Int).toNat).drop s4.toNat), y7.1.1)) else none))) else none))) fun J5 => (a1d (fun rec9 (s8 : Int) => (if (decide (s8 < (s2.1.length : Int))) = true then (atI s8 s2.1.length (atI (0:Int) s2.1.length (if ((decide ((s2.1.getD s8.toNat ((0:Int), (0:Int), [], ())).1 = (s2.1.getD (0:Int).toNat ((0:Int), (0:Int), [], ())).1)) && ((decide (((s2.1.getD s8.toNat ((0:Int), (0:Int), [], ())).2).1 = ((s2.1.getD (0:Int).toNat ((0:Int), (0:Int), [], ())).2).1)) && (decide ((((s2.1.getD s8.toNat ((0:Int), (0:Int), [], ())).2).2).1 = (((s2.1.getD (0:Int).toNat ((0:Int), (0:Int), [], ())).2).2).1)))) = true then (rec9 (IntKind.i64.wrap (s8 + 1))) else (J5 s8)))) else (J5 s8))) n (1:Int))) else (some ((s2.2, true, ()), ())))) n (x.2.1, []))))
def h91 : Hints := ⟨[(2, ⟨[(6, .val tI)], [1], []⟩), (0, ⟨[(1, .val (.sl .imm 32 (.st (.pair tI (.pair tI (.pair .str .unit)))))), (4, .val (.sl .own 1 tB))], [], []⟩)], [(14, ⟨[(6, .val tI)], [1], [4]⟩)]⟩
def ft91 (n : Nat) : List (Nat × FEnt) := [(33, ⟨s33, a3r n⟩), (119, ⟨s119, b9f n⟩), (120, ⟨s120, b5g n⟩)]
def c91 (n : Nat) : Ctx := ⟨43, find? tys, find? (ft91 n), gls, [], [], []⟩
theorem e91 (n x) : a0m (c91 n) h91 n Go.Proofs.Tryz.f91 s91 x = b1z n x := by kernel_rfl
theorem fn91 : P.funcs[91]? = some Go.Proofs.Tryz.f91 := by kernel_rfl
theorem f1v : a0b P 91 := a0d (by kernel_rfl)
theorem S91 (A : Amb) (n : Nat) : a0s A P (c91 n) 91 s91 (b1z n) :=
 a0a mixed (tab rfl) (a0o (C := c91 n) (l := ft91 n) rfl ⟨⟨c8r, (S33 A n).of rfl⟩, ⟨f3p, (S119 A n).of rfl⟩, ⟨f3o, (S120 A n).of rfl⟩, trivial⟩) fn91 fun x y h => (e91 n x).trans h
def s122 : Sig := ⟨[.val tI, .val (.sl .imm 32 (.st (.pair tI (.pair tI (.pair .str .unit)))))], [.val .bool]⟩
def a7o (n : Nat) (x : Int × (List V4) × Unit) : Option ((Bool × Unit) × (Unit)) :=
 (if (decide (x.1 < 1)) = true then (some ((false, ()), ())) else (if (decide ((3:Int) < x.1)) = true then (some ((false, ()), ())) else (a1d (fun rec2 (s1 : Int) => (if (decide (s1 < (x.2.1.length : Int))) = true then (atI s1 x.2.1.length (if (!decide ((x.2.1.getD s1.toNat ((0:Int), (0:Int), [], ())).1 = x.1)) = true then (some ((false, ()), ())) else ((a2r n ((x.2.1.getD s1.toNat ((0:Int), (0:Int), [], ())), ())).bind fun y3 => (if (!y3.1.1) = true then (some ((false, ()), ())) else (rec2 (IntKind.i64.wrap (s1 + 1))))))) else (some ((true, ()), ())))) n (0:Int))))
def h122 : Hints := ⟨[(0, ⟨[(15, .val tI)], [0, 13, 14], []⟩)], []⟩
def f8x (n : Nat) : List (Nat × FEnt) := [(64, ⟨s64, a2r n⟩)]
def c122 (n : Nat) : Ctx := ⟨29, find? tys, find? (f8x n), gls, [], [], []⟩
theorem e122 (n x) : a0m (c122 n) h122 n Go.Proofs.Tryz.f122 s122 x = a7o n x := by kernel_rfl
theorem f9p : P.funcs[122]? = some Go.Proofs.Tryz.f122 := by kernel_rfl
theorem f4v : a0b P 122 := a0d (by kernel_rfl)
theorem S122 (A : Amb) (n : Nat) : a0s A P (c122 n) 122 s122 (a7o n) :=
 a0a mixed (tab rfl) (a0o (C := c122 n) (l := f8x n) rfl ⟨⟨d0q, (S64 A n).of rfl⟩, trivial⟩) f9p fun x y h => (e122 n x).trans h
def s93 : Sig := ⟨[.val tI, .val (.sl .imm 32 (.st (.pair tI (.pair tI (.pair .str .unit)))))], [.val (.sl .imm 1 tB), .val .bool]⟩
def a9x (n : Nat) (x : Int × (List V4) × Unit) : Option ((List Int × Bool × Unit) × (Unit)) :=
 ((a7o n (x.1, x.2.1, ())).bind fun y1 => (if (!y1.1.1) = true then (some (([], false, ()), ())) else (if (decide ((x.2.1.length : Int) = 0)) = true then (some (([], true, ()), ())) else (atI (0:Int) x.2.1.length (a1d (fun rec3 (s2 : Int × Int) => (if (decide (s2.2 < (x.2.1.length : Int))) = true then (atI s2.2 x.2.1.length (rec3 ((if s2.1 ≤ ((x.2.1.getD s2.2.toNat ((0:Int), (0:Int), [], ())).2).1 then s2.1 else ((x.2.1.getD s2.2.toNat ((0:Int), (0:Int), [], ())).2).1), (IntKind.i64.wrap (s2.2 + 1))))) else (a1d (fun rec5 (s4 : List Int × Int) => (if (decide (s4.2 < (x.2.1.length : Int))) = true then (atI s4.2 x.2.1.length (if (s4.1.length + [(IntKind.u64.wrap ((IntKind.u64.wrap (((x.2.1.getD s4.2.toNat ((0:Int), (0:Int), [], ())).2).1)) - (IntKind.u64.wrap s2.1)))].length) * 8 ≤ room then (rec5 ((s4.1 ++ [(IntKind.u64.wrap ((IntKind.u64.wrap (((x.2.1.getD s4.2.toNat ((0:Int), (0:Int), [], ())).2).1)) - (IntKind.u64.wrap s2.1)))]), (IntKind.i64.wrap (s4.2 + 1)))) else none)) else ((a5d n (s4.1, ())).bind fun y6 => ((a7n n (s4.1, y6.1.1, ())).bind fun y7 => ((a5n n (s2.1, ())).bind fun y8 => ((a3r n (y8.1.1, ())).bind fun y9 => (if (y9.1.1.length + [(IntKind.u8.wrap y6.1.1)].length) * 1 ≤ room then (if ((y9.1.1 ++ [(IntKind.u8.wrap y6.1.1)]).length + y7.1.1.length) * 1 ≤ room then (some ((((y9.1.1 ++ [(IntKind.u8.wrap y6.1.1)]) ++ y7.1.1), y7.1.2.1, ()), ())) else none) else none))))))) n ([], (0:Int))))) n (((x.2.1.getD (0:Int).toNat ((0:Int), (0:Int), [], ())).2).1, (0:Int)))))))
def h93 : Hints := ⟨[(0, ⟨[(6, .val tI), (28, .val tI)], [1, 26, 27], []⟩), (2, ⟨[(9, .val (.sl .own 8 tU)), (39, .val tI)], [6, 37, 38], []⟩)], []⟩
def ft93 (n : Nat) : List (Nat × FEnt) := [(33, ⟨s33, a3r n⟩), (36, ⟨s36, a7n n⟩), (71, ⟨s71, a5n n⟩), (72, ⟨s72, a5d n⟩), (122, ⟨s122, a7o n⟩)]
def c93 (n : Nat) : Ctx := ⟨71, find? tys, find? (ft93 n), gls, [], [], []⟩
theorem e93 (n x) : a0m (c93 n) h93 n Go.Proofs.Tryz.f93 s93 x = a9x n x := by kernel_rfl
theorem fn93 : P.funcs[93]? = some Go.Proofs.Tryz.f93 := by kernel_rfl
theorem f1j : a0b P 93 := a0d (by kernel_rfl)
theorem S93 (A : Amb) (n : Nat) : a0s A P (c93 n) 93 s93 (a9x n) :=
 a0a mixed (tab rfl) (a0o (C := c93 n) (l := ft93 n) rfl ⟨⟨c8r, (S33 A n).of rfl⟩, ⟨e5s, (S36 A n).of rfl⟩, ⟨d6j, (S71 A n).of rfl⟩, ⟨e7d, (S72 A n).of rfl⟩, ⟨f4v, (S122 A n).of rfl⟩, trivial⟩) fn93 fun x y h => (e93 n x).trans h
def s95 : Sig := ⟨[.val tI, .val (.sl .imm 32 (.st (.pair tI (.pair tI (.pair .str .unit)))))], [.val (.sl .imm 1 tB), .val .bool]⟩
def a8n (n : Nat) (x : Int × (List V4) × Unit) : Option ((List Int × Bool × Unit) × (Unit)) :=
 (b3r (fun (s1 : List Int) => (a1d (fun rec4 (s3 : List Int × Int × Int) => (if (decide (s3.2.2 < (x.2.1.length : Int))) = true then (atI s3.2.2 x.2.1.length (if (!decide ((x.2.1.getD s3.2.2.toNat ((0:Int), (0:Int), [], ())).1 = x.1)) = true then (some (([], false, ()), ())) else ((a2r n ((x.2.1.getD s3.2.2.toNat ((0:Int), (0:Int), [], ())), ())).bind fun y5 => (if (!y5.1.1) = true then (some (([], false, ()), ())) else ((a5n n ((IntKind.i64.wrap (IntKind.u64.wrap ((IntKind.u64.wrap (((x.2.1.getD s3.2.2.toNat ((0:Int), (0:Int), [], ())).2).1)) - s3.2.1))), ())).bind fun y6 => ((a3r n (y6.1.1, ())).bind fun y7 => (if (s3.1.length + y7.1.1.length) * 1 ≤ room then (rec4 ((s3.1 ++ y7.1.1), (IntKind.u64.wrap (((x.2.1.getD s3.2.2.toNat ((0:Int), (0:Int), [], ())).2).1)), (IntKind.i64.wrap (s3.2.2 + 1)))) else none))))))) else (some ((s3.1, true, ()), ())))) n (s1, (0:Int), (0:Int)))) fun J2 => (if (!decide (x.1 = (1:Int))) = true then (if (!decide (x.1 = (2:Int))) = true then (some (([], false, ()), ())) else (J2 [])) else (J2 [])))
def h95 : Hints := ⟨[(0, ⟨[(4, .val (.sl .own 1 tB)), (6, .val tU), (17, .val tI)], [0, 15, 16], []⟩)], [(6, ⟨[(4, .val (.sl .own 1 tB))], [0, 1], []⟩)]⟩
def ft95 (n : Nat) : List (Nat × FEnt) := [(33, ⟨s33, a3r n⟩), (64, ⟨s64, a2r n⟩), (71, ⟨s71, a5n n⟩)]
def c95 (n : Nat) : Ctx := ⟨45, find? tys, find? (ft95 n), gls, [], [], []⟩
theorem e95 (n x) : a0m (c95 n) h95 n Go.Proofs.Tryz.f95 s95 x = a8n n x := by kernel_rfl
theorem fn95 : P.funcs[95]? = some Go.Proofs.Tryz.f95 := by kernel_rfl
theorem f2h : a0b P 95 := a0d (by kernel_rfl)
theorem S95 (A : Amb) (n : Nat) : a0s A P (c95 n) 95 s95 (a8n n) :=
 a0a mixed (tab rfl) (a0o (C := c95 n) (l := ft95 n) rfl ⟨⟨c8r, (S33 A n).of rfl⟩, ⟨d0q, (S64 A n).of rfl⟩, ⟨d6j, (S71 A n).of rfl⟩, trivial⟩) fn95 fun x y h => (e95 n x).trans h
def s21 : Sig := ⟨[.val tI, .val tI, .val (.sl .imm 32 (.st (.pair tI (.pair tI (.pair .str .unit)))))], [.val (.sl .own 1 tB), .val .bool]⟩
def a1g (n : Nat) (x : Int × Int × (List V4) × Unit) : Option ((List Int × Bool × Unit) × (Unit)) :=
 ((a2p n (x.1, x.2.1, ())).bind fun y1 => (if (!y1.1.2.1) = true then (some (([], false, ()), ())) else ((a0n n (x.2.2.1, (fun c => (a9h n (c, x.2.1, ())).bind fun r => some r.1.1), ())).bind fun y2 => (if y2.1.1 = true then (some (([], false, ()), ())) else (b3r (fun (s3 : List Int) => ((a5k n ()).bind fun y5 => ((a0u n (x.2.2.1, ())).bind fun y6 => ((a0t n (y6.1.1, (fun c => (a3i n (c, ())).bind fun r => some r.1.1), ())).bind fun y7 => (if (y1.1.1, y1.1.1, ()).1 = (1:Int) then ((a8m n (x.2.1, y7.1.1, ())).bind fun y12 => (if (!y12.1.2.1) = true then (some (([], false, ()), ())) else (if (s3.length + y12.1.1.length) * 1 ≤ room then (some (((s3 ++ y12.1.1), true, ()), ())) else none))) else (if (y1.1.1, y1.1.1, ()).1 = (2:Int) then ((b1z n (x.2.1, y7.1.1, ())).bind fun y11 => (if (!y11.1.2.1) = true then (some (([], false, ()), ())) else (if (s3.length + y11.1.1.length) * 1 ≤ room then (some (((s3 ++ y11.1.1), true, ()), ())) else none))) else (if (y1.1.1, y1.1.1, ()).1 = (3:Int) then ((b0e n (x.2.1, y7.1.1, ())).bind fun y10 => (if (!y10.1.2.1) = true then (some (([], false, ()), ())) else (if (s3.length + y10.1.1.length) * 1 ≤ room then (some (((s3 ++ y10.1.1), true, ()), ())) else none))) else (if (y1.1.1, y1.1.1, ()).1 = (4:Int) then ((a9x n (x.2.1, y7.1.1, ())).bind fun y9 => (if (!y9.1.2.1) = true then (some (([], false, ()), ())) else (if (s3.length + y9.1.1.length) * 1 ≤ room then (some (((s3 ++ y9.1.1), true, ()), ())) else none))) else (if (y1.1.1, y1.1.1, ()).1 = (5:Int) then ((a8n n (x.2.1, y7.1.1, ())).bind fun y8 => (if (!y8.1.2.1) = true then (some (([], false, ()), ())) else (if (s3.length + y8.1.1.length) * 1 ≤ room then (some (((s3 ++ y8.1.1), true, ()), ())) else none))) else none))))))))) fun J4 => ((a0n n (x.2.2.1, (fun c => (a3i n (c, ())).bind fun r => some r.1.1), ())).bind fun y13 => (if y13.1.1 = true then (a1d (fun rec15 (s14 : List Bool × Int) => (if (decide (s14.2 < (x.2.2.1.length : Int))) = true then (atI s14.2 x.2.2.1.length ((a3i n ((x.2.2.1.getD s14.2.toNat ((0:Int), (0:Int), [], ())), ())).bind fun y16 => (if (s14.1.length + ([y16.1.1] : List Bool).length) * 1 ≤ room then (rec15 ((s14.1 ++ ([y16.1.1] : List Bool)), (IntKind.i64.wrap (s14.2 + 1)))) else none))) else (if 0 ≤ (1:Int) ∧ (1:Int) ≤ ([(IntKind.u8.wrap y1.1.1), (0:Int)].length : Int) then ((a7a n (s14.1, ())).bind fun y17 => (if ([(1:Int)].length + y17.1.1.length) * 1 ≤ room then (if (([(IntKind.u8.wrap y1.1.1), (0:Int)].take (1:Int).toNat).length + ([(1:Int)] ++ y17.1.1).length) * 1 ≤ room then (J4 (([(IntKind.u8.wrap y1.1.1), (0:Int)].take (1:Int).toNat) ++ ([(1:Int)] ++ y17.1.1))) else none) else none)) else none))) n ([], (0:Int))) else (J4 [(IntKind.u8.wrap y1.1.1), (0:Int)]))))))))
def h21 : Hints := ⟨[(0, ⟨[(11, .val (.sl .own 1 .bool)), (35, .val tI)], [2, 4, 8, 33, 34], [10]⟩)], [(26, ⟨[(10, .val (.sl .own 1 tB))], [2, 4, 8], []⟩)]⟩
def ft21 (n : Nat) : List (Nat × FEnt) := [(11, ⟨s11, b0e n⟩), (19, ⟨s19, a2p n⟩), (29, ⟨s29, a0u n⟩), (49, ⟨s49, a0n n⟩), (50, ⟨s50, a9h n⟩), (52, ⟨s52, a3i n⟩), (53, ⟨s53, a7a n⟩), (54, ⟨s54, a5k n⟩), (55, ⟨s55, a0t n⟩), (89, ⟨s89, a8m n⟩), (91, ⟨s91, b1z n⟩), (93, ⟨s93, a9x n⟩), (95, ⟨s95, a8n n⟩)]
def c21 (n : Nat) : Ctx := ⟨69, find? tys, find? (ft21 n), gls, [], [4], []⟩
theorem e21 (n x) : a0m (c21 n) h21 n Go.Proofs.Tryz.f21 s21 x = a1g n x := by kernel_rfl
theorem fn21 : P.funcs[21]? = some Go.Proofs.Tryz.f21 := by kernel_rfl
theorem f1a : a0b P 21 := a0d (by kernel_rfl)
theorem S21 (A : Amb) (n : Nat) : a0s A P (c21 n) 21 s21 (a1g n) :=
 a0a mixed (tab rfl) (a0o (C := c21 n) (l := ft21 n) rfl ⟨⟨f1u, (S11 A n).of rfl⟩, ⟨f2q, (S19 A n).of rfl⟩, ⟨f1x, (S29 A n).of rfl⟩, ⟨f8g, (S49 A n).of rfl⟩, ⟨f9i, (S50 A n).of rfl⟩, ⟨f9g, (S52 A n).of rfl⟩, ⟨f2w, (S53 A n).of rfl⟩, ⟨f2b, (S54 A n).of rfl⟩, ⟨f9j, (S55 A n).of rfl⟩, ⟨f2j, (S89 A n).of rfl⟩, ⟨f1v, (S91 A n).of rfl⟩, ⟨f1j, (S93 A n).of rfl⟩, ⟨f2h, (S95 A n).of rfl⟩, trivial⟩) fn21 fun x y h => (e21 n x).trans h
def c0z : Sig := ⟨[.val tI, .val tI, .val (.sl .imm 32 (.st (.pair tI (.pair tI (.pair .str .unit)))))], [.val (.sl .imm 1 tB), .val .bool]⟩
theorem e8v (A : Amb) (n : Nat) : a0s A P (c21 n) 21 c0z (a1g n) :=
 c7t (e := 1) (te := tB) rfl rfl rfl (S21 A n)
def s60 : Sig := ⟨[.val (.sl .imm 1 tB), .val (.sl .imm 1 tB)], [.val .bool]⟩
def a0j (n : Nat) (x : List Int × List Int × Unit) : Option ((Bool × Unit) × (Unit)) :=
 (some (((decide (x.1 = x.2.1)), ()), ()))
def h60 : Hints := ⟨[], []⟩
def ft60 (n : Nat) : List (Nat × FEnt) := []
def c60 (n : Nat) : Ctx := ⟨10, find? tys, find? (ft60 n), gls, [], [], []⟩
theorem e60 (n x) : a0m (c60 n) h60 n Go.Proofs.Tryz.f60 s60 x = a0j n x := by kernel_rfl
theorem fn60 : P.funcs[60]? = some Go.Proofs.Tryz.f60 := by kernel_rfl
theorem c4g : a0b P 60 := a0d (by kernel_rfl)
theorem S60 (A : Amb) (n : Nat) : a0s A P (c60 n) 60 s60 (a0j n) :=
 a0a mixed (tab rfl) (a0o (C := c60 n) (l := ft60 n) rfl trivial) fn60 fun x y h => (e60 n x).trans h
def s114 : Sig := ⟨[.val (.sl .imm 1 tB)], [.val tU, .val tI, .val .err]⟩
def b2t (n : Nat) (x : List Int × Unit) : Option ((Int × Int × UV × Unit) × (Unit)) :=
 (a1d (fun rec2 (s1 : Int × Int) => (if (decide (s1.2 < 10)) = true then (if (decide (s1.2 = (x.1.length : Int))) = true then (some (((0:Int), (0:Int), (UV.node a9g (.pair (.str [98, 121, 116, 101]) (.pair (UV.sent b1w) .unit))), ()), ())) else (atI s1.2 x.1.length (if (IntKind.i64.wrap ((7:Int) * s1.2)) < 0 then none else (if (decide ((bits .and .u8 (x.1.getD s1.2.toNat (0:Int)) (128:Int)) = (0:Int))) = true then (if (decide ((0:Int) < s1.2)) = true then (if (decide ((x.1.getD s1.2.toNat (0:Int)) = (0:Int))) = true then (some (((0:Int), (0:Int), (UV.node a9g (.pair (.str [98, 121, 116, 101]) (.pair (UV.sent a4y) .unit))), ()), ())) else (if (decide (s1.2 = 9)) = true then (if (decide ((1:Int) < (x.1.getD s1.2.toNat (0:Int)))) = true then (some (((0:Int), (0:Int), (UV.node a9g (.pair (.str [98, 121, 116, 101]) (.pair (UV.sent a4y) .unit))), ()), ())) else (some (((bits .or .u64 s1.1 (IntKind.u64.wrap ((IntKind.u64.wrap (bits .and .u8 (x.1.getD s1.2.toNat (0:Int)) (127:Int))) * 2 ^ min (IntKind.i64.wrap ((7:Int) * s1.2)).toNat IntKind.u64.bits))), (IntKind.i64.wrap (s1.2 + 1)), UV.nil, ()), ()))) else (some (((bits .or .u64 s1.1 (IntKind.u64.wrap ((IntKind.u64.wrap (bits .and .u8 (x.1.getD s1.2.toNat (0:Int)) (127:Int))) * 2 ^ min (IntKind.i64.wrap ((7:Int) * s1.2)).toNat IntKind.u64.bits))), (IntKind.i64.wrap (s1.2 + 1)), UV.nil, ()), ())))) else (if (decide (s1.2 = 9)) = true then (if (decide ((1:Int) < (x.1.getD s1.2.toNat (0:Int)))) = true then (some (((0:Int), (0:Int), (UV.node a9g (.pair (.str [98, 121, 116, 101]) (.pair (UV.sent a4y) .unit))), ()), ())) else (some (((bits .or .u64 s1.1 (IntKind.u64.wrap ((IntKind.u64.wrap (bits .and .u8 (x.1.getD s1.2.toNat (0:Int)) (127:Int))) * 2 ^ min (IntKind.i64.wrap ((7:Int) * s1.2)).toNat IntKind.u64.bits))), (IntKind.i64.wrap (s1.2 + 1)), UV.nil, ()), ()))) else (some (((bits .or .u64 s1.1 (IntKind.u64.wrap ((IntKind.u64.wrap (bits .and .u8 (x.1.getD s1.2.toNat (0:Int)) (127:Int))) * 2 ^ min (IntKind.i64.wrap ((7:Int) * s1.2)).toNat IntKind.u64.bits))), (IntKind.i64.wrap (s1.2 + 1)), UV.nil, ()), ())))) else (rec2 ((bits .or .u64 s1.1 (IntKind.u64.wrap ((IntKind.u64.wrap (bits .and .u8 (x.1.getD s1.2.toNat (0:Int)) (127:Int))) * 2 ^ min (IntKind.i64.wrap ((7:Int) * s1.2)).toNat IntKind.u64.bits))), (IntKind.i64.wrap (s1.2 + 1)))))))) else (some (((0:Int), (0:Int), (UV.node a9g (.pair (.str [98, 121, 116, 101]) (.pair (UV.sent a4y) .unit))), ()), ())))) n ((0:Int), (0:Int)))
def h114 : Hints := ⟨[(0, ⟨[(2, .val tU), (3, .val tI)], [0], []⟩)], []⟩
def f7w (n : Nat) : List (Nat × FEnt) := []
def c114 (n : Nat) : Ctx := ⟨52, find? tys, find? (f7w n), gls, [], [], []⟩
theorem e114 (n x) : a0m (c114 n) h114 n Go.Proofs.Tryz.f114 s114 x = b2t n x := by kernel_rfl
theorem f9v : P.funcs[114]? = some Go.Proofs.Tryz.f114 := by kernel_rfl
theorem f4u : a0b P 114 := a0d (by kernel_rfl)
theorem S114 (A : Amb) (n : Nat) : a0s A P (c114 n) 114 s114 (b2t n) :=
 a0a mixed (tab rfl) (a0o (C := c114 n) (l := f7w n) rfl trivial) f9v fun x y h => (e114 n x).trans h
def s78 : Sig := ⟨[.val (.sl .imm 1 tB)], [.val tU, .val tI, .val .bool]⟩
def a3b (n : Nat) (x : List Int × Unit) : Option ((Int × Int × Bool × Unit) × (Unit)) :=
 ((b2t n (x.1, ())).bind fun y1 => ((a2b n (y1.1.2.2.1, (UV.sent b1w), ())).bind fun y2 => (if (!y2.1.1) = true then ((a2b n (y1.1.2.2.1, (UV.sent a4y), ())).bind fun y3 => (some ((y1.1.1, y1.1.2.1, (!y3.1.1), ()), ()))) else (some ((y1.1.1, y1.1.2.1, false, ()), ())))))
def h78 : Hints := ⟨[], []⟩
def ft78 (n : Nat) : List (Nat × FEnt) := [(46, ⟨s46, a2b n⟩), (114, ⟨s114, b2t n⟩)]
def c78 (n : Nat) : Ctx := ⟨24, find? tys, find? (ft78 n), gls, [], [], []⟩
theorem e78 (n x) : a0m (c78 n) h78 n Go.Proofs.Tryz.f78 s78 x = a3b n x := by kernel_rfl
theorem fn78 : P.funcs[78]? = some Go.Proofs.Tryz.f78 := by kernel_rfl
theorem c8b : a0b P 78 := a0d (by kernel_rfl)
theorem S78 (A : Amb) (hA : HA A) (n : Nat) : a0s A P (c78 n) 78 s78 (a3b n) :=
 a0a mixed (tab rfl) (a0o (C := c78 n) (l := ft78 n) rfl ⟨⟨c9q, (S46 A hA n).of rfl⟩, ⟨f4u, (S114 A n).of rfl⟩, trivial⟩) fn78 fun x y h => (e78 n x).trans h
def s115 : Sig := ⟨[.val tU], [.val tI]⟩
def a6a (n : Nat) (x : Int × Unit) : Option ((Int × Unit) × (Unit)) :=
 (some (((bits .xor .i64 (IntKind.i64.wrap (x.1.fdiv (2 ^ min (1:Int).toNat IntKind.u64.bits))) (IntKind.i64.wrap (0 - (IntKind.i64.wrap (bits .and .u64 x.1 (1:Int)))))), ()), ()))
def h115 : Hints := ⟨[], []⟩
def f8c (n : Nat) : List (Nat × FEnt) := []
def c115 (n : Nat) : Ctx := ⟨11, find? tys, find? (f8c n), gls, [], [], []⟩
theorem e115 (n x) : a0m (c115 n) h115 n Go.Proofs.Tryz.f115 s115 x = a6a n x := by kernel_rfl
theorem g0v : P.funcs[115]? = some Go.Proofs.Tryz.f115 := by kernel_rfl
theorem c6z : a0b P 115 := a0d (by kernel_rfl)
theorem S115 (A : Amb) (n : Nat) : a0s A P (c115 n) 115 s115 (a6a n) :=
 a0a mixed (tab rfl) (a0o (C := c115 n) (l := f8c n) rfl trivial) g0v fun x y h => (e115 n x).trans h
def s79 : Sig := ⟨[.val tI, .val (.sl .imm 1 tB)], [.val (.st (.pair tI (.pair tI (.pair .str .unit)))), .val tI, .val .err]⟩
def b0b (n : Nat) (x : Int × List Int × Unit) : Option ((V4 × Int × UV × Unit) × (Unit)) :=
 (b3r (fun (s1 : Int × Int × List Int × Unit) => (atI (0:Int) x.2.1.length (if (decide ((x.2.1.length : Int) < (IntKind.i64.wrap ((1:Int) + (IntKind.i64.wrap (x.2.1.getD (0:Int).toNat (0:Int))))))) = true then (some ((s1, (0:Int), (UV.node a3k (.pair (.str [111, 102, 32, 98, 121, 116, 101, 115]) (.pair (UV.sent a1h) .unit))), ()), ())) else (if 0 ≤ (1:Int) ∧ (1:Int) ≤ (IntKind.i64.wrap ((1:Int) + (IntKind.i64.wrap (x.2.1.getD (0:Int).toNat (0:Int))))) ∧ (IntKind.i64.wrap ((1:Int) + (IntKind.i64.wrap (x.2.1.getD (0:Int).toNat (0:Int))))) ≤ (x.2.1.length : Int) then (some (((s1.1, s1.2.1, ((x.2.1.take (IntKind.i64.wrap ((1:Int) + (IntKind.i64.wrap (x.2.1.getD (0:Int).toNat (0:Int))))).toNat).drop (1:Int).toNat), s1.2.2.2), (IntKind.i64.wrap ((1:Int) + (IntKind.i64.wrap (x.2.1.getD (0:Int).toNat (0:Int))))), UV.nil, ()), ())) else none)))) fun J2 => (if (!decide (x.1 = (3:Int))) = true then (if (!decide (x.1 = (4:Int))) = true then ((a3b n (x.2.1, ())).bind fun y3 => (if (!y3.1.2.2.1) = true then (some (((x.1, (0:Int), [], ()), (0:Int), (UV.node a3k (.pair (.str [110, 111, 32, 110, 117, 109, 98, 101, 114]) (.pair (UV.sent a1h) .unit))), ()), ())) else ((a6a n (y3.1.1, ())).bind fun y4 => (some (((x.1, y4.1.1, [], ()), y3.1.2.1, UV.nil, ()), ()))))) else (if (decide ((x.2.1.length : Int) = 0)) = true then (some (((x.1, (0:Int), [], ()), (0:Int), (UV.node a3k (.pair (.str [110, 111, 32, 98, 121, 116, 101]) (.pair (UV.sent a1h) .unit))), ()), ())) else (if (decide (x.1 = 3)) = true then (atI (0:Int) x.2.1.length (some (((x.1, (IntKind.i64.wrap (x.2.1.getD (0:Int).toNat (0:Int))), [], ()), (1:Int), UV.nil, ()), ()))) else (J2 (x.1, (0:Int), [], ()))))) else (if (decide ((x.2.1.length : Int) = 0)) = true then (some (((x.1, (0:Int), [], ()), (0:Int), (UV.node a3k (.pair (.str [110, 111, 32, 98, 121, 116, 101]) (.pair (UV.sent a1h) .unit))), ()), ())) else (if (decide (x.1 = 3)) = true then (atI (0:Int) x.2.1.length (some (((x.1, (IntKind.i64.wrap (x.2.1.getD (0:Int).toNat (0:Int))), [], ()), (1:Int), UV.nil, ()), ()))) else (J2 (x.1, (0:Int), [], ()))))))
def h79 : Hints := ⟨[], [(26, ⟨[(4, .box (.st (.pair tI (.pair tI (.pair .str .unit)))))], [1], []⟩)]⟩
def ft79 (n : Nat) : List (Nat × FEnt) := [(78, ⟨s78, a3b n⟩), (115, ⟨s115, a6a n⟩)]
def c79 (n : Nat) : Ctx := ⟨73, find? tys, find? (ft79 n), gls, [], [], []⟩
theorem e79 (n x) : a0m (c79 n) h79 n Go.Proofs.Tryz.f79 s79 x = b0b n x := by kernel_rfl
theorem fn79 : P.funcs[79]? = some Go.Proofs.Tryz.f79 := by kernel_rfl
theorem f7u : a0b P 79 := a0d (by kernel_rfl)
theorem S79 (A : Amb) (hA : HA A) (n : Nat) : a0s A P (c79 n) 79 s79 (b0b n) :=
 a0a mixed (tab rfl) (a0o (C := c79 n) (l := ft79 n) rfl ⟨⟨c8b, (S78 A hA n).of rfl⟩, ⟨c6z, (S115 A n).of rfl⟩, trivial⟩) fn79 fun x y h => (e79 n x).trans h
def s80 : Sig := ⟨[.val (.sl .imm 1 tB), .val tI, .val tI], [.val (.sl .imm 8 tU), .val .bool]⟩
def a8e (n : Nat) (x : List Int × Int × Int × Unit) : Option ((List Int × Bool × Unit) × (Unit)) :=
 (if (decide (x.2.1 < 0)) = true then (some (([], false, ()), ())) else (if (decide ((1000:Int) < x.2.1)) = true then (some (([], false, ()), ())) else (if (decide (x.2.2.1 < 0)) = true then (some (([], false, ()), ())) else (if (decide ((64:Int) < x.2.2.1)) = true then (some (([], false, ()), ())) else ((a7y n ((IntKind.i64.wrap (x.2.1 * x.2.2.1)), ())).bind fun y1 => (if (!decide ((x.1.length : Int) = y1.1.1)) = true then (some (([], false, ()), ())) else (if 0 ≤ x.2.1 ∧ x.2.1 ≤ x.2.1 ∧ x.2.1 * 8 ≤ room then (a1d (fun rec3 (s2 : List Int × Int) => (if (decide (s2.2 < (IntKind.i64.wrap (x.2.1 * x.2.2.1)))) = true then (if x.2.2.1 = 0 then none else (atI (IntKind.i64.wrap (s2.2.tdiv x.2.2.1)) s2.1.length (atI (IntKind.i64.wrap (s2.2.tdiv (8:Int))) x.1.length (if (s2.2.tmod (8:Int)) < 0 then none else (if x.2.2.1 = 0 then none else (if (s2.2.tmod x.2.2.1) < 0 then none else (atI (IntKind.i64.wrap (s2.2.tdiv x.2.2.1)) s2.1.length (rec3 ((s2.1.set (IntKind.i64.wrap (s2.2.tdiv x.2.2.1)).toNat (bits .or .u64 (s2.1.getD (IntKind.i64.wrap (s2.2.tdiv x.2.2.1)).toNat (0:Int)) (IntKind.u64.wrap ((IntKind.u64.wrap (bits .and .u8 ((x.1.getD (IntKind.i64.wrap (s2.2.tdiv (8:Int))).toNat (0:Int)).fdiv (2 ^ min (s2.2.tmod (8:Int)).toNat IntKind.u8.bits)) (1:Int))) * 2 ^ min (s2.2.tmod x.2.2.1).toNat IntKind.u64.bits)))), (IntKind.i64.wrap (s2.2 + 1))))))))))) else ((a7n n (s2.1, x.2.2.1, ())).bind fun y4 => ((a0j n (y4.1.1, x.1, ())).bind fun y5 => (if (!y5.1.1) = true then (some (([], false, ()), ())) else (some ((s2.1, true, ()), ()))))))) n ((List.replicate x.2.1.toNat (0:Int)), (0:Int))) else none)))))))
def h80 : Hints := ⟨[(0, ⟨[(8, .val (.sl .own 8 tU)), (40, .val tI)], [0, 2, 39], []⟩)], []⟩
def ft80 (n : Nat) : List (Nat × FEnt) := [(36, ⟨s36, a7n n⟩), (60, ⟨s60, a0j n⟩), (73, ⟨s73, a7y n⟩)]
def c80 (n : Nat) : Ctx := ⟨77, find? tys, find? (ft80 n), gls, [], [], []⟩
theorem e80 (n x) : a0m (c80 n) h80 n Go.Proofs.Tryz.f80 s80 x = a8e n x := by kernel_rfl
theorem fn80 : P.funcs[80]? = some Go.Proofs.Tryz.f80 := by kernel_rfl
theorem f1i : a0b P 80 := a0d (by kernel_rfl)
theorem S80 (A : Amb) (n : Nat) : a0s A P (c80 n) 80 s80 (a8e n) :=
 a0a mixed (tab rfl) (a0o (C := c80 n) (l := ft80 n) rfl ⟨⟨e5s, (S36 A n).of rfl⟩, ⟨c4g, (S60 A n).of rfl⟩, ⟨f1p, (S73 A n).of rfl⟩, trivial⟩) fn80 fun x y h => (e80 n x).trans h
def s45 : Sig := ⟨[.val tI, .val tI, .val (.sl .imm 1 tB)], [.val (.sl .imm 32 (.st (.pair tI (.pair tI (.pair .str .unit))))), .val .err]⟩
def a8o (n : Nat) (x : Int × Int × List Int × Unit) : Option (((List V4) × UV × Unit) × (Unit)) :=
 ((a3b n (x.2.2.1, ())).bind fun y1 => (if (decide (x.2.1 < 0)) = true then (some (([], (UV.node a3k (.pair (.str [118, 97, 108, 117, 101, 115, 32, 111, 102]) (.pair (UV.sent a1h) .unit))), ()), ())) else (if (decide ((1000:Int) < x.2.1)) = true then (some (([], (UV.node a3k (.pair (.str [118, 97, 108, 117, 101, 115, 32, 111, 102]) (.pair (UV.sent a1h) .unit))), ()), ())) else (if (!y1.1.2.2.1) = true then (some (([], (UV.node a3k (.pair (.str [118, 97, 108, 117, 101, 115, 32, 111, 102]) (.pair (UV.sent a1h) .unit))), ()), ())) else (if (decide ((IntKind.u64.wrap x.2.1) < y1.1.1)) = true then (some (([], (UV.node a3k (.pair (.str [118, 97, 108, 117, 101, 115, 32, 111, 102]) (.pair (UV.sent a1h) .unit))), ()), ())) else (if 0 ≤ y1.1.2.1 ∧ y1.1.2.1 ≤ (x.2.2.1.length : Int) then (a1d (fun rec3 (s2 : (List V4) × List Int × (List V4) × Int) => (if (decide (s2.2.2.2 < y1.1.1)) = true then ((b0b n (x.1, s2.2.1, ())).bind fun y4 => (if (!decide (y4.1.2.2.1 = UV.nil)) = true then (some (([], y4.1.2.2.1, ()), ())) else (if (s2.2.2.1.length + ([y4.1.1] : List V4).length) * 32 ≤ room then (if 0 ≤ y4.1.2.1 ∧ y4.1.2.1 ≤ (s2.2.1.length : Int) then (rec3 (s2.1, ((s2.2.1.take (s2.2.1.length : Int).toNat).drop y4.1.2.1.toNat), (s2.2.2.1 ++ ([y4.1.1] : List V4)), (IntKind.u64.wrap (s2.2.2.2 + 1)))) else none) else none))) else ((a6y n ((s2.2.2.1.length : Int), ())).bind fun y5 => ((a8e n (s2.2.1, x.2.1, y5.1.1, ())).bind fun y6 => (if (!y6.1.2.1) = true then (some (([], (UV.node a3k (.pair (.str [110, 111, 32, 112, 108, 97, 99, 101, 115]) (.pair (UV.sent a1h) .unit))), ()), ())) else (a1d (fun rec8 (s7 : (List V4) × Int) => (if (decide (s7.2 < (y6.1.1.length : Int))) = true then (atI s7.2 y6.1.1.length (if (decide (y1.1.1 ≤ (y6.1.1.getD s7.2.toNat (0:Int)))) = true then (some (([], (UV.node a3k (.pair (.str [112, 108, 97, 99, 101, 32, 111, 102]) (.pair (UV.sent a1h) .unit))), ()), ())) else (atI (y6.1.1.getD s7.2.toNat (0:Int)) s2.2.2.1.length (if (s7.1.length + ([(s2.2.2.1.getD (y6.1.1.getD s7.2.toNat (0:Int)).toNat ((0:Int), (0:Int), [], ()))] : List V4).length) * 32 ≤ room then (rec8 ((s7.1 ++ ([(s2.2.2.1.getD (y6.1.1.getD s7.2.toNat (0:Int)).toNat ((0:Int), (0:Int), [], ()))] : List V4)), (IntKind.i64.wrap (s7.2 + 1)))) else none)))) else ((b0e n (x.1, s7.1, ())).bind fun y9 => (if (!y9.1.2.1) = true then (some (([], (UV.node a3k (.pair (.str [110, 111, 116, 32, 106, 117, 115, 116, 32, 116, 104, 101, 115, 101]) (.pair (UV.sent a1h) .unit))), ()), ())) else ((a0j n (y9.1.1, x.2.2.1, ())).bind fun y10 => (if (!y10.1.1) = true then (some (([], (UV.node a3k (.pair (.str [110, 111, 116, 32, 106, 117, 115, 116, 32, 116, 104, 101, 115, 101]) (.pair (UV.sent a1h) .unit))), ()), ())) else (some ((s7.1, UV.nil, ()), ())))))))) n (s2.1, (0:Int)))))))) n ([], ((x.2.2.1.take (x.2.2.1.length : Int).toNat).drop y1.1.2.1.toNat), [], (0:Int))) else none))))))
def h45 : Hints := ⟨[(0, ⟨[(6, .val (.sl .own 32 (.st (.pair tI (.pair tI (.pair .str .unit)))))), (11, .val (.sl .imm 1 tB)), (12, .val (.sl .own 32 (.st (.pair tI (.pair tI (.pair .str .unit)))))), (50, .val tU)], [0, 1, 2, 8, 49], []⟩), (2, ⟨[(6, .val (.sl .own 32 (.st (.pair tI (.pair tI (.pair .str .unit)))))), (86, .val tI)], [0, 2, 8, 12, 84, 85], []⟩)], []⟩
def ft45 (n : Nat) : List (Nat × FEnt) := [(11, ⟨s11, b0e n⟩), (37, ⟨s37, a6y n⟩), (60, ⟨s60, a0j n⟩), (78, ⟨s78, a3b n⟩), (79, ⟨s79, b0b n⟩), (80, ⟨s80, a8e n⟩)]
def c45 (n : Nat) : Ctx := ⟨122, find? tys, find? (ft45 n), gls, [], [], []⟩
theorem e45 (n x) : a0m (c45 n) h45 n Go.Proofs.Tryz.f45 s45 x = a8o n x := by kernel_rfl
theorem fn45 : P.funcs[45]? = some Go.Proofs.Tryz.f45 := by kernel_rfl
theorem f8q : a0b P 45 := a0d (by kernel_rfl)
theorem S45 (A : Amb) (hA : HA A) (n : Nat) : a0s A P (c45 n) 45 s45 (a8o n) :=
 a0a mixed (tab rfl) (a0o (C := c45 n) (l := ft45 n) rfl ⟨⟨f1u, (S11 A n).of rfl⟩, ⟨f1e, (S37 A n).of rfl⟩, ⟨c4g, (S60 A n).of rfl⟩, ⟨c8b, (S78 A hA n).of rfl⟩, ⟨f7u, (S79 A hA n).of rfl⟩, ⟨f1i, (S80 A n).of rfl⟩, trivial⟩) fn45 fun x y h => (e45 n x).trans h
def s14 : Sig := ⟨[.val tI, .val tI, .val (.sl .imm 1 tB)], [.val (.sl .imm 32 (.st (.pair tI (.pair tI (.pair .str .unit))))), .val .bool]⟩
def a9s (n : Nat) (x : Int × Int × List Int × Unit) : Option (((List V4) × Bool × Unit) × (Unit)) :=
 ((a8o n (x.1, x.2.1, x.2.2.1, ())).bind fun y1 => ((a2b n (y1.1.2.1, (UV.sent a1h), ())).bind fun y2 => (some ((y1.1.1, (!y2.1.1), ()), ()))))
def h14 : Hints := ⟨[], []⟩
def ft14 (n : Nat) : List (Nat × FEnt) := [(45, ⟨s45, a8o n⟩), (46, ⟨s46, a2b n⟩)]
def c14 (n : Nat) : Ctx := ⟨22, find? tys, find? (ft14 n), gls, [], [], []⟩
theorem e14 (n x) : a0m (c14 n) h14 n Go.Proofs.Tryz.f14 s14 x = a9s n x := by kernel_rfl
theorem fn14 : P.funcs[14]? = some Go.Proofs.Tryz.f14 := by kernel_rfl
theorem f9h : a0b P 14 := a0d (by kernel_rfl)
theorem S14 (A : Amb) (hA : HA A) (n : Nat) : a0s A P (c14 n) 14 s14 (a9s n) :=
 a0a mixed (tab rfl) (a0o (C := c14 n) (l := ft14 n) rfl ⟨⟨f8q, (S45 A hA n).of rfl⟩, ⟨c9q, (S46 A hA n).of rfl⟩, trivial⟩) fn14 fun x y h => (e14 n x).trans h
def s98 : Sig := ⟨[.val (.sl .imm 1 tB), .val tI], [.val (.sl .imm 1 .bool), .val .err]⟩
def b2f (n : Nat) (x : List Int × Int × Unit) : Option ((List Bool × UV × Unit) × (Unit)) :=
 (if (decide (x.2.1 < 0)) = true then (some (([], (UV.node a6w (.pair (.str [98, 121, 116, 101, 115, 44]) (.pair (UV.sent a3d) .unit))), ()), ())) else (if (decide ((1000:Int) < x.2.1)) = true then (some (([], (UV.node a6w (.pair (.str [98, 121, 116, 101, 115, 44]) (.pair (UV.sent a3d) .unit))), ()), ())) else (if (!decide ((x.1.length : Int) = (IntKind.i64.wrap ((IntKind.i64.wrap (x.2.1 + 7)).tdiv (8:Int))))) = true then (some (([], (UV.node a6w (.pair (.str [98, 121, 116, 101, 115, 44]) (.pair (UV.sent a3d) .unit))), ()), ())) else (if 0 ≤ x.2.1 ∧ x.2.1 ≤ x.2.1 ∧ x.2.1 * 1 ≤ room then (a1d (fun rec2 (s1 : List Bool × Int) => (if (decide (s1.2 < ((List.replicate x.2.1.toNat false).length : Int))) = true then (atI (IntKind.i64.wrap (s1.2.tdiv (8:Int))) x.1.length (if (s1.2.tmod (8:Int)) < 0 then none else (atI s1.2 s1.1.length (rec2 ((s1.1.set s1.2.toNat (decide ((bits .and .u8 ((x.1.getD (IntKind.i64.wrap (s1.2.tdiv (8:Int))).toNat (0:Int)).fdiv (2 ^ min (s1.2.tmod (8:Int)).toNat IntKind.u8.bits)) (1:Int)) = (1:Int)))), (IntKind.i64.wrap (s1.2 + 1))))))) else ((a7a n (s1.1, ())).bind fun y3 => ((a0j n (y3.1.1, x.1, ())).bind fun y4 => (if (!y4.1.1) = true then (some (([], (UV.node a6w (.pair (.str [98, 101, 104, 105, 110, 100, 32, 116, 104, 101, 32, 108, 97, 115, 116]) (.pair (UV.sent a3d) .unit))), ()), ())) else (some ((s1.1, UV.nil, ()), ()))))))) n ((List.replicate x.2.1.toNat false), (0:Int))) else none))))
def h98 : Hints := ⟨[(0, ⟨[(6, .val (.sl .own 1 .bool)), (29, .val tI)], [0, 28], []⟩)], []⟩
def ft98 (n : Nat) : List (Nat × FEnt) := [(53, ⟨s53, a7a n⟩), (60, ⟨s60, a0j n⟩)]
def c98 (n : Nat) : Ctx := ⟨55, find? tys, find? (ft98 n), gls, [], [], []⟩
theorem e98 (n x) : a0m (c98 n) h98 n Go.Proofs.Tryz.f98 s98 x = b2f n x := by kernel_rfl
theorem fn98 : P.funcs[98]? = some Go.Proofs.Tryz.f98 := by kernel_rfl
theorem f5w : a0b P 98 := a0d (by kernel_rfl)
theorem S98 (A : Amb) (n : Nat) : a0s A P (c98 n) 98 s98 (b2f n) :=
 a0a mixed (tab rfl) (a0o (C := c98 n) (l := ft98 n) rfl ⟨⟨f2w, (S53 A n).of rfl⟩, ⟨c4g, (S60 A n).of rfl⟩, trivial⟩) fn98 fun x y h => (e98 n x).trans h
def s58 : Sig := ⟨[.val (.sl .imm 1 tB), .val tI], [.val (.sl .imm 1 .bool), .val .bool]⟩
def a9w (n : Nat) (x : List Int × Int × Unit) : Option ((List Bool × Bool × Unit) × (Unit)) :=
 ((b2f n (x.1, x.2.1, ())).bind fun y1 => ((a2b n (y1.1.2.1, (UV.sent a3d), ())).bind fun y2 => (some ((y1.1.1, (!y2.1.1), ()), ()))))
def h58 : Hints := ⟨[], []⟩
def ft58 (n : Nat) : List (Nat × FEnt) := [(46, ⟨s46, a2b n⟩), (98, ⟨s98, b2f n⟩)]
def c58 (n : Nat) : Ctx := ⟨19, find? tys, find? (ft58 n), gls, [], [], []⟩
theorem e58 (n x) : a0m (c58 n) h58 n Go.Proofs.Tryz.f58 s58 x = a9w n x := by kernel_rfl
theorem fn58 : P.funcs[58]? = some Go.Proofs.Tryz.f58 := by kernel_rfl
theorem f5x : a0b P 58 := a0d (by kernel_rfl)
theorem S58 (A : Amb) (hA : HA A) (n : Nat) : a0s A P (c58 n) 58 s58 (a9w n) :=
 a0a mixed (tab rfl) (a0o (C := c58 n) (l := ft58 n) rfl ⟨⟨c9q, (S46 A hA n).of rfl⟩, ⟨f5w, (S98 A n).of rfl⟩, trivial⟩) fn58 fun x y h => (e58 n x).trans h
def s59 : Sig := ⟨[.val (.sl .imm 1 .bool)], [.val tI]⟩
def a9a (n : Nat) (x : List Bool × Unit) : Option ((Int × Unit) × (Unit)) :=
 (a1d (fun rec2 (s1 : Int × Int) => (if (decide (s1.2 < (x.1.length : Int))) = true then (atI s1.2 x.1.length (if (x.1.getD s1.2.toNat false) = true then (rec2 ((IntKind.i64.wrap (s1.1 + 1)), (IntKind.i64.wrap (s1.2 + 1)))) else (rec2 (s1.1, (IntKind.i64.wrap (s1.2 + 1)))))) else (some ((s1.1, ()), ())))) n ((0:Int), (0:Int)))
def h59 : Hints := ⟨[(0, ⟨[(2, .val tI), (7, .val tI)], [5, 6], []⟩)], []⟩
def ft59 (n : Nat) : List (Nat × FEnt) := []
def c59 (n : Nat) : Ctx := ⟨16, find? tys, find? (ft59 n), gls, [], [], []⟩
theorem e59 (n x) : a0m (c59 n) h59 n Go.Proofs.Tryz.f59 s59 x = a9a n x := by kernel_rfl
theorem fn59 : P.funcs[59]? = some Go.Proofs.Tryz.f59 := by kernel_rfl
theorem f6c : a0b P 59 := a0d (by kernel_rfl)
theorem S59 (A : Amb) (n : Nat) : a0s A P (c59 n) 59 s59 (a9a n) :=
 a0a mixed (tab rfl) (a0o (C := c59 n) (l := ft59 n) rfl trivial) fn59 fun x y h => (e59 n x).trans h
def s132 : Sig := ⟨[.val tI, .val (.sl .imm 1 tB)], [.val (.st (.pair tI (.pair tI (.pair .str .unit)))), .val tI, .val .err]⟩
def a9d (n : Nat) (x : Int × List Int × Unit) : Option ((V4 × Int × UV × Unit) × (Unit)) :=
 (b3r (fun (s1 : Int × Int × List Int × Unit) => (atI (0:Int) x.2.1.length (if (decide ((x.2.1.length : Int) < (IntKind.i64.wrap ((1:Int) + (IntKind.i64.wrap (x.2.1.getD (0:Int).toNat (0:Int))))))) = true then (some ((s1, (0:Int), (UV.node a4i (.pair (.str [111, 102, 32, 98, 121, 116, 101, 115]) (.pair (UV.sent a2e) .unit))), ()), ())) else (if 0 ≤ (1:Int) ∧ (1:Int) ≤ (IntKind.i64.wrap ((1:Int) + (IntKind.i64.wrap (x.2.1.getD (0:Int).toNat (0:Int))))) ∧ (IntKind.i64.wrap ((1:Int) + (IntKind.i64.wrap (x.2.1.getD (0:Int).toNat (0:Int))))) ≤ (x.2.1.length : Int) then (some (((s1.1, s1.2.1, ((x.2.1.take (IntKind.i64.wrap ((1:Int) + (IntKind.i64.wrap (x.2.1.getD (0:Int).toNat (0:Int))))).toNat).drop (1:Int).toNat), s1.2.2.2), (IntKind.i64.wrap ((1:Int) + (IntKind.i64.wrap (x.2.1.getD (0:Int).toNat (0:Int))))), UV.nil, ()), ())) else none)))) fun J2 => (if (!decide (x.1 = (3:Int))) = true then (if (!decide (x.1 = (4:Int))) = true then ((a3b n (x.2.1, ())).bind fun y3 => (if (!y3.1.2.2.1) = true then (some (((x.1, (0:Int), [], ()), (0:Int), (UV.node a4i (.pair (.str [110, 111, 32, 110, 117, 109, 98, 101, 114]) (.pair (UV.sent a2e) .unit))), ()), ())) else ((a6a n (y3.1.1, ())).bind fun y4 => (some (((x.1, y4.1.1, [], ()), y3.1.2.1, UV.nil, ()), ()))))) else (if (decide ((x.2.1.length : Int) = 0)) = true then (some (((x.1, (0:Int), [], ()), (0:Int), (UV.node a4i (.pair (.str [110, 111, 32, 98, 121, 116, 101]) (.pair (UV.sent a2e) .unit))), ()), ())) else (if (decide (x.1 = 3)) = true then (atI (0:Int) x.2.1.length (some (((x.1, (IntKind.i64.wrap (x.2.1.getD (0:Int).toNat (0:Int))), [], ()), (1:Int), UV.nil, ()), ()))) else (J2 (x.1, (0:Int), [], ()))))) else (if (decide ((x.2.1.length : Int) = 0)) = true then (some (((x.1, (0:Int), [], ()), (0:Int), (UV.node a4i (.pair (.str [110, 111, 32, 98, 121, 116, 101]) (.pair (UV.sent a2e) .unit))), ()), ())) else (if (decide (x.1 = 3)) = true then (atI (0:Int) x.2.1.length (some (((x.1, (IntKind.i64.wrap (x.2.1.getD (0:Int).toNat (0:Int))), [], ()), (1:Int), UV.nil, ()), ()))) else (J2 (x.1, (0:Int), [], ()))))))
def h132 : Hints := ⟨[], [(26, ⟨[(4, .box (.st (.pair tI (.pair tI (.pair .str .unit)))))], [1], []⟩)]⟩
def f9a (n : Nat) : List (Nat × FEnt) := [(78, ⟨s78, a3b n⟩), (115, ⟨s115, a6a n⟩)]
def c132 (n : Nat) : Ctx := ⟨73, find? tys, find? (f9a n), gls, [], [], []⟩
theorem e132 (n x) : a0m (c132 n) h132 n Go.Proofs.Tryz.f132 s132 x = a9d n x := by kernel_rfl
theorem g0s : P.funcs[132]? = some Go.Proofs.Tryz.f132 := by kernel_rfl
theorem f5p : a0b P 132 := a0d (by kernel_rfl)
theorem S132 (A : Amb) (hA : HA A) (n : Nat) : a0s A P (c132 n) 132 s132 (a9d n) :=
 a0a mixed (tab rfl) (a0o (C := c132 n) (l := f9a n) rfl ⟨⟨c8b, (S78 A hA n).of rfl⟩, ⟨c6z, (S115 A n).of rfl⟩, trivial⟩) g0s fun x y h => (e132 n x).trans h
def s118 : Sig := ⟨[.val tI, .val tI, .val (.sl .imm 1 tB)], [.val (.sl .imm 32 (.st (.pair tI (.pair tI (.pair .str .unit))))), .val .err]⟩
def a9v (n : Nat) (x : Int × Int × List Int × Unit) : Option (((List V4) × UV × Unit) × (Unit)) :=
 (if (decide (x.2.1 < 0)) = true then (some (([], (UV.node a4i (.pair (.str [118, 97, 108, 117, 101, 115]) (.pair (UV.sent a2e) .unit))), ()), ())) else (if (decide ((1000:Int) < x.2.1)) = true then (some (([], (UV.node a4i (.pair (.str [118, 97, 108, 117, 101, 115]) (.pair (UV.sent a2e) .unit))), ()), ())) else (a1d (fun rec2 (s1 : (List V4) × List Int × Int) => (if (decide (s1.2.2 < x.2.1)) = true then ((a9d n (x.1, s1.2.1, ())).bind fun y3 => (if (!decide (y3.1.2.2.1 = UV.nil)) = true then (some (([], y3.1.2.2.1, ()), ())) else (if (s1.1.length + ([y3.1.1] : List V4).length) * 32 ≤ room then (if 0 ≤ y3.1.2.1 ∧ y3.1.2.1 ≤ (s1.2.1.length : Int) then (rec2 ((s1.1 ++ ([y3.1.1] : List V4)), ((s1.2.1.take (s1.2.1.length : Int).toNat).drop y3.1.2.1.toNat), (IntKind.i64.wrap (s1.2.2 + 1)))) else none) else none))) else ((a8m n (x.1, s1.1, ())).bind fun y4 => (if (!y4.1.2.1) = true then (some (([], (UV.node a4i (.pair (.str [110, 111, 116, 32, 106, 117, 115, 116, 32, 116, 104, 101, 115, 101]) (.pair (UV.sent a2e) .unit))), ()), ())) else ((a0j n (y4.1.1, x.2.2.1, ())).bind fun y5 => (if (!y5.1.1) = true then (some (([], (UV.node a4i (.pair (.str [110, 111, 116, 32, 106, 117, 115, 116, 32, 116, 104, 101, 115, 101]) (.pair (UV.sent a2e) .unit))), ()), ())) else (some ((s1.1, UV.nil, ()), ())))))))) n ([], x.2.2.1, (0:Int)))))
def h118 : Hints := ⟨[(0, ⟨[(6, .val (.sl .own 32 (.st (.pair tI (.pair tI (.pair .str .unit)))))), (8, .val (.sl .imm 1 tB)), (25, .val tI)], [0, 2, 24], []⟩)], []⟩
def f5v (n : Nat) : List (Nat × FEnt) := [(60, ⟨s60, a0j n⟩), (89, ⟨s89, a8m n⟩), (132, ⟨s132, a9d n⟩)]
def c118 (n : Nat) : Ctx := ⟨63, find? tys, find? (f5v n), gls, [], [], []⟩
theorem e118 (n x) : a0m (c118 n) h118 n Go.Proofs.Tryz.f118 s118 x = a9v n x := by kernel_rfl
theorem g0n : P.funcs[118]? = some Go.Proofs.Tryz.f118 := by kernel_rfl
theorem f5h : a0b P 118 := a0d (by kernel_rfl)
theorem S118 (A : Amb) (hA : HA A) (n : Nat) : a0s A P (c118 n) 118 s118 (a9v n) :=
 a0a mixed (tab rfl) (a0o (C := c118 n) (l := f5v n) rfl ⟨⟨c4g, (S60 A n).of rfl⟩, ⟨f2j, (S89 A n).of rfl⟩, ⟨f5p, (S132 A hA n).of rfl⟩, trivial⟩) g0n fun x y h => (e118 n x).trans h
def s90 : Sig := ⟨[.val tI, .val tI, .val (.sl .imm 1 tB)], [.val (.sl .imm 32 (.st (.pair tI (.pair tI (.pair .str .unit))))), .val .bool]⟩
def b0g (n : Nat) (x : Int × Int × List Int × Unit) : Option (((List V4) × Bool × Unit) × (Unit)) :=
 ((a9v n (x.1, x.2.1, x.2.2.1, ())).bind fun y1 => ((a2b n (y1.1.2.1, (UV.sent a2e), ())).bind fun y2 => (some ((y1.1.1, (!y2.1.1), ()), ()))))
def h90 : Hints := ⟨[], []⟩
def ft90 (n : Nat) : List (Nat × FEnt) := [(46, ⟨s46, a2b n⟩), (118, ⟨s118, a9v n⟩)]
def c90 (n : Nat) : Ctx := ⟨22, find? tys, find? (ft90 n), gls, [], [], []⟩
theorem e90 (n x) : a0m (c90 n) h90 n Go.Proofs.Tryz.f90 s90 x = b0g n x := by kernel_rfl
theorem fn90 : P.funcs[90]? = some Go.Proofs.Tryz.f90 := by kernel_rfl
theorem f8s : a0b P 90 := a0d (by kernel_rfl)
theorem S90 (A : Amb) (hA : HA A) (n : Nat) : a0s A P (c90 n) 90 s90 (b0g n) :=
 a0a mixed (tab rfl) (a0o (C := c90 n) (l := ft90 n) rfl ⟨⟨c9q, (S46 A hA n).of rfl⟩, ⟨f5h, (S118 A hA n).of rfl⟩, trivial⟩) fn90 fun x y h => (e90 n x).trans h
def s133 : Sig := ⟨[.val tI, .val (.sl .imm 1 tB)], [.val (.st (.pair tI (.pair tI (.pair .str .unit)))), .val tI, .val .err]⟩
def b1s (n : Nat) (x : Int × List Int × Unit) : Option ((V4 × Int × UV × Unit) × (Unit)) :=
 (b3r (fun (s1 : Int × Int × List Int × Unit) => (atI (0:Int) x.2.1.length (if (decide ((x.2.1.length : Int) < (IntKind.i64.wrap ((1:Int) + (IntKind.i64.wrap (x.2.1.getD (0:Int).toNat (0:Int))))))) = true then (some ((s1, (0:Int), (UV.node a4o (.pair (.str [111, 102, 32, 98, 121, 116, 101, 115]) (.pair (UV.sent a2c) .unit))), ()), ())) else (if 0 ≤ (1:Int) ∧ (1:Int) ≤ (IntKind.i64.wrap ((1:Int) + (IntKind.i64.wrap (x.2.1.getD (0:Int).toNat (0:Int))))) ∧ (IntKind.i64.wrap ((1:Int) + (IntKind.i64.wrap (x.2.1.getD (0:Int).toNat (0:Int))))) ≤ (x.2.1.length : Int) then (some (((s1.1, s1.2.1, ((x.2.1.take (IntKind.i64.wrap ((1:Int) + (IntKind.i64.wrap (x.2.1.getD (0:Int).toNat (0:Int))))).toNat).drop (1:Int).toNat), s1.2.2.2), (IntKind.i64.wrap ((1:Int) + (IntKind.i64.wrap (x.2.1.getD (0:Int).toNat (0:Int))))), UV.nil, ()), ())) else none)))) fun J2 => (if (!decide (x.1 = (3:Int))) = true then (if (!decide (x.1 = (4:Int))) = true then ((a3b n (x.2.1, ())).bind fun y3 => (if (!y3.1.2.2.1) = true then (some (((x.1, (0:Int), [], ()), (0:Int), (UV.node a4o (.pair (.str [110, 111, 32, 110, 117, 109, 98, 101, 114]) (.pair (UV.sent a2c) .unit))), ()), ())) else ((a6a n (y3.1.1, ())).bind fun y4 => (some (((x.1, y4.1.1, [], ()), y3.1.2.1, UV.nil, ()), ()))))) else (if (decide ((x.2.1.length : Int) = 0)) = true then (some (((x.1, (0:Int), [], ()), (0:Int), (UV.node a4o (.pair (.str [110, 111, 32, 98, 121, 116, 101]) (.pair (UV.sent a2c) .unit))), ()), ())) else (if (decide (x.1 = 3)) = true then (atI (0:Int) x.2.1.length (some (((x.1, (IntKind.i64.wrap (x.2.1.getD (0:Int).toNat (0:Int))), [], ()), (1:Int), UV.nil, ()), ()))) else (J2 (x.1, (0:Int), [], ()))))) else (if (decide ((x.2.1.length : Int) = 0)) = true then (some (((x.1, (0:Int), [], ()), (0:Int), (UV.node a4o (.pair (.str [110, 111, 32, 98, 121, 116, 101]) (.pair (UV.sent a2c) .unit))), ()), ())) else (if (decide (x.1 = 3)) = true then (atI (0:Int) x.2.1.length (some (((x.1, (IntKind.i64.wrap (x.2.1.getD (0:Int).toNat (0:Int))), [], ()), (1:Int), UV.nil, ()), ()))) else (J2 (x.1, (0:Int), [], ()))))))
def h133 : Hints := ⟨[], [(26, ⟨[(4, .box (.st (.pair tI (.pair tI (.pair .str .unit)))))], [1], []⟩)]⟩
def f7v (n : Nat) : List (Nat × FEnt) := [(78, ⟨s78, a3b n⟩), (115, ⟨s115, a6a n⟩)]
def c133 (n : Nat) : Ctx := ⟨73, find? tys, find? (f7v n), gls, [], [], []⟩
theorem e133 (n x) : a0m (c133 n) h133 n Go.Proofs.Tryz.f133 s133 x = b1s n x := by kernel_rfl
theorem g1g : P.funcs[133]? = some Go.Proofs.Tryz.f133 := by kernel_rfl
theorem f3r : a0b P 133 := a0d (by kernel_rfl)
theorem S133 (A : Amb) (hA : HA A) (n : Nat) : a0s A P (c133 n) 133 s133 (b1s n) :=
 a0a mixed (tab rfl) (a0o (C := c133 n) (l := f7v n) rfl ⟨⟨c8b, (S78 A hA n).of rfl⟩, ⟨c6z, (S115 A n).of rfl⟩, trivial⟩) g1g fun x y h => (e133 n x).trans h
def s138 : Sig := ⟨[.val tU, .val tU], [.val tU, .val tU]⟩
def a3z (n : Nat) (x : Int × Int × Unit) : Option ((Int × Int × Unit) × (Unit)) :=
 (some (((IntKind.u64.wrap ((IntKind.u64.wrap ((IntKind.u64.wrap ((x.1.fdiv (2 ^ min (32:Int).toNat IntKind.u64.bits)) * (x.2.1.fdiv (2 ^ min (32:Int).toNat IntKind.u64.bits)))) + ((IntKind.u64.wrap ((IntKind.u64.wrap ((x.1.fdiv (2 ^ min (32:Int).toNat IntKind.u64.bits)) * (bits .and .u64 x.2.1 (4294967295:Int)))) + ((IntKind.u64.wrap ((bits .and .u64 x.1 (4294967295:Int)) * (bits .and .u64 x.2.1 (4294967295:Int)))).fdiv (2 ^ min (32:Int).toNat IntKind.u64.bits)))).fdiv (2 ^ min (32:Int).toNat IntKind.u64.bits)))) + ((IntKind.u64.wrap ((bits .and .u64 (IntKind.u64.wrap ((IntKind.u64.wrap ((x.1.fdiv (2 ^ min (32:Int).toNat IntKind.u64.bits)) * (bits .and .u64 x.2.1 (4294967295:Int)))) + ((IntKind.u64.wrap ((bits .and .u64 x.1 (4294967295:Int)) * (bits .and .u64 x.2.1 (4294967295:Int)))).fdiv (2 ^ min (32:Int).toNat IntKind.u64.bits)))) (4294967295:Int)) + (IntKind.u64.wrap ((bits .and .u64 x.1 (4294967295:Int)) * (x.2.1.fdiv (2 ^ min (32:Int).toNat IntKind.u64.bits)))))).fdiv (2 ^ min (32:Int).toNat IntKind.u64.bits)))), (IntKind.u64.wrap (x.1 * x.2.1)), ()), ()))
def h138 : Hints := ⟨[], []⟩
def f7t (n : Nat) : List (Nat × FEnt) := []
def c138 (n : Nat) : Ctx := ⟨51, find? tys, find? (f7t n), gls, [], [], []⟩
theorem e138 (n x) : a0m (c138 n) h138 n Go.Proofs.Tryz.f138 s138 x = a3z n x := by kernel_rfl
theorem g0q : P.funcs[138]? = some Go.Proofs.Tryz.f138 := by kernel_rfl
theorem f4c : a0b P 138 := a0d (by kernel_rfl)
theorem S138 (A : Amb) (n : Nat) : a0s A P (c138 n) 138 s138 (a3z n) :=
 a0a mixed (tab rfl) (a0o (C := c138 n) (l := f7t n) rfl trivial) g0q fun x y h => (e138 n x).trans h
def s136 : Sig := ⟨[.val tU, .val tU], [.val tU, .val tU]⟩
def a6v (n : Nat) (x : Int × Int × Unit) : Option ((Int × Int × Unit) × (Unit)) :=
 ((a3z n (x.1, x.2.1, ())).bind fun y1 => (some ((y1.1.1, y1.1.2.1, ()), ())))
def h136 : Hints := ⟨[], []⟩
def f6v (n : Nat) : List (Nat × FEnt) := [(138, ⟨s138, a3z n⟩)]
def c136 (n : Nat) : Ctx := ⟨30, find? tys, find? (f6v n), gls, [], [], []⟩
theorem e136 (n x) : a0m (c136 n) h136 n Go.Proofs.Tryz.f136 s136 x = a6v n x := by kernel_rfl
theorem g1c : P.funcs[136]? = some Go.Proofs.Tryz.f136 := by kernel_rfl
theorem f5m : a0b P 136 := a0d (by kernel_rfl)
theorem S136 (A : Amb) (n : Nat) : a0s A P (c136 n) 136 s136 (a6v n) :=
 a0a mixed (tab rfl) (a0o (C := c136 n) (l := f6v n) rfl ⟨⟨f4c, (S138 A n).of rfl⟩, trivial⟩) g1c fun x y h => (e136 n x).trans h
def s134 : Sig := ⟨[.val (.sl .imm 32 (.st (.pair tI (.pair tI (.pair .str .unit))))), .val tI], [.val (.sl .imm 32 (.st (.pair tI (.pair tI (.pair .str .unit)))))]⟩
def a0y (n : Nat) (x : (List V4) × Int × Unit) : Option (((List V4) × Unit) × (Unit)) :=
 (if (decide (x.2.1 < 0)) = true then none else ((a6v n ((IntKind.u64.wrap (x.1.length : Int)), (IntKind.u64.wrap x.2.1), ())).bind fun y1 => (if (decide ((0:Int) < y1.1.1)) = true then none else (if (decide ((9223372036854775807:Int) < y1.1.2.1)) = true then none else (if 0 ≤ (IntKind.i64.wrap y1.1.2.1) ∧ (IntKind.i64.wrap y1.1.2.1) ≤ (IntKind.i64.wrap y1.1.2.1) ∧ (IntKind.i64.wrap y1.1.2.1) * 32 ≤ room then (if 0 ≤ (0:Int) ∧ (0:Int) ≤ ((List.replicate (IntKind.i64.wrap y1.1.2.1).toNat (((0:Int), (0:Int), [], ()) : Int × Int × List Int × Unit)).length : Int) ∧ ((List.replicate (IntKind.i64.wrap y1.1.2.1).toNat (((0:Int), (0:Int), [], ()) : Int × Int × List Int × Unit)).length : Int) ≤ (List.replicate (IntKind.i64.wrap y1.1.2.1).toNat (((0:Int), (0:Int), [], ()) : Int × Int × List Int × Unit)).length then (a1d (fun rec3 (s2 : (List V4) × Int) => (if (decide (s2.2 < (s2.1.length : Int))) = true then (if 0 ≤ s2.2 ∧ s2.2 ≤ (s2.1.length : Int) then (if 0 ≤ s2.2 ∧ s2.2 ≤ (s2.1.length : Int) then (if 0 ≤ s2.2 ∧ s2.2 ≤ (s2.1.length : Int) ∧ (s2.1.length : Int) ≤ s2.1.length then (rec3 ((s2.1.take s2.2.toNat ++ (((s2.1.take s2.2.toNat).drop (0:Int).toNat).take ((s2.1.length : Int).toNat - s2.2.toNat) ++ s2.1.drop (s2.2.toNat + min ((s2.1.length : Int).toNat - s2.2.toNat) ((s2.1.take s2.2.toNat).drop (0:Int).toNat).length))), (IntKind.i64.wrap (s2.2 + ((min ((s2.1.length : Int).toNat - s2.2.toNat) ((s2.1.take s2.2.toNat).drop (0:Int).toNat).length : Nat) : Int))))) else none) else none) else none) else (some ((s2.1, ()), ())))) n (((List.replicate (IntKind.i64.wrap y1.1.2.1).toNat (((0:Int), (0:Int), [], ()) : Int × Int × List Int × Unit)).take (0:Int).toNat ++ (x.1.take (((List.replicate (IntKind.i64.wrap y1.1.2.1).toNat (((0:Int), (0:Int), [], ()) : Int × Int × List Int × Unit)).length : Int).toNat - (0:Int).toNat) ++ (List.replicate (IntKind.i64.wrap y1.1.2.1).toNat (((0:Int), (0:Int), [], ()) : Int × Int × List Int × Unit)).drop ((0:Int).toNat + min (((List.replicate (IntKind.i64.wrap y1.1.2.1).toNat (((0:Int), (0:Int), [], ()) : Int × Int × List Int × Unit)).length : Int).toNat - (0:Int).toNat) x.1.length))), ((min (((List.replicate (IntKind.i64.wrap y1.1.2.1).toNat (((0:Int), (0:Int), [], ()) : Int × Int × List Int × Unit)).length : Int).toNat - (0:Int).toNat) x.1.length : Nat) : Int))) else none) else none)))))
def h134 : Hints := ⟨[(0, ⟨[(7, .val (.sl .own 32 (.st (.pair tI (.pair tI (.pair .str .unit)))))), (8, .val tI)], [], []⟩)], []⟩
def f6s (n : Nat) : List (Nat × FEnt) := [(136, ⟨s136, a6v n⟩)]
def c134 (n : Nat) : Ctx := ⟨48, find? tys, find? (f6s n), gls, [], [], []⟩
theorem e134 (n x) : a0m (c134 n) h134 n Go.Proofs.Tryz.f134 s134 x = a0y n x := by kernel_rfl
theorem g0x : P.funcs[134]? = some Go.Proofs.Tryz.f134 := by kernel_rfl
theorem f3j : a0b P 134 := a0d (by kernel_rfl)
theorem S134 (A : Amb) (n : Nat) : a0s A P (c134 n) 134 s134 (a0y n) :=
 a0a mixed (tab rfl) (a0o (C := c134 n) (l := f6s n) rfl ⟨⟨f5m, (S136 A n).of rfl⟩, trivial⟩) g0x fun x y h => (e134 n x).trans h
def s121 : Sig := ⟨[.val tI, .val tI, .val (.sl .imm 1 tB)], [.val (.sl .imm 32 (.st (.pair tI (.pair tI (.pair .str .unit))))), .val .err]⟩
def b3a (n : Nat) (x : Int × Int × List Int × Unit) : Option (((List V4) × UV × Unit) × (Unit)) :=
 (if (decide (x.2.1 < 0)) = true then (some (([], (UV.node a4o (.pair (.str [118, 97, 108, 117, 101, 115]) (.pair (UV.sent a2c) .unit))), ()), ())) else (if (decide ((1000:Int) < x.2.1)) = true then (some (([], (UV.node a4o (.pair (.str [118, 97, 108, 117, 101, 115]) (.pair (UV.sent a2c) .unit))), ()), ())) else (a1d (fun rec2 (s1 : (List V4) × List Int) => (if (decide ((0:Int) < (s1.2.length : Int))) = true then ((a3b n (s1.2, ())).bind fun y3 => (if (!y3.1.2.2.1) = true then (some (([], (UV.node a4o (.pair (.str [97, 32, 114, 117, 110, 32, 111, 102]) (.pair (UV.sent a2c) .unit))), ()), ())) else (if (decide ((IntKind.u64.wrap (IntKind.i64.wrap (x.2.1 - (s1.1.length : Int)))) < y3.1.1)) = true then (some (([], (UV.node a4o (.pair (.str [97, 32, 114, 117, 110, 32, 111, 102]) (.pair (UV.sent a2c) .unit))), ()), ())) else (if 0 ≤ y3.1.2.1 ∧ y3.1.2.1 ≤ (s1.2.length : Int) then ((b1s n (x.1, ((s1.2.take (s1.2.length : Int).toNat).drop y3.1.2.1.toNat), ())).bind fun y4 => (if (!decide (y4.1.2.2.1 = UV.nil)) = true then (some (([], y4.1.2.2.1, ()), ())) else ((a0y n (([y4.1.1] : List V4), (IntKind.i64.wrap y3.1.1), ())).bind fun y5 => (if (s1.1.length + y5.1.1.length) * 32 ≤ room then (if 0 ≤ (IntKind.i64.wrap (y3.1.2.1 + y4.1.2.1)) ∧ (IntKind.i64.wrap (y3.1.2.1 + y4.1.2.1)) ≤ (s1.2.length : Int) then (rec2 ((s1.1 ++ y5.1.1), ((s1.2.take (s1.2.length : Int).toNat).drop (IntKind.i64.wrap (y3.1.2.1 + y4.1.2.1)).toNat))) else none) else none)))) else none)))) else ((b1z n (x.1, s1.1, ())).bind fun y6 => (if (!y6.1.2.1) = true then (some (([], (UV.node a4o (.pair (.str [110, 111, 116, 32, 106, 117, 115, 116, 32, 116, 104, 101, 115, 101]) (.pair (UV.sent a2c) .unit))), ()), ())) else (if (!decide ((s1.1.length : Int) = x.2.1)) = true then (some (([], (UV.node a4o (.pair (.str [110, 111, 116, 32, 106, 117, 115, 116, 32, 116, 104, 101, 115, 101]) (.pair (UV.sent a2c) .unit))), ()), ())) else ((a0j n (y6.1.1, x.2.2.1, ())).bind fun y7 => (if (!y7.1.1) = true then (some (([], (UV.node a4o (.pair (.str [110, 111, 116, 32, 106, 117, 115, 116, 32, 116, 104, 101, 115, 101]) (.pair (UV.sent a2c) .unit))), ()), ())) else (some ((s1.1, UV.nil, ()), ()))))))))) n ([], x.2.2.1))))
def h121 : Hints := ⟨[(0, ⟨[(6, .val (.sl .own 32 (.st (.pair tI (.pair tI (.pair .str .unit)))))), (8, .val (.sl .imm 1 tB))], [0, 1, 2], []⟩)], []⟩
def f8e (n : Nat) : List (Nat × FEnt) := [(60, ⟨s60, a0j n⟩), (78, ⟨s78, a3b n⟩), (91, ⟨s91, b1z n⟩), (133, ⟨s133, b1s n⟩), (134, ⟨s134, a0y n⟩)]
def c121 (n : Nat) : Ctx := ⟨98, find? tys, find? (f8e n), gls, [], [], []⟩
theorem e121 (n x) : a0m (c121 n) h121 n Go.Proofs.Tryz.f121 s121 x = b3a n x := by kernel_rfl
theorem f9q : P.funcs[121]? = some Go.Proofs.Tryz.f121 := by kernel_rfl
theorem f3y : a0b P 121 := a0d (by kernel_rfl)
theorem S121 (A : Amb) (hA : HA A) (n : Nat) : a0s A P (c121 n) 121 s121 (b3a n) :=
 a0a mixed (tab rfl) (a0o (C := c121 n) (l := f8e n) rfl ⟨⟨c4g, (S60 A n).of rfl⟩, ⟨c8b, (S78 A hA n).of rfl⟩, ⟨f1v, (S91 A n).of rfl⟩, ⟨f3r, (S133 A hA n).of rfl⟩, ⟨f3j, (S134 A n).of rfl⟩, trivial⟩) f9q fun x y h => (e121 n x).trans h
def s92 : Sig := ⟨[.val tI, .val tI, .val (.sl .imm 1 tB)], [.val (.sl .imm 32 (.st (.pair tI (.pair tI (.pair .str .unit))))), .val .bool]⟩
def b2v (n : Nat) (x : Int × Int × List Int × Unit) : Option (((List V4) × Bool × Unit) × (Unit)) :=
 ((b3a n (x.1, x.2.1, x.2.2.1, ())).bind fun y1 => ((a2b n (y1.1.2.1, (UV.sent a2c), ())).bind fun y2 => (some ((y1.1.1, (!y2.1.1), ()), ()))))
def h92 : Hints := ⟨[], []⟩
def ft92 (n : Nat) : List (Nat × FEnt) := [(46, ⟨s46, a2b n⟩), (121, ⟨s121, b3a n⟩)]
def c92 (n : Nat) : Ctx := ⟨22, find? tys, find? (ft92 n), gls, [], [], []⟩
theorem e92 (n x) : a0m (c92 n) h92 n Go.Proofs.Tryz.f92 s92 x = b2v n x := by kernel_rfl
theorem fn92 : P.funcs[92]? = some Go.Proofs.Tryz.f92 := by kernel_rfl
theorem f7r : a0b P 92 := a0d (by kernel_rfl)
theorem S92 (A : Amb) (hA : HA A) (n : Nat) : a0s A P (c92 n) 92 s92 (b2v n) :=
 a0a mixed (tab rfl) (a0o (C := c92 n) (l := ft92 n) rfl ⟨⟨c9q, (S46 A hA n).of rfl⟩, ⟨f3y, (S121 A hA n).of rfl⟩, trivial⟩) fn92 fun x y h => (e92 n x).trans h
def s123 : Sig := ⟨[.val tI, .val tI, .val (.sl .imm 1 tB)], [.val (.sl .imm 32 (.st (.pair tI (.pair tI (.pair .str .unit))))), .val .err]⟩
def b1n (n : Nat) (x : Int × Int × List Int × Unit) : Option (((List V4) × UV × Unit) × (Unit)) :=
 (if (decide (x.2.1 < 0)) = true then (some (([], (UV.node a7c (.pair (.str [118, 97, 108, 117, 101, 115]) (.pair (UV.sent a3q) .unit))), ()), ())) else (if (decide ((1000:Int) < x.2.1)) = true then (some (([], (UV.node a7c (.pair (.str [118, 97, 108, 117, 101, 115]) (.pair (UV.sent a3q) .unit))), ()), ())) else (b3r (fun (s1 : List V4) => ((a9x n (x.1, s1, ())).bind fun y3 => (if (!y3.1.2.1) = true then (some (([], (UV.node a7c (.pair (.str [110, 111, 116, 32, 106, 117, 115, 116, 32, 116, 104, 101, 115, 101]) (.pair (UV.sent a3q) .unit))), ()), ())) else ((a0j n (y3.1.1, x.2.2.1, ())).bind fun y4 => (if (!y4.1.1) = true then (some (([], (UV.node a7c (.pair (.str [110, 111, 116, 32, 106, 117, 115, 116, 32, 116, 104, 101, 115, 101]) (.pair (UV.sent a3q) .unit))), ()), ())) else (some ((s1, UV.nil, ()), ()))))))) fun J2 => (if (decide ((0:Int) < x.2.1)) = true then ((a3b n (x.2.2.1, ())).bind fun y5 => (if (!y5.1.2.2.1) = true then (some (([], (UV.node a7c (.pair (.str [110, 111, 32, 108, 101, 97, 115, 116, 32, 111, 110, 101]) (.pair (UV.sent a3q) .unit))), ()), ())) else (if (decide (y5.1.2.1 = (x.2.2.1.length : Int))) = true then (some (([], (UV.node a7c (.pair (.str [110, 111, 32, 108, 101, 97, 115, 116, 32, 111, 110, 101]) (.pair (UV.sent a3q) .unit))), ()), ())) else (if 0 ≤ (IntKind.i64.wrap (y5.1.2.1 + 1)) ∧ (IntKind.i64.wrap (y5.1.2.1 + 1)) ≤ (x.2.2.1.length : Int) then (atI y5.1.2.1 x.2.2.1.length ((a8e n (((x.2.2.1.take (x.2.2.1.length : Int).toNat).drop (IntKind.i64.wrap (y5.1.2.1 + 1)).toNat), x.2.1, (IntKind.i64.wrap (x.2.2.1.getD y5.1.2.1.toNat (0:Int))), ())).bind fun y6 => (if (!y6.1.2.1) = true then (some (([], (UV.node a7c (.pair (.str [110, 111, 116, 32, 111, 102, 32, 98, 105, 116, 115]) (.pair (UV.sent a3q) .unit))), ()), ())) else (a1d (fun rec8 (s7 : (List V4) × Int) => (if (decide (s7.2 < (y6.1.1.length : Int))) = true then (atI s7.2 y6.1.1.length ((a6a n (y5.1.1, ())).bind fun y9 => (if (s7.1.length + ([(x.1, (IntKind.i64.wrap (IntKind.u64.wrap ((IntKind.u64.wrap y9.1.1) + (y6.1.1.getD s7.2.toNat (0:Int))))), [], ())] : List V4).length) * 32 ≤ room then (rec8 ((s7.1 ++ ([(x.1, (IntKind.i64.wrap (IntKind.u64.wrap ((IntKind.u64.wrap y9.1.1) + (y6.1.1.getD s7.2.toNat (0:Int))))), [], ())] : List V4)), (IntKind.i64.wrap (s7.2 + 1)))) else none))) else (J2 s7.1))) n ([], (0:Int)))))) else none)))) else (J2 [])))))
def h123 : Hints := ⟨[(0, ⟨[(6, .val (.sl .own 32 (.st (.pair tI (.pair tI (.pair .str .unit)))))), (65, .val tI)], [0, 2, 8, 63, 64], []⟩)], [(30, ⟨[(6, .val (.sl .own 32 (.st (.pair tI (.pair tI (.pair .str .unit))))))], [0, 2], []⟩)]⟩
def f9d (n : Nat) : List (Nat × FEnt) := [(60, ⟨s60, a0j n⟩), (78, ⟨s78, a3b n⟩), (80, ⟨s80, a8e n⟩), (93, ⟨s93, a9x n⟩), (115, ⟨s115, a6a n⟩)]
def c123 (n : Nat) : Ctx := ⟨99, find? tys, find? (f9d n), gls, [], [], []⟩
theorem e123 (n x) : a0m (c123 n) h123 n Go.Proofs.Tryz.f123 s123 x = b1n n x := by kernel_rfl
theorem g0r : P.funcs[123]? = some Go.Proofs.Tryz.f123 := by kernel_rfl
theorem f3z : a0b P 123 := a0d (by kernel_rfl)
theorem S123 (A : Amb) (hA : HA A) (n : Nat) : a0s A P (c123 n) 123 s123 (b1n n) :=
 a0a mixed (tab rfl) (a0o (C := c123 n) (l := f9d n) rfl ⟨⟨c4g, (S60 A n).of rfl⟩, ⟨c8b, (S78 A hA n).of rfl⟩, ⟨f1i, (S80 A n).of rfl⟩, ⟨f1j, (S93 A n).of rfl⟩, ⟨c6z, (S115 A n).of rfl⟩, trivial⟩) g0r fun x y h => (e123 n x).trans h
def s94 : Sig := ⟨[.val tI, .val tI, .val (.sl .imm 1 tB)], [.val (.sl .imm 32 (.st (.pair tI (.pair tI (.pair .str .unit))))), .val .bool]⟩
def b1h (n : Nat) (x : Int × Int × List Int × Unit) : Option (((List V4) × Bool × Unit) × (Unit)) :=
 ((b1n n (x.1, x.2.1, x.2.2.1, ())).bind fun y1 => ((a2b n (y1.1.2.1, (UV.sent a3q), ())).bind fun y2 => (some ((y1.1.1, (!y2.1.1), ()), ()))))
def h94 : Hints := ⟨[], []⟩
def ft94 (n : Nat) : List (Nat × FEnt) := [(46, ⟨s46, a2b n⟩), (123, ⟨s123, b1n n⟩)]
def c94 (n : Nat) : Ctx := ⟨22, find? tys, find? (ft94 n), gls, [], [], []⟩
theorem e94 (n x) : a0m (c94 n) h94 n Go.Proofs.Tryz.f94 s94 x = b1h n x := by kernel_rfl
theorem fn94 : P.funcs[94]? = some Go.Proofs.Tryz.f94 := by kernel_rfl
theorem f6n : a0b P 94 := a0d (by kernel_rfl)
theorem S94 (A : Amb) (hA : HA A) (n : Nat) : a0s A P (c94 n) 94 s94 (b1h n) :=
 a0a mixed (tab rfl) (a0o (C := c94 n) (l := ft94 n) rfl ⟨⟨c9q, (S46 A hA n).of rfl⟩, ⟨f3z, (S123 A hA n).of rfl⟩, trivial⟩) fn94 fun x y h => (e94 n x).trans h
def s124 : Sig := ⟨[.val tI, .val tI, .val (.sl .imm 1 tB)], [.val (.sl .imm 32 (.st (.pair tI (.pair tI (.pair .str .unit))))), .val .err]⟩
def a9z (n : Nat) (x : Int × Int × List Int × Unit) : Option (((List V4) × UV × Unit) × (Unit)) :=
 (if (decide (x.2.1 < 0)) = true then (some (([], (UV.node a7z (.pair (.str [118, 97, 108, 117, 101, 115]) (.pair (UV.sent a4c) .unit))), ()), ())) else (if (decide ((1000:Int) < x.2.1)) = true then (some (([], (UV.node a7z (.pair (.str [118, 97, 108, 117, 101, 115]) (.pair (UV.sent a4c) .unit))), ()), ())) else (a1d (fun rec2 (s1 : (List V4) × List Int × Int × Int) => (if (decide (s1.2.2.2 < x.2.1)) = true then ((a3b n (s1.2.1, ())).bind fun y3 => (if (!y3.1.2.2.1) = true then (some (([], (UV.node a7z (.pair (.str [110, 111, 32, 115, 116, 101, 112]) (.pair (UV.sent a4c) .unit))), ()), ())) else ((a6a n (y3.1.1, ())).bind fun y4 => (if (s1.1.length + ([(x.1, (IntKind.i64.wrap (IntKind.u64.wrap (s1.2.2.1 + (IntKind.u64.wrap y4.1.1)))), [], ())] : List V4).length) * 32 ≤ room then (if 0 ≤ y3.1.2.1 ∧ y3.1.2.1 ≤ (s1.2.1.length : Int) then (rec2 ((s1.1 ++ ([(x.1, (IntKind.i64.wrap (IntKind.u64.wrap (s1.2.2.1 + (IntKind.u64.wrap y4.1.1)))), [], ())] : List V4)), ((s1.2.1.take (s1.2.1.length : Int).toNat).drop y3.1.2.1.toNat), (IntKind.u64.wrap (s1.2.2.1 + (IntKind.u64.wrap y4.1.1))), (IntKind.i64.wrap (s1.2.2.2 + 1)))) else none) else none)))) else ((a8n n (x.1, s1.1, ())).bind fun y5 => (if (!y5.1.2.1) = true then (some (([], (UV.node a7z (.pair (.str [110, 111, 116, 32, 106, 117, 115, 116, 32, 116, 104, 101, 115, 101]) (.pair (UV.sent a4c) .unit))), ()), ())) else ((a0j n (y5.1.1, x.2.2.1, ())).bind fun y6 => (if (!y6.1.1) = true then (some (([], (UV.node a7z (.pair (.str [110, 111, 116, 32, 106, 117, 115, 116, 32, 116, 104, 101, 115, 101]) (.pair (UV.sent a4c) .unit))), ()), ())) else (some ((s1.1, UV.nil, ()), ())))))))) n ([], x.2.2.1, (0:Int), (0:Int)))))
def h124 : Hints := ⟨[(0, ⟨[(6, .val (.sl .own 32 (.st (.pair tI (.pair tI (.pair .str .unit)))))), (8, .val (.sl .imm 1 tB)), (9, .val tU), (26, .val tI)], [0, 2, 25], []⟩)], []⟩
def f8a (n : Nat) : List (Nat × FEnt) := [(60, ⟨s60, a0j n⟩), (78, ⟨s78, a3b n⟩), (95, ⟨s95, a8n n⟩), (115, ⟨s115, a6a n⟩)]
def c124 (n : Nat) : Ctx := ⟨73, find? tys, find? (f8a n), gls, [], [], []⟩
theorem e124 (n x) : a0m (c124 n) h124 n Go.Proofs.Tryz.f124 s124 x = a9z n x := by kernel_rfl
theorem g0k : P.funcs[124]? = some Go.Proofs.Tryz.f124 := by kernel_rfl
theorem f4b : a0b P 124 := a0d (by kernel_rfl)
theorem S124 (A : Amb) (hA : HA A) (n : Nat) : a0s A P (c124 n) 124 s124 (a9z n) :=
 a0a mixed (tab rfl) (a0o (C := c124 n) (l := f8a n) rfl ⟨⟨c4g, (S60 A n).of rfl⟩, ⟨c8b, (S78 A hA n).of rfl⟩, ⟨f2h, (S95 A n).of rfl⟩, ⟨c6z, (S115 A n).of rfl⟩, trivial⟩) g0k fun x y h => (e124 n x).trans h
def s96 : Sig := ⟨[.val tI, .val tI, .val (.sl .imm 1 tB)], [.val (.sl .imm 32 (.st (.pair tI (.pair tI (.pair .str .unit))))), .val .bool]⟩
def b0f (n : Nat) (x : Int × Int × List Int × Unit) : Option (((List V4) × Bool × Unit) × (Unit)) :=
 ((a9z n (x.1, x.2.1, x.2.2.1, ())).bind fun y1 => ((a2b n (y1.1.2.1, (UV.sent a4c), ())).bind fun y2 => (some ((y1.1.1, (!y2.1.1), ()), ()))))
def h96 : Hints := ⟨[], []⟩
def ft96 (n : Nat) : List (Nat × FEnt) := [(46, ⟨s46, a2b n⟩), (124, ⟨s124, a9z n⟩)]
def c96 (n : Nat) : Ctx := ⟨22, find? tys, find? (ft96 n), gls, [], [], []⟩
theorem e96 (n x) : a0m (c96 n) h96 n Go.Proofs.Tryz.f96 s96 x = b0f n x := by kernel_rfl
theorem fn96 : P.funcs[96]? = some Go.Proofs.Tryz.f96 := by kernel_rfl
theorem f7z : a0b P 96 := a0d (by kernel_rfl)
theorem S96 (A : Amb) (hA : HA A) (n : Nat) : a0s A P (c96 n) 96 s96 (b0f n) :=
 a0a mixed (tab rfl) (a0o (C := c96 n) (l := ft96 n) rfl ⟨⟨c9q, (S46 A hA n).of rfl⟩, ⟨f4b, (S124 A hA n).of rfl⟩, trivial⟩) fn96 fun x y h => (e96 n x).trans h
def e2a : Sig := ⟨[.val tI, .val tI, .sio (.sl .own 32 (.st (.pair tI (.pair tI (.pair .str .unit)))))], [.val (.sl .own 1 tB), .val .bool]⟩
def a2w (n : Nat) (x : Int × Int × (List V4) × Unit) : Option ((List Int × Bool × Unit) × ((List V4) × Unit)) :=
 (a1g n (x.1, x.2.1, x.2.2.1, ())).map fun y => (y.1, x.2.2.1, ())
theorem f0w (A : Amb) (n : Nat) : a0s A P (c21 n) 21 e2a (a2w n) :=
 b9r (e := 32) (te := (.st (.pair tI (.pair tI (.pair .str .unit))))) (ts := [tI, tI]) rfl rfl rfl (S21 A n)
def s24 : Sig := ⟨[.val tI, .val tI, .val (.sl .imm 1 tB)], [.val (.sl .own 32 (.st (.pair tI (.pair tI (.pair .str .unit))))), .val tI, .val .bool]⟩
def a1c (n : Nat) (x : Int × Int × List Int × Unit) : Option (((List V4) × Int × Bool × Unit) × (Unit)) :=
 (if (decide (x.2.1 < 0)) = true then (some (([], (0:Int), false, ()), ())) else (if (decide ((1000:Int) < x.2.1)) = true then (some (([], (0:Int), false, ()), ())) else (if (decide ((x.2.2.1.length : Int) < 2)) = true then (some (([], (0:Int), false, ()), ())) else ((a5k n ()).bind fun y1 => (atI (0:Int) x.2.2.1.length (if 0 ≤ (2:Int) ∧ (2:Int) ≤ (x.2.2.1.length : Int) then (if 0 ≤ x.2.1 ∧ x.2.1 ≤ x.2.1 ∧ x.2.1 * 1 ≤ room then (b3r (fun (s2 : List Int × List Bool) => (if (!((decide ((IntKind.i64.wrap (x.2.2.1.getD (0:Int).toNat (0:Int))) = (1:Int))) || ((decide ((IntKind.i64.wrap (x.2.2.1.getD (0:Int).toNat (0:Int))) = (2:Int))) || ((decide ((IntKind.i64.wrap (x.2.2.1.getD (0:Int).toNat (0:Int))) = (3:Int))) || ((decide ((IntKind.i64.wrap (x.2.2.1.getD (0:Int).toNat (0:Int))) = (4:Int))) || ((decide ((IntKind.i64.wrap (x.2.2.1.getD (0:Int).toNat (0:Int))) = (5:Int))) || false)))))) = true then (some (([], (0:Int), false, ()), ())) else (if (!decide ((s2.2.length : Int) = x.2.1)) = true then (some (([], (0:Int), false, ()), ())) else ((a9a n (s2.2, ())).bind fun y4 => (if (((IntKind.i64.wrap (x.2.2.1.getD (0:Int).toNat (0:Int))), (IntKind.i64.wrap (x.2.2.1.getD (0:Int).toNat (0:Int))), ()).2).1 = (1:Int) then ((b0g n (x.1, (IntKind.i64.wrap (x.2.1 - y4.1.1)), s2.1, ())).bind fun y25 => (if (!y25.1.2.1) = true then (some (([], (0:Int), false, ()), ())) else (a1d (fun rec27 (s26 : (List V4) × (List V4) × Int) => (if (decide (s26.2.2 < (s2.2.length : Int))) = true then (atI s26.2.2 s2.2.length (if (s2.2.getD s26.2.2.toNat false) = true then (if (s26.1.length + ([((0:Int), (0:Int), [], ())] : List V4).length) * 32 ≤ room then (rec27 ((s26.1 ++ ([((0:Int), (0:Int), [], ())] : List V4)), s26.2.1, (IntKind.i64.wrap (s26.2.2 + 1)))) else none) else (atI (0:Int) s26.2.1.length (if (s26.1.length + ([(s26.2.1.getD (0:Int).toNat ((0:Int), (0:Int), [], ()))] : List V4).length) * 32 ≤ room then (if 0 ≤ (1:Int) ∧ (1:Int) ≤ (s26.2.1.length : Int) then (rec27 ((s26.1 ++ ([(s26.2.1.getD (0:Int).toNat ((0:Int), (0:Int), [], ()))] : List V4)), ((s26.2.1.take (s26.2.1.length : Int).toNat).drop (1:Int).toNat), (IntKind.i64.wrap (s26.2.2 + 1)))) else none) else none)))) else (atI (0:Int) x.2.2.1.length ((a2w n ((IntKind.i64.wrap (x.2.2.1.getD (0:Int).toNat (0:Int))), x.1, s26.1, ())).bind fun y28 => (if (!y28.1.2.1) = true then (some (([], (0:Int), false, ()), ())) else ((a0j n (y28.1.1, x.2.2.1, ())).bind fun y29 => (if (!y29.1.1) = true then (some (([], (0:Int), false, ()), ())) else (atI (0:Int) x.2.2.1.length (some ((y28.2.1, (IntKind.i64.wrap (x.2.2.1.getD (0:Int).toNat (0:Int))), true, ()), ())))))))))) n ([], y25.1.1, (0:Int))))) else (if (((IntKind.i64.wrap (x.2.2.1.getD (0:Int).toNat (0:Int))), (IntKind.i64.wrap (x.2.2.1.getD (0:Int).toNat (0:Int))), ()).2).1 = (2:Int) then ((b2v n (x.1, (IntKind.i64.wrap (x.2.1 - y4.1.1)), s2.1, ())).bind fun y20 => (if (!y20.1.2.1) = true then (some (([], (0:Int), false, ()), ())) else (a1d (fun rec22 (s21 : (List V4) × (List V4) × Int) => (if (decide (s21.2.2 < (s2.2.length : Int))) = true then (atI s21.2.2 s2.2.length (if (s2.2.getD s21.2.2.toNat false) = true then (if (s21.1.length + ([((0:Int), (0:Int), [], ())] : List V4).length) * 32 ≤ room then (rec22 ((s21.1 ++ ([((0:Int), (0:Int), [], ())] : List V4)), s21.2.1, (IntKind.i64.wrap (s21.2.2 + 1)))) else none) else (atI (0:Int) s21.2.1.length (if (s21.1.length + ([(s21.2.1.getD (0:Int).toNat ((0:Int), (0:Int), [], ()))] : List V4).length) * 32 ≤ room then (if 0 ≤ (1:Int) ∧ (1:Int) ≤ (s21.2.1.length : Int) then (rec22 ((s21.1 ++ ([(s21.2.1.getD (0:Int).toNat ((0:Int), (0:Int), [], ()))] : List V4)), ((s21.2.1.take (s21.2.1.length : Int).toNat).drop (1:Int).toNat), (IntKind.i64.wrap (s21.2.2 + 1)))) else none) else none)))) else (atI (0:Int) x.2.2.1.length ((a2w n ((IntKind.i64.wrap (x.2.2.1.getD (0:Int).toNat (0:Int))), x.1, s21.1, ())).bind fun y23 => (if (!y23.1.2.1) = true then (some (([], (0:Int), false, ()), ())) else ((a0j n (y23.1.1, x.2.2.1, ())).bind fun y24 => (if (!y24.1.1) = true then (some (([], (0:Int), false, ()), ())) else (atI (0:Int) x.2.2.1.length (some ((y23.2.1, (IntKind.i64.wrap (x.2.2.1.getD (0:Int).toNat (0:Int))), true, ()), ())))))))))) n ([], y20.1.1, (0:Int))))) else (if (((IntKind.i64.wrap (x.2.2.1.getD (0:Int).toNat (0:Int))), (IntKind.i64.wrap (x.2.2.1.getD (0:Int).toNat (0:Int))), ()).2).1 = (3:Int) then ((a9s n (x.1, (IntKind.i64.wrap (x.2.1 - y4.1.1)), s2.1, ())).bind fun y15 => (if (!y15.1.2.1) = true then (some (([], (0:Int), false, ()), ())) else (a1d (fun rec17 (s16 : (List V4) × (List V4) × Int) => (if (decide (s16.2.2 < (s2.2.length : Int))) = true then (atI s16.2.2 s2.2.length (if (s2.2.getD s16.2.2.toNat false) = true then (if (s16.1.length + ([((0:Int), (0:Int), [], ())] : List V4).length) * 32 ≤ room then (rec17 ((s16.1 ++ ([((0:Int), (0:Int), [], ())] : List V4)), s16.2.1, (IntKind.i64.wrap (s16.2.2 + 1)))) else none) else (atI (0:Int) s16.2.1.length (if (s16.1.length + ([(s16.2.1.getD (0:Int).toNat ((0:Int), (0:Int), [], ()))] : List V4).length) * 32 ≤ room then (if 0 ≤ (1:Int) ∧ (1:Int) ≤ (s16.2.1.length : Int) then (rec17 ((s16.1 ++ ([(s16.2.1.getD (0:Int).toNat ((0:Int), (0:Int), [], ()))] : List V4)), ((s16.2.1.take (s16.2.1.length : Int).toNat).drop (1:Int).toNat), (IntKind.i64.wrap (s16.2.2 + 1)))) else none) else none)))) else (atI (0:Int) x.2.2.1.length ((a2w n ((IntKind.i64.wrap (x.2.2.1.getD (0:Int).toNat (0:Int))), x.1, s16.1, ())).bind fun y18 => (if (!y18.1.2.1) = true then (some (([], (0:Int), false, ()), ())) else ((a0j n (y18.1.1, x.2.2.1, ())).bind fun y19 => (if (!y19.1.1) = true then (some (([], (0:Int), false, ()), ())) else (atI (0:Int) x.2.2.1.length (some ((y18.2.1, (IntKind.i64.wrap (x.2.2.1.getD (0:Int).toNat (0:Int))), true, ()), ())))))))))) n ([], y15.1.1, (0:Int))))) else (if (((IntKind.i64.wrap (x.2.2.1.getD (0:Int).toNat (0:Int))), (IntKind.i64.wrap (x.2.2.1.getD (0:Int).toNat (0:Int))), ()).2).1 = (4:Int) then ((b1h n (x.1, (IntKind.i64.wrap (x.2.1 - y4.1.1)), s2.1, ())).bind fun y10 => (if (!y10.1.2.1) = true then (some (([], (0:Int), false, ()), ())) else (a1d (fun rec12 (s11 : (List V4) × (List V4) × Int) => (if (decide (s11.2.2 < (s2.2.length : Int))) = true then (atI s11.2.2 s2.2.length (if (s2.2.getD s11.2.2.toNat false) = true then (if (s11.1.length + ([((0:Int), (0:Int), [], ())] : List V4).length) * 32 ≤ room then (rec12 ((s11.1 ++ ([((0:Int), (0:Int), [], ())] : List V4)), s11.2.1, (IntKind.i64.wrap (s11.2.2 + 1)))) else none) else (atI (0:Int) s11.2.1.length (if (s11.1.length + ([(s11.2.1.getD (0:Int).toNat ((0:Int), (0:Int), [], ()))] : List V4).length) * 32 ≤ room then (if 0 ≤ (1:Int) ∧ (1:Int) ≤ (s11.2.1.length : Int) then (rec12 ((s11.1 ++ ([(s11.2.1.getD (0:Int).toNat ((0:Int), (0:Int), [], ()))] : List V4)), ((s11.2.1.take (s11.2.1.length : Int).toNat).drop (1:Int).toNat), (IntKind.i64.wrap (s11.2.2 + 1)))) else none) else none)))) else (atI (0:Int) x.2.2.1.length ((a2w n ((IntKind.i64.wrap (x.2.2.1.getD (0:Int).toNat (0:Int))), x.1, s11.1, ())).bind fun y13 => (if (!y13.1.2.1) = true then (some (([], (0:Int), false, ()), ())) else ((a0j n (y13.1.1, x.2.2.1, ())).bind fun y14 => (if (!y14.1.1) = true then (some (([], (0:Int), false, ()), ())) else (atI (0:Int) x.2.2.1.length (some ((y13.2.1, (IntKind.i64.wrap (x.2.2.1.getD (0:Int).toNat (0:Int))), true, ()), ())))))))))) n ([], y10.1.1, (0:Int))))) else (if (((IntKind.i64.wrap (x.2.2.1.getD (0:Int).toNat (0:Int))), (IntKind.i64.wrap (x.2.2.1.getD (0:Int).toNat (0:Int))), ()).2).1 = (5:Int) then ((b0f n (x.1, (IntKind.i64.wrap (x.2.1 - y4.1.1)), s2.1, ())).bind fun y5 => (if (!y5.1.2.1) = true then (some (([], (0:Int), false, ()), ())) else (a1d (fun rec7 (s6 : (List V4) × (List V4) × Int) => (if (decide (s6.2.2 < (s2.2.length : Int))) = true then (atI s6.2.2 s2.2.length (if (s2.2.getD s6.2.2.toNat false) = true then (if (s6.1.length + ([((0:Int), (0:Int), [], ())] : List V4).length) * 32 ≤ room then (rec7 ((s6.1 ++ ([((0:Int), (0:Int), [], ())] : List V4)), s6.2.1, (IntKind.i64.wrap (s6.2.2 + 1)))) else none) else (atI (0:Int) s6.2.1.length (if (s6.1.length + ([(s6.2.1.getD (0:Int).toNat ((0:Int), (0:Int), [], ()))] : List V4).length) * 32 ≤ room then (if 0 ≤ (1:Int) ∧ (1:Int) ≤ (s6.2.1.length : Int) then (rec7 ((s6.1 ++ ([(s6.2.1.getD (0:Int).toNat ((0:Int), (0:Int), [], ()))] : List V4)), ((s6.2.1.take (s6.2.1.length : Int).toNat).drop (1:Int).toNat), (IntKind.i64.wrap (s6.2.2 + 1)))) else none) else none)))) else (atI (0:Int) x.2.2.1.length ((a2w n ((IntKind.i64.wrap (x.2.2.1.getD (0:Int).toNat (0:Int))), x.1, s6.1, ())).bind fun y8 => (if (!y8.1.2.1) = true then (some (([], (0:Int), false, ()), ())) else ((a0j n (y8.1.1, x.2.2.1, ())).bind fun y9 => (if (!y9.1.1) = true then (some (([], (0:Int), false, ()), ())) else (atI (0:Int) x.2.2.1.length (some ((y8.2.1, (IntKind.i64.wrap (x.2.2.1.getD (0:Int).toNat (0:Int))), true, ()), ())))))))))) n ([], y5.1.1, (0:Int))))) else none))))))))) fun J3 => (atI (1:Int) x.2.2.1.length (if (decide ((x.2.2.1.getD (1:Int).toNat (0:Int)) = (1:Int))) = true then (if (decide ((IntKind.i64.wrap ((IntKind.i64.wrap (x.2.1 + 7)).tdiv (8:Int))) ≤ (((x.2.2.1.take (x.2.2.1.length : Int).toNat).drop (2:Int).toNat).length : Int))) = true then (if 0 ≤ (IntKind.i64.wrap ((IntKind.i64.wrap (x.2.1 + 7)).tdiv (8:Int))) ∧ (IntKind.i64.wrap ((IntKind.i64.wrap (x.2.1 + 7)).tdiv (8:Int))) ≤ (((x.2.2.1.take (x.2.2.1.length : Int).toNat).drop (2:Int).toNat).length : Int) then ((a9w n (((((x.2.2.1.take (x.2.2.1.length : Int).toNat).drop (2:Int).toNat).take (IntKind.i64.wrap ((IntKind.i64.wrap (x.2.1 + 7)).tdiv (8:Int))).toNat).drop (0:Int).toNat), x.2.1, ())).bind fun y30 => (if 0 ≤ (IntKind.i64.wrap ((IntKind.i64.wrap (x.2.1 + 7)).tdiv (8:Int))) ∧ (IntKind.i64.wrap ((IntKind.i64.wrap (x.2.1 + 7)).tdiv (8:Int))) ≤ (((x.2.2.1.take (x.2.2.1.length : Int).toNat).drop (2:Int).toNat).length : Int) then (J3 (((((x.2.2.1.take (x.2.2.1.length : Int).toNat).drop (2:Int).toNat).take (((x.2.2.1.take (x.2.2.1.length : Int).toNat).drop (2:Int).toNat).length : Int).toNat).drop (IntKind.i64.wrap ((IntKind.i64.wrap (x.2.1 + 7)).tdiv (8:Int))).toNat), y30.1.1)) else none)) else none) else (J3 (((x.2.2.1.take (x.2.2.1.length : Int).toNat).drop (2:Int).toNat), (List.replicate x.2.1.toNat false)))) else (J3 (((x.2.2.1.take (x.2.2.1.length : Int).toNat).drop (2:Int).toNat), (List.replicate x.2.1.toNat false)))))) else none) else none))))))
def h24 : Hints := ⟨[(0, ⟨[(6, .val (.sl .own 32 (.st (.pair tI (.pair tI (.pair .str .unit)))))), (14, .val (.sl .imm 32 (.st (.pair tI (.pair tI (.pair .str .unit)))))), (91, .val tI)], [0, 2, 89, 90], []⟩)], [(16, ⟨[(11, .val (.sl .imm 1 tB)), (12, .val (.sl .imm 1 .bool))], [0, 1, 2, 6, 10], [9]⟩)]⟩
def ft24 (n : Nat) : List (Nat × FEnt) := [(14, ⟨s14, a9s n⟩), (21, ⟨e2a, a2w n⟩), (54, ⟨s54, a5k n⟩), (58, ⟨s58, a9w n⟩), (59, ⟨s59, a9a n⟩), (60, ⟨s60, a0j n⟩), (90, ⟨s90, b0g n⟩), (92, ⟨s92, b2v n⟩), (94, ⟨s94, b1h n⟩), (96, ⟨s96, b0f n⟩)]
def c24 (n : Nat) : Ctx := ⟨132, find? tys, find? (ft24 n), gls, [], [], []⟩
theorem e24 (n x) : a0m (c24 n) h24 n Go.Proofs.Tryz.f24 s24 x = a1c n x := by kernel_rfl
theorem fn24 : P.funcs[24]? = some Go.Proofs.Tryz.f24 := by kernel_rfl
theorem f2g : a0b P 24 := a0d (by kernel_rfl)
theorem S24 (A : Amb) (hA : HA A) (n : Nat) : a0s A P (c24 n) 24 s24 (a1c n) :=
 a0a mixed (tab rfl) (a0o (C := c24 n) (l := ft24 n) rfl ⟨⟨f9h, (S14 A hA n).of rfl⟩, ⟨f1a, (f0w A n).of rfl⟩, ⟨f2b, (S54 A n).of rfl⟩, ⟨f5x, (S58 A hA n).of rfl⟩, ⟨f6c, (S59 A n).of rfl⟩, ⟨c4g, (S60 A n).of rfl⟩, ⟨f8s, (S90 A hA n).of rfl⟩, ⟨f7r, (S92 A hA n).of rfl⟩, ⟨f6n, (S94 A hA n).of rfl⟩, ⟨f7z, (S96 A hA n).of rfl⟩, trivial⟩) fn24 fun x y h => (e24 n x).trans h
def c1w : Sig := ⟨[.val tI, .val tI, .val (.sl .imm 1 tB)], [.val (.sl .imm 32 (.st (.pair tI (.pair tI (.pair .str .unit))))), .val tI, .val .bool]⟩
theorem e9q (A : Amb) (hA : HA A) (n : Nat) : a0s A P (c24 n) 24 c1w (a1c n) :=
 c7t (e := 32) (te := (.st (.pair tI (.pair tI (.pair .str .unit))))) rfl rfl rfl (S24 A hA n)
def s18 : Sig := ⟨[], [.val .bool]⟩
def a3f (n : Nat) (x : Unit) : Option ((Bool × Unit) × (Unit)) :=
 ((a1g n ((5:Int), (2:Int), ([((2:Int), (5:Int), [], ()), ((0:Int), (0:Int), [], ())] : List V4), ())).bind fun y1 => ((a1c n ((2:Int), (2:Int), y1.1.1, ())).bind fun y2 => ((a2p n ((5:Int), (4:Int), ())).bind fun y3 => (if y1.1.2.1 = true then (if (decide ((3:Int) < (y1.1.1.length : Int))) = true then (atI (0:Int) y1.1.1.length (if (decide ((y1.1.1.getD (0:Int).toNat (0:Int)) = (5:Int))) = true then (atI (1:Int) y1.1.1.length (if (decide ((y1.1.1.getD (1:Int).toNat (0:Int)) = (1:Int))) = true then (atI (2:Int) y1.1.1.length (if (decide ((y1.1.1.getD (2:Int).toNat (0:Int)) = (2:Int))) = true then (if y2.1.2.2.1 = true then (if (decide (y2.1.2.1 = 5)) = true then (if (decide ((y2.1.1.length : Int) = 2)) = true then (atI (1:Int) y2.1.1.length (if (decide ((y2.1.1.getD (1:Int).toNat ((0:Int), (0:Int), [], ())).1 = (0:Int))) = true then (if y3.1.2.1 = true then (some (((decide (y3.1.1 = 3)), ()), ())) else (some ((false, ()), ()))) else (some ((false, ()), ())))) else (some ((false, ()), ()))) else (some ((false, ()), ()))) else (some ((false, ()), ()))) else (some ((false, ()), ())))) else (some ((false, ()), ())))) else (some ((false, ()), ())))) else (some ((false, ()), ()))) else (some ((false, ()), ()))))))
def h18 : Hints := ⟨[], []⟩
def ft18 (n : Nat) : List (Nat × FEnt) := [(19, ⟨s19, a2p n⟩), (21, ⟨c0z, a1g n⟩), (24, ⟨c1w, a1c n⟩)]
def c18 (n : Nat) : Ctx := ⟨77, find? tys, find? (ft18 n), gls, [], [], []⟩
theorem e18 (n x) : a0m (c18 n) h18 n Go.Proofs.Tryz.f18 s18 x = a3f n x := by kernel_rfl
theorem fn18 : P.funcs[18]? = some Go.Proofs.Tryz.f18 := by kernel_rfl
theorem f6h : a0b P 18 := a0d (by kernel_rfl)
theorem S18 (A : Amb) (hA : HA A) (n : Nat) : a0s A P (c18 n) 18 s18 (a3f n) :=
 a0a mixed (tab rfl) (a0o (C := c18 n) (l := ft18 n) rfl ⟨⟨f2q, (S19 A n).of rfl⟩, ⟨f1a, (e8v A n).of rfl⟩, ⟨f2g, (e9q A hA n).of rfl⟩, trivial⟩) fn18 fun x y h => (e18 n x).trans h
def s8 : Sig := ⟨[], [.val .bool]⟩
def c0d (n : Nat) (x : Unit) : Option ((Bool × Unit) × (Unit)) :=
 ((a3f n ()).bind fun y1 => (if (!y1.1.1) = true then (some ((false, ()), ())) else ((a1g n ((1:Int), (2:Int), ([((2:Int), (1:Int), [], ()), ((0:Int), (0:Int), [], ()), ((2:Int), (1:Int), [], ())] : List V4), ())).bind fun y2 => ((a1g n ((5:Int), (3:Int), ([((3:Int), (1:Int), [], ())] : List V4), ())).bind fun y3 => ((a1g n ((4:Int), (4:Int), ([((0:Int), (0:Int), [], ()), ((0:Int), (0:Int), [], ())] : List V4), ())).bind fun y4 => ((a1g n ((2:Int), (1:Int), [], ())).bind fun y5 => ((a1g n ((6:Int), (2:Int), [], ())).bind fun y6 => ((a1g n ((1:Int), (2:Int), ([((1:Int), (0:Int), [], ())] : List V4), ())).bind fun y7 => ((a1c n ((2:Int), (1:Int), [(1:Int), (1:Int), (0:Int), (2:Int)], ())).bind fun y8 => ((a1c n ((2:Int), (1:Int), [(1:Int), (2:Int), (2:Int)], ())).bind fun y9 => ((a1c n ((3:Int), (1:Int), [(5:Int), (0:Int), (2:Int)], ())).bind fun y10 => (a1d (fun rec12 (s11 : Int) => (if (decide (s11 < ([(5:Int), (5:Int), (5:Int), (5:Int), (4:Int), (3:Int), (2:Int), (1:Int), (0:Int), (6:Int), (5:Int)].length : Int))) = true then (atI s11 ([(5:Int), (5:Int), (5:Int), (5:Int), (4:Int), (3:Int), (2:Int), (1:Int), (0:Int), (6:Int), (5:Int)].length) (atI s11 ([(1:Int), (2:Int), (3:Int), (4:Int), (4:Int), (4:Int), (4:Int), (4:Int), (1:Int), (1:Int), (5:Int)].length) ((a2p n (([(5:Int), (5:Int), (5:Int), (5:Int), (4:Int), (3:Int), (2:Int), (1:Int), (0:Int), (6:Int), (5:Int)].getD s11.toNat (0:Int)), ([(1:Int), (2:Int), (3:Int), (4:Int), (4:Int), (4:Int), (4:Int), (4:Int), (1:Int), (1:Int), (5:Int)].getD s11.toNat (0:Int)), ())).bind fun y13 => (atI s11 ([(5:Int), (5:Int), (4:Int), (3:Int), (3:Int), (3:Int), (2:Int), (1:Int), (0:Int), (0:Int), (0:Int)].length) (if (!decide (y13.1.1 = ([(5:Int), (5:Int), (4:Int), (3:Int), (3:Int), (3:Int), (2:Int), (1:Int), (0:Int), (0:Int), (0:Int)].getD s11.toNat (0:Int)))) = true then (some ((false, ()), ())) else (atI s11 ([(5:Int), (5:Int), (4:Int), (3:Int), (3:Int), (3:Int), (2:Int), (1:Int), (0:Int), (0:Int), (0:Int)].length) (if (!(y13.1.2.1 == (decide ((0:Int) < ([(5:Int), (5:Int), (4:Int), (3:Int), (3:Int), (3:Int), (2:Int), (1:Int), (0:Int), (0:Int), (0:Int)].getD s11.toNat (0:Int)))))) = true then (some ((false, ()), ())) else (rec12 (IntKind.i64.wrap (s11 + 1)))))))))) else (if y2.1.2.1 = true then (if (decide (y2.1.1 = [1, 1, 2, 2, 2])) = true then (if y3.1.2.1 = true then (if (decide (y3.1.1 = [4, 0, 2, 0])) = true then (if y4.1.2.1 = true then (if (decide (y4.1.1 = [3, 1, 3, 0])) = true then (if y5.1.2.1 = true then (if (decide (y5.1.1 = [2, 0])) = true then (if (!y6.1.2.1) = true then (if (!y7.1.2.1) = true then (if (!y8.1.2.2.1) = true then (if (!y9.1.2.2.1) = true then (some (((!y10.1.2.2.1), ()), ())) else (some ((false, ()), ()))) else (some ((false, ()), ()))) else (some ((false, ()), ()))) else (some ((false, ()), ()))) else (some ((false, ()), ()))) else (some ((false, ()), ()))) else (some ((false, ()), ()))) else (some ((false, ()), ()))) else (some ((false, ()), ()))) else (some ((false, ()), ()))) else (some ((false, ()), ()))) else (some ((false, ()), ()))))) n (0:Int)))))))))))))
def h8 : Hints := ⟨[(0, ⟨[(26, .val tI)], [2, 3, 4, 5, 6, 7, 8, 9, 11, 13, 16, 19, 22, 23, 24, 25], []⟩)], []⟩
def ft8 (n : Nat) : List (Nat × FEnt) := [(18, ⟨s18, a3f n⟩), (19, ⟨s19, a2p n⟩), (21, ⟨c0z, a1g n⟩), (24, ⟨c1w, a1c n⟩)]
def c8 (n : Nat) : Ctx := ⟨174, find? tys, find? (ft8 n), gls, [], [], []⟩
theorem e8 (n x) : a0m (c8 n) h8 n Go.Proofs.Tryz.f8 s8 x = c0d n x := by kernel_rfl
def s16 : Sig := ⟨[.val (.sl .imm 32 (.st (.pair tI (.pair tI (.pair .str .unit))))), .val (.sl .imm 32 (.st (.pair tI (.pair tI (.pair .str .unit)))))], [.val .bool]⟩
def a2j (n : Nat) (x : (List V4) × (List V4) × Unit) : Option ((Bool × Unit) × (Unit)) :=
 (if (!decide ((x.1.length : Int) = (x.2.1.length : Int))) = true then (some ((false, ()), ())) else (a1d (fun rec2 (s1 : Int) => (if (decide (s1 < (x.1.length : Int))) = true then (atI s1 x.1.length (atI s1 x.2.1.length (if (!((decide ((x.1.getD s1.toNat ((0:Int), (0:Int), [], ())).1 = (x.2.1.getD s1.toNat ((0:Int), (0:Int), [], ())).1)) && ((decide (((x.1.getD s1.toNat ((0:Int), (0:Int), [], ())).2).1 = ((x.2.1.getD s1.toNat ((0:Int), (0:Int), [], ())).2).1)) && (decide ((((x.1.getD s1.toNat ((0:Int), (0:Int), [], ())).2).2).1 = (((x.2.1.getD s1.toNat ((0:Int), (0:Int), [], ())).2).2).1))))) = true then (some ((false, ()), ())) else (rec2 (IntKind.i64.wrap (s1 + 1)))))) else (some ((true, ()), ())))) n (0:Int)))
def h16 : Hints := ⟨[(0, ⟨[(5, .val tI)], [0, 1], []⟩)], []⟩
def ft16 (n : Nat) : List (Nat × FEnt) := []
def c16 (n : Nat) : Ctx := ⟨26, find? tys, find? (ft16 n), gls, [], [], []⟩
theorem e16 (n x) : a0m (c16 n) h16 n Go.Proofs.Tryz.f16 s16 x = a2j n x := by kernel_rfl
theorem fn16 : P.funcs[16]? = some Go.Proofs.Tryz.f16 := by kernel_rfl
theorem f7j : a0b P 16 := a0d (by kernel_rfl)
theorem S16 (A : Amb) (n : Nat) : a0s A P (c16 n) 16 s16 (a2j n) :=
 a0a mixed (tab rfl) (a0o (C := c16 n) (l := ft16 n) rfl trivial) fn16 fun x y h => (e16 n x).trans h
def s26 : Sig := ⟨[.val (.sl .imm 1 tB)], [.box (.st (.pair (.sl .imm 1 tB) (.pair tI .unit)))]⟩
def b3k (n : Nat) (x : List Int × Unit) : Option (((List Int × Int × Unit) × Unit) × (Unit)) :=
 (some (((x.1, (0:Int), ()), ()), ()))
def h26 : Hints := ⟨[], []⟩
def ft26 (n : Nat) : List (Nat × FEnt) := []
def c26 (n : Nat) : Ctx := ⟨6, find? tys, find? (ft26 n), gls, [], [], []⟩
theorem e26 (n x) : a0m (c26 n) h26 n Go.Proofs.Tryz.f26 s26 x = b3k n x := by kernel_rfl
theorem fn26 : P.funcs[26]? = some Go.Proofs.Tryz.f26 := by kernel_rfl
theorem f6w : a0b P 26 := a0d (by kernel_rfl)
theorem S26 (A : Amb) (n : Nat) : a0s A P (c26 n) 26 s26 (b3k n) :=
 a0a mixed (tab rfl) (a0o (C := c26 n) (l := ft26 n) rfl trivial) fn26 fun x y h => (e26 n x).trans h
def s62 : Sig := ⟨[.io (.st (.pair (.sl .imm 1 tB) (.pair tI .unit))), .val tI], [.val tI]⟩
def a5u (n : Nat) (x : (List Int × Int × Unit) × Int × Unit) : Option ((Int × Unit) × ((List Int × Int × Unit) × Unit)) :=
 (if (decide ((x.1.1.length : Int) ≤ x.1.2.1)) = true then (some (((0:Int), ()), (x.1, ()))) else (atI (IntKind.i64.wrap ((IntKind.i64.wrap (x.1.2.1 + 1)) - 1)) x.1.1.length (if x.2.1 = 0 then none else (some ((((IntKind.i64.wrap (x.1.1.getD (IntKind.i64.wrap ((IntKind.i64.wrap (x.1.2.1 + 1)) - 1)).toNat (0:Int))).tmod x.2.1), ()), ((x.1.1, (IntKind.i64.wrap (x.1.2.1 + 1)), x.1.2.2), ()))))))
def h62 : Hints := ⟨[], []⟩
def ft62 (n : Nat) : List (Nat × FEnt) := []
def c62 (n : Nat) : Ctx := ⟨36, find? tys, find? (ft62 n), gls, [], [], []⟩
theorem e62 (n x) : a0m (c62 n) h62 n Go.Proofs.Tryz.f62 s62 x = a5u n x := by kernel_rfl
theorem fn62 : P.funcs[62]? = some Go.Proofs.Tryz.f62 := by kernel_rfl
theorem f5y : a0b P 62 := a0d (by kernel_rfl)
theorem S62 (A : Amb) (n : Nat) : a0s A P (c62 n) 62 s62 (a5u n) :=
 a0a mixed (tab rfl) (a0o (C := c62 n) (l := ft62 n) rfl trivial) fn62 fun x y h => (e62 n x).trans h
def s63 : Sig := ⟨[.io (.st (.pair (.sl .imm 1 tB) (.pair tI .unit)))], [.val .bool]⟩
def a6j (n : Nat) (x : (List Int × Int × Unit) × Unit) : Option ((Bool × Unit) × ((List Int × Int × Unit) × Unit)) :=
 (some (((decide ((x.1.1.length : Int) ≤ x.1.2.1)), ()), (x.1, ())))
def h63 : Hints := ⟨[], []⟩
def ft63 (n : Nat) : List (Nat × FEnt) := []
def c63 (n : Nat) : Ctx := ⟨13, find? tys, find? (ft63 n), gls, [], [], []⟩
theorem e63 (n x) : a0m (c63 n) h63 n Go.Proofs.Tryz.f63 s63 x = a6j n x := by kernel_rfl
theorem fn63 : P.funcs[63]? = some Go.Proofs.Tryz.f63 := by kernel_rfl
theorem f8w : a0b P 63 := a0d (by kernel_rfl)
theorem S63 (A : Amb) (n : Nat) : a0s A P (c63 n) 63 s63 (a6j n) :=
 a0a mixed (tab rfl) (a0o (C := c63 n) (l := ft63 n) rfl trivial) fn63 fun x y h => (e63 n x).trans h
def s27 : Sig := ⟨[.io (.st (.pair (.sl .imm 1 tB) (.pair tI .unit))), .val tI], [.val (.st (.pair tI (.pair tI (.pair .str .unit))))]⟩
def a4p (n : Nat) (x : (List Int × Int × Unit) × Int × Unit) : Option ((V4 × Unit) × ((List Int × Int × Unit) × Unit)) :=
 ((a5u n (x.1, (9:Int), ())).bind fun y1 => (b3r (fun (s2 : (List Int × Int × Unit) × Int × Int × List Int × Unit) => (if (decide (x.2.1 = 1)) = true then (atI y1.1.1 ([(0:Int), (1:Int), (2:Int), (3:Int), (-1:Int), (100:Int), (-32768:Int), (32767:Int), (5:Int)].length) (some (((x.2.1, ([(0:Int), (1:Int), (2:Int), (3:Int), (-1:Int), (100:Int), (-32768:Int), (32767:Int), (5:Int)].getD y1.1.1.toNat (0:Int)), [], ()), ()), (s2.1, ())))) else (if (decide (x.2.1 = 2)) = true then (atI y1.1.1 ([(0:Int), (1:Int), (2:Int), (3:Int), (-1:Int), (1000000:Int), (-9223372036854775808:Int), (9223372036854775807:Int), (4611686018427387904:Int)].length) (some (((x.2.1, ([(0:Int), (1:Int), (2:Int), (3:Int), (-1:Int), (1000000:Int), (-9223372036854775808:Int), (9223372036854775807:Int), (4611686018427387904:Int)].getD y1.1.1.toNat (0:Int)), [], ()), ()), (s2.1, ())))) else (if (decide (x.2.1 = 3)) = true then (some (((x.2.1, (y1.1.1.tmod (2:Int)), [], ()), ()), (s2.1, ()))) else (atI y1.1.1 (([[], [97], [98], [97, 58, 98], [97, 98], [120, 58, 121, 58, 122], [58], [116, 119, 101, 110, 116, 121, 45, 98, 121, 116, 101, 115, 45, 111, 102, 45, 116, 101, 120, 116], [99]] : List (List Int)).length) (some ((((4:Int), (0:Int), (([[], [97], [98], [97, 58, 98], [97, 98], [120, 58, 121, 58, 122], [58], [116, 119, 101, 110, 116, 121, 45, 98, 121, 116, 101, 115, 45, 111, 102, 45, 116, 101, 120, 116], [99]] : List (List Int)).getD y1.1.1.toNat []), ()), ()), (s2.1, ())))))))) fun J3 => (if (decide (y1.1.1 = 0)) = true then ((a6j n (y1.2.1, ())).bind fun y4 => (if (!y4.1.1) = true then (some ((((0:Int), (0:Int), [], ()), ()), (y4.2.1, ()))) else (J3 (y4.2.1, (0:Int), (0:Int), [], ())))) else (J3 (y1.2.1, (0:Int), (0:Int), [], ())))))
def h27 : Hints := ⟨[], [(8, ⟨[(0, .box (.st (.pair (.sl .imm 1 tB) (.pair tI .unit)))), (4, .box (.st (.pair tI (.pair tI (.pair .str .unit)))))], [1, 5], []⟩)]⟩
def ft27 (n : Nat) : List (Nat × FEnt) := [(62, ⟨s62, a5u n⟩), (63, ⟨s63, a6j n⟩)]
def c27 (n : Nat) : Ctx := ⟨44, find? tys, find? (ft27 n), gls, [], [], []⟩
theorem e27 (n x) : a0m (c27 n) h27 n Go.Proofs.Tryz.f27 s27 x = a4p n x := by kernel_rfl
theorem fn27 : P.funcs[27]? = some Go.Proofs.Tryz.f27 := by kernel_rfl
theorem f8y : a0b P 27 := a0d (by kernel_rfl)
theorem S27 (A : Amb) (n : Nat) : a0s A P (c27 n) 27 s27 (a4p n) :=
 a0a mixed (tab rfl) (a0o (C := c27 n) (l := ft27 n) rfl ⟨⟨f5y, (S62 A n).of rfl⟩, ⟨f8w, (S63 A n).of rfl⟩, trivial⟩) fn27 fun x y h => (e27 n x).trans h
def s23 : Sig := ⟨[.val (.sl .imm 1 tB), .val tI, .val tI], [.val (.sl .imm 32 (.st (.pair tI (.pair tI (.pair .str .unit)))))]⟩
def a6d (n : Nat) (x : List Int × Int × Int × Unit) : Option (((List V4) × Unit) × (Unit)) :=
 ((b3k n (x.1, ())).bind fun y1 => (a1d (fun rec3 (s2 : (List Int × Int × Unit) × (List V4) × Int) => (if (decide (s2.2.2 < x.2.2.1)) = true then ((a4p n (s2.1, x.2.1, ())).bind fun y4 => (if (s2.2.1.length + ([y4.1.1] : List V4).length) * 32 ≤ room then (rec3 (y4.2.1, (s2.2.1 ++ ([y4.1.1] : List V4)), (IntKind.i64.wrap (s2.2.2 + 1)))) else none)) else (some ((s2.2.1, ()), ())))) n (y1.1.1, [], (0:Int))))
def h23 : Hints := ⟨[(0, ⟨[(7, .box (.st (.pair (.sl .imm 1 tB) (.pair tI .unit)))), (8, .val (.sl .own 32 (.st (.pair tI (.pair tI (.pair .str .unit)))))), (9, .val tI)], [1, 2], []⟩)], []⟩
def ft23 (n : Nat) : List (Nat × FEnt) := [(26, ⟨s26, b3k n⟩), (27, ⟨s27, a4p n⟩)]
def c23 (n : Nat) : Ctx := ⟨24, find? tys, find? (ft23 n), gls, [], [], []⟩
theorem e23 (n x) : a0m (c23 n) h23 n Go.Proofs.Tryz.f23 s23 x = a6d n x := by kernel_rfl
theorem fn23 : P.funcs[23]? = some Go.Proofs.Tryz.f23 := by kernel_rfl
theorem f7m : a0b P 23 := a0d (by kernel_rfl)
theorem S23 (A : Amb) (n : Nat) : a0s A P (c23 n) 23 s23 (a6d n) :=
 a0a mixed (tab rfl) (a0o (C := c23 n) (l := ft23 n) rfl ⟨⟨f6w, (S26 A n).of rfl⟩, ⟨f8y, (S27 A n).of rfl⟩, trivial⟩) fn23 fun x y h => (e23 n x).trans h
def s6 : Sig := ⟨[.val tB, .val tB, .val (.sl .imm 1 tB), .val (.int .u16), .val tB], [.val .bool]⟩
def c1o (n : Nat) (x : Int × Int × List Int × Int × Int × Unit) : Option ((Bool × Unit) × (Unit)) :=
 ((a3f n ()).bind fun y1 => (if (!y1.1.1) = true then (some ((false, ()), ())) else (if (decide ((60:Int) < (x.2.2.1.length : Int))) = true then (some ((true, ()), ())) else ((a6d n (x.2.2.1, (IntKind.i64.wrap ((1:Int) + (IntKind.i64.wrap (x.2.1.tmod (4:Int))))), (IntKind.i64.wrap ((x.2.2.1.length : Int).tdiv (3:Int))), ())).bind fun y2 => ((a1g n ((IntKind.i64.wrap ((1:Int) + (IntKind.i64.wrap (x.1.tmod (5:Int))))), (IntKind.i64.wrap ((1:Int) + (IntKind.i64.wrap (x.2.1.tmod (4:Int))))), y2.1.1, ())).bind fun y3 => (if (!y3.1.2.1) = true then (some ((false, ()), ())) else (if (decide ((y3.1.1.length : Int) < 2)) = true then (some ((false, ()), ())) else ((a1c n ((IntKind.i64.wrap ((1:Int) + (IntKind.i64.wrap (x.2.1.tmod (4:Int))))), (y2.1.1.length : Int), y3.1.1, ())).bind fun y4 => ((a2p n ((IntKind.i64.wrap ((1:Int) + (IntKind.i64.wrap (x.1.tmod (5:Int))))), (IntKind.i64.wrap ((1:Int) + (IntKind.i64.wrap (x.2.1.tmod (4:Int))))), ())).bind fun y5 => (if (([] : List (Int)).length + y3.1.1.length) * 1 ≤ room then (if (([] ++ y3.1.1).length + [x.2.2.2.2.1].length) * 1 ≤ room then ((a1c n ((IntKind.i64.wrap ((1:Int) + (IntKind.i64.wrap (x.2.1.tmod (4:Int))))), (y2.1.1.length : Int), (([] ++ y3.1.1) ++ [x.2.2.2.2.1]), ())).bind fun y6 => (if (y3.1.1.length : Int) = 0 then none else (if 0 ≤ ((IntKind.i64.wrap x.2.2.2.1).tmod (y3.1.1.length : Int)) ∧ ((IntKind.i64.wrap x.2.2.2.1).tmod (y3.1.1.length : Int)) ≤ (y3.1.1.length : Int) then ((a1c n ((IntKind.i64.wrap ((1:Int) + (IntKind.i64.wrap (x.2.1.tmod (4:Int))))), (y2.1.1.length : Int), ((y3.1.1.take ((IntKind.i64.wrap x.2.2.2.1).tmod (y3.1.1.length : Int)).toNat).drop (0:Int).toNat), ())).bind fun y7 => (if y4.1.2.2.1 = true then (if y5.1.2.1 = true then (if (decide (y4.1.2.1 = y5.1.1)) = true then ((a2j n (y4.1.1, y2.1.1, ())).bind fun y8 => (if y8.1.1 = true then (if (!y6.1.2.2.1) = true then (some (((!y7.1.2.2.1), ()), ())) else (some ((false, ()), ()))) else (some ((false, ()), ())))) else (some ((false, ()), ()))) else (some ((false, ()), ()))) else (some ((false, ()), ())))) else none))) else none) else none))))))))))
def h6 : Hints := ⟨[], []⟩
def ft6 (n : Nat) : List (Nat × FEnt) := [(16, ⟨s16, a2j n⟩), (18, ⟨s18, a3f n⟩), (19, ⟨s19, a2p n⟩), (21, ⟨c0z, a1g n⟩), (23, ⟨s23, a6d n⟩), (24, ⟨c1w, a1c n⟩)]
def c6 (n : Nat) : Ctx := ⟨126, find? tys, find? (ft6 n), gls, [], [], []⟩
theorem e6 (n x) : a0m (c6 n) h6 n Go.Proofs.Tryz.f6 s6 x = c1o n x := by kernel_rfl
def s47 : Sig := ⟨[.val tI], [.val .bool]⟩
def a1m (n : Nat) (x : Int × Unit) : Option ((Bool × Unit) × (Unit)) :=
 (if (decide ((1:Int) ≤ x.1)) = true then (some (((decide (x.1 ≤ 4)), ()), ())) else (some ((false, ()), ())))
def h47 : Hints := ⟨[], []⟩
def ft47 (n : Nat) : List (Nat × FEnt) := []
def c47 (n : Nat) : Ctx := ⟨9, find? tys, find? (ft47 n), gls, [], [], []⟩
theorem e47 (n x) : a0m (c47 n) h47 n Go.Proofs.Tryz.f47 s47 x = a1m n x := by kernel_rfl
theorem fn47 : P.funcs[47]? = some Go.Proofs.Tryz.f47 := by kernel_rfl
theorem d6n : a0b P 47 := a0d (by kernel_rfl)
theorem S47 (A : Amb) (n : Nat) : a0s A P (c47 n) 47 s47 (a1m n) :=
 a0a mixed (tab rfl) (a0o (C := c47 n) (l := ft47 n) rfl trivial) fn47 fun x y h => (e47 n x).trans h
def s97 : Sig := ⟨[.val (.st (.pair tI (.pair tI (.pair .str .unit))))], [.val .bool]⟩
def a6m (n : Nat) (x : V4 × Unit) : Option ((Bool × Unit) × (Unit)) :=
 (if (decide (x.1.1 = 0)) = true then (if (decide (x.1.2.1 = 0)) = true then (some (((decide (x.1.2.2.1 = [])), ()), ())) else (some ((false, ()), ()))) else (if (decide (x.1.1 = 1)) = true then (if (decide ((-32768:Int) ≤ x.1.2.1)) = true then (if (decide (x.1.2.1 ≤ 32767)) = true then (some (((decide (x.1.2.2.1 = [])), ()), ())) else (some ((false, ()), ()))) else (some ((false, ()), ()))) else (if (decide (x.1.1 = 2)) = true then (some (((decide (x.1.2.2.1 = [])), ()), ())) else (if (decide (x.1.1 = 3)) = true then (if (decide (x.1.2.1 = 0)) = true then (some (((decide (x.1.2.2.1 = [])), ()), ())) else (if (decide (x.1.2.1 = 1)) = true then (some (((decide (x.1.2.2.1 = [])), ()), ())) else (some ((false, ()), ())))) else (if (decide (x.1.1 = 4)) = true then (if (decide (x.1.2.1 = 0)) = true then (some (((decide ((x.1.2.2.1.length : Int) ≤ 20)), ()), ())) else (some ((false, ()), ()))) else (some ((false, ()), ())))))))
def h97 : Hints := ⟨[], []⟩
def ft97 (n : Nat) : List (Nat × FEnt) := []
def c97 (n : Nat) : Ctx := ⟨61, find? tys, find? (ft97 n), gls, [], [1], []⟩
theorem e97 (n x) : a0m (c97 n) h97 n Go.Proofs.Tryz.f97 s97 x = a6m n x := by kernel_rfl
theorem fn97 : P.funcs[97]? = some Go.Proofs.Tryz.f97 := by kernel_rfl
theorem f2t : a0b P 97 := a0d (by kernel_rfl)
theorem S97 (A : Amb) (n : Nat) : a0s A P (c97 n) 97 s97 (a6m n) :=
 a0a mixed (tab rfl) (a0o (C := c97 n) (l := ft97 n) rfl trivial) fn97 fun x y h => (e97 n x).trans h
def s56 : Sig := ⟨[.val tI, .val (.st (.pair tI (.pair tI (.pair .str .unit))))], [.val .bool]⟩
def a8p (n : Nat) (x : Int × V4 × Unit) : Option ((Bool × Unit) × (Unit)) :=
 ((a6m n (x.2.1, ())).bind fun y1 => (if y1.1.1 = true then ((a1m n (x.1, ())).bind fun y2 => (if y2.1.1 = true then (if (decide (x.2.1.1 = 0)) = true then (some ((true, ()), ())) else (some (((decide (x.2.1.1 = x.1)), ()), ()))) else (some ((false, ()), ())))) else (some ((false, ()), ()))))
def h56 : Hints := ⟨[], []⟩
def ft56 (n : Nat) : List (Nat × FEnt) := [(47, ⟨s47, a1m n⟩), (97, ⟨s97, a6m n⟩)]
def c56 (n : Nat) : Ctx := ⟨22, find? tys, find? (ft56 n), gls, [], [3], []⟩
theorem e56 (n x) : a0m (c56 n) h56 n Go.Proofs.Tryz.f56 s56 x = a8p n x := by kernel_rfl
theorem fn56 : P.funcs[56]? = some Go.Proofs.Tryz.f56 := by kernel_rfl
theorem f2c : a0b P 56 := a0d (by kernel_rfl)
theorem S56 (A : Amb) (n : Nat) : a0s A P (c56 n) 56 s56 (a8p n) :=
 a0a mixed (tab rfl) (a0o (C := c56 n) (l := ft56 n) rfl ⟨⟨d6n, (S47 A n).of rfl⟩, ⟨f2t, (S97 A n).of rfl⟩, trivial⟩) fn56 fun x y h => (e56 n x).trans h
def s38 : Sig := ⟨[.val tI, .val (.sl .imm 32 (.st (.pair tI (.pair tI (.pair .str .unit)))))], [.val .bool]⟩
def a9y (n : Nat) (x : Int × (List V4) × Unit) : Option ((Bool × Unit) × (Unit)) :=
 (a1d (fun rec2 (s1 : Int) => (if (decide (s1 < (x.2.1.length : Int))) = true then (atI s1 x.2.1.length ((a8p n (x.1, (x.2.1.getD s1.toNat ((0:Int), (0:Int), [], ())), ())).bind fun y3 => (if (!y3.1.1) = true then (some ((false, ()), ())) else (atI s1 x.2.1.length (if (!decide ((x.2.1.getD s1.toNat ((0:Int), (0:Int), [], ())).1 = x.1)) = true then (some ((false, ()), ())) else (rec2 (IntKind.i64.wrap (s1 + 1)))))))) else ((a1m n (x.1, ())).bind fun y4 => (some ((y4.1.1, ()), ()))))) n (0:Int))
def h38 : Hints := ⟨[(0, ⟨[(5, .val tI)], [0, 1], []⟩)], []⟩
def ft38 (n : Nat) : List (Nat × FEnt) := [(47, ⟨s47, a1m n⟩), (56, ⟨s56, a8p n⟩)]
def c38 (n : Nat) : Ctx := ⟨30, find? tys, find? (ft38 n), gls, [], [], []⟩
theorem e38 (n x) : a0m (c38 n) h38 n Go.Proofs.Tryz.f38 s38 x = a9y n x := by kernel_rfl
theorem fn38 : P.funcs[38]? = some Go.Proofs.Tryz.f38 := by kernel_rfl
theorem f9c : a0b P 38 := a0d (by kernel_rfl)
theorem S38 (A : Amb) (n : Nat) : a0s A P (c38 n) 38 s38 (a9y n) :=
 a0a mixed (tab rfl) (a0o (C := c38 n) (l := ft38 n) rfl ⟨⟨d6n, (S47 A n).of rfl⟩, ⟨f2c, (S56 A n).of rfl⟩, trivial⟩) fn38 fun x y h => (e38 n x).trans h
def s39 : Sig := ⟨[.val tI], [.val .bool]⟩
def a9b (n : Nat) (x : Int × Unit) : Option ((Bool × Unit) × (Unit)) :=
 (if (decide (x.1 = 1)) = true then (some ((true, ()), ())) else (if (decide (x.1 = 2)) = true then (some ((true, ()), ())) else (some (((decide (x.1 = 3)), ()), ()))))
def h39 : Hints := ⟨[], []⟩
def ft39 (n : Nat) : List (Nat × FEnt) := []
def c39 (n : Nat) : Ctx := ⟨13, find? tys, find? (ft39 n), gls, [], [], []⟩
theorem e39 (n x) : a0m (c39 n) h39 n Go.Proofs.Tryz.f39 s39 x = a9b n x := by kernel_rfl
theorem fn39 : P.funcs[39]? = some Go.Proofs.Tryz.f39 := by kernel_rfl
theorem f6k : a0b P 39 := a0d (by kernel_rfl)
theorem S39 (A : Amb) (n : Nat) : a0s A P (c39 n) 39 s39 (a9b n) :=
 a0a mixed (tab rfl) (a0o (C := c39 n) (l := ft39 n) rfl trivial) fn39 fun x y h => (e39 n x).trans h
def s41 : Sig := ⟨[.val tU], [.val (.sl .own 1 tB)]⟩
def a1f (n : Nat) (x : Int × Unit) : Option ((List Int × Unit) × (Unit)) :=
 (a1d (fun rec2 (s1 : Int × List Int) => (if (decide ((128:Int) ≤ s1.1)) = true then (if (s1.2.length + [(IntKind.u8.wrap ((IntKind.u8.wrap (s1.1.tmod (128:Int))) + 128))].length) * 1 ≤ room then (rec2 ((IntKind.u64.wrap (s1.1.tdiv (128:Int))), (s1.2 ++ [(IntKind.u8.wrap ((IntKind.u8.wrap (s1.1.tmod (128:Int))) + 128))]))) else none) else (if (s1.2.length + [(IntKind.u8.wrap s1.1)].length) * 1 ≤ room then (some (((s1.2 ++ [(IntKind.u8.wrap s1.1)]), ()), ())) else none))) n (x.1, []))
def h41 : Hints := ⟨[(0, ⟨[(0, .val tU), (3, .val (.sl .own 1 tB))], [], []⟩)], []⟩
def ft41 (n : Nat) : List (Nat × FEnt) := []
def c41 (n : Nat) : Ctx := ⟨20, find? tys, find? (ft41 n), gls, [], [], []⟩
theorem e41 (n x) : a0m (c41 n) h41 n Go.Proofs.Tryz.f41 s41 x = a1f n x := by kernel_rfl
theorem fn41 : P.funcs[41]? = some Go.Proofs.Tryz.f41 := by kernel_rfl
theorem d6d : a0b P 41 := a0d (by kernel_rfl)
theorem S41 (A : Amb) (n : Nat) : a0s A P (c41 n) 41 s41 (a1f n) :=
 a0a mixed (tab rfl) (a0o (C := c41 n) (l := ft41 n) rfl trivial) fn41 fun x y h => (e41 n x).trans h
def s44 : Sig := ⟨[.val tI], [.val tU]⟩
def a5s (n : Nat) (x : Int × Unit) : Option ((Int × Unit) × (Unit)) :=
 (if (decide (x.1 < 0)) = true then (some (((IntKind.u64.wrap ((IntKind.u64.wrap ((2:Int) * (IntKind.u64.wrap (IntKind.i64.wrap (0 - (IntKind.i64.wrap (x.1 + 1))))))) + 1)), ()), ())) else (some (((IntKind.u64.wrap ((2:Int) * (IntKind.u64.wrap x.1))), ()), ())))
def h44 : Hints := ⟨[], []⟩
def ft44 (n : Nat) : List (Nat × FEnt) := []
def c44 (n : Nat) : Ctx := ⟨14, find? tys, find? (ft44 n), gls, [], [], []⟩
theorem e44 (n x) : a0m (c44 n) h44 n Go.Proofs.Tryz.f44 s44 x = a5s n x := by kernel_rfl
theorem fn44 : P.funcs[44]? = some Go.Proofs.Tryz.f44 := by kernel_rfl
theorem e7z : a0b P 44 := a0d (by kernel_rfl)
theorem S44 (A : Amb) (n : Nat) : a0s A P (c44 n) 44 s44 (a5s n) :=
 a0a mixed (tab rfl) (a0o (C := c44 n) (l := ft44 n) rfl trivial) fn44 fun x y h => (e44 n x).trans h
def s40 : Sig := ⟨[.val (.st (.pair tI (.pair tI (.pair .str .unit))))], [.val (.sl .imm 1 tB)]⟩
def a9f (n : Nat) (x : V4 × Unit) : Option ((List Int × Unit) × (Unit)) :=
 (if (decide (x.1.1 = 3)) = true then (some (([(IntKind.u8.wrap x.1.2.1)], ()), ())) else (if (decide (x.1.1 = 4)) = true then (if ([(IntKind.u8.wrap (x.1.2.2.1.length : Int))].length + x.1.2.2.1.length) * 1 ≤ room then (some ((([(IntKind.u8.wrap (x.1.2.2.1.length : Int))] ++ x.1.2.2.1), ()), ())) else none) else ((a5s n (x.1.2.1, ())).bind fun y1 => ((a1f n (y1.1.1, ())).bind fun y2 => (some ((y2.1.1, ()), ()))))))
def h40 : Hints := ⟨[], []⟩
def ft40 (n : Nat) : List (Nat × FEnt) := [(41, ⟨s41, a1f n⟩), (44, ⟨s44, a5s n⟩)]
def c40 (n : Nat) : Ctx := ⟨25, find? tys, find? (ft40 n), gls, [], [1], []⟩
theorem e40 (n x) : a0m (c40 n) h40 n Go.Proofs.Tryz.f40 s40 x = a9f n x := by kernel_rfl
theorem fn40 : P.funcs[40]? = some Go.Proofs.Tryz.f40 := by kernel_rfl
theorem f1g : a0b P 40 := a0d (by kernel_rfl)
theorem S40 (A : Amb) (n : Nat) : a0s A P (c40 n) 40 s40 (a9f n) :=
 a0a mixed (tab rfl) (a0o (C := c40 n) (l := ft40 n) rfl ⟨⟨d6d, (S41 A n).of rfl⟩, ⟨e7z, (S44 A n).of rfl⟩, trivial⟩) fn40 fun x y h => (e40 n x).trans h
def s131 : Sig := ⟨[.val (.st (.pair tI (.pair tI (.pair .str .unit))))], [.val tI]⟩
def b0d (n : Nat) (x : V4 × Unit) : Option ((Int × Unit) × (Unit)) :=
 (if (decide (x.1.1 = 0)) = true then (some (((0:Int), ()), ())) else (if (decide (x.1.1 = 4)) = true then (some (((2:Int), ()), ())) else (some (((1:Int), ()), ()))))
def h131 : Hints := ⟨[], []⟩
def f7s (n : Nat) : List (Nat × FEnt) := []
def c131 (n : Nat) : Ctx := ⟨9, find? tys, find? (f7s n), gls, [], [1], []⟩
theorem e131 (n x) : a0m (c131 n) h131 n Go.Proofs.Tryz.f131 s131 x = b0d n x := by kernel_rfl
theorem g1h : P.funcs[131]? = some Go.Proofs.Tryz.f131 := by kernel_rfl
theorem f5c : a0b P 131 := a0d (by kernel_rfl)
theorem S131 (A : Amb) (n : Nat) : a0s A P (c131 n) 131 s131 (b0d n) :=
 a0a mixed (tab rfl) (a0o (C := c131 n) (l := f7s n) rfl trivial) g1h fun x y h => (e131 n x).trans h
def s113 : Sig := ⟨[.val (.st (.pair tI (.pair tI (.pair .str .unit)))), .val (.st (.pair tI (.pair tI (.pair .str .unit))))], [.val tI]⟩
def a6f (n : Nat) (x : V4 × V4 × Unit) : Option ((Int × Unit) × (Unit)) :=
 ((b0d n (x.1, ())).bind fun y1 => ((b0d n (x.2.1, ())).bind fun y2 => (if (decide (y1.1.1 < y2.1.1)) = true then (some (((-1:Int), ()), ())) else (if (decide (y1.1.1 = y2.1.1)) = true then (if (decide (y1.1.1 = 1)) = true then (if (decide (x.1.2.1 < x.2.1.2.1)) = true then (some (((-1:Int), ()), ())) else (if (decide (y1.1.1 = y2.1.1)) = true then (if (decide (y1.1.1 = 2)) = true then (if (a1q x.1.2.2.1 x.2.1.2.2.1) = true then (some (((-1:Int), ()), ())) else (if (decide (y2.1.1 < y1.1.1)) = true then (some (((1:Int), ()), ())) else (if (decide (y1.1.1 = 1)) = true then (if (decide (x.2.1.2.1 < x.1.2.1)) = true then (some (((1:Int), ()), ())) else (if (decide (y1.1.1 = 2)) = true then (if (a1q x.2.1.2.2.1 x.1.2.2.1) = true then (some (((1:Int), ()), ())) else (some (((0:Int), ()), ()))) else (some (((0:Int), ()), ())))) else (if (decide (y1.1.1 = 2)) = true then (if (a1q x.2.1.2.2.1 x.1.2.2.1) = true then (some (((1:Int), ()), ())) else (some (((0:Int), ()), ()))) else (some (((0:Int), ()), ())))))) else (if (decide (y2.1.1 < y1.1.1)) = true then (some (((1:Int), ()), ())) else (if (decide (y1.1.1 = 1)) = true then (if (decide (x.2.1.2.1 < x.1.2.1)) = true then (some (((1:Int), ()), ())) else (if (decide (y1.1.1 = 2)) = true then (if (a1q x.2.1.2.2.1 x.1.2.2.1) = true then (some (((1:Int), ()), ())) else (some (((0:Int), ()), ()))) else (some (((0:Int), ()), ())))) else (if (decide (y1.1.1 = 2)) = true then (if (a1q x.2.1.2.2.1 x.1.2.2.1) = true then (some (((1:Int), ()), ())) else (some (((0:Int), ()), ()))) else (some (((0:Int), ()), ())))))) else (if (decide (y2.1.1 < y1.1.1)) = true then (some (((1:Int), ()), ())) else (if (decide (y1.1.1 = 1)) = true then (if (decide (x.2.1.2.1 < x.1.2.1)) = true then (some (((1:Int), ()), ())) else (if (decide (y1.1.1 = 2)) = true then (if (a1q x.2.1.2.2.1 x.1.2.2.1) = true then (some (((1:Int), ()), ())) else (some (((0:Int), ()), ()))) else (some (((0:Int), ()), ())))) else (if (decide (y1.1.1 = 2)) = true then (if (a1q x.2.1.2.2.1 x.1.2.2.1) = true then (some (((1:Int), ()), ())) else (some (((0:Int), ()), ()))) else (some (((0:Int), ()), ()))))))) else (if (decide (y1.1.1 = y2.1.1)) = true then (if (decide (y1.1.1 = 2)) = true then (if (a1q x.1.2.2.1 x.2.1.2.2.1) = true then (some (((-1:Int), ()), ())) else (if (decide (y2.1.1 < y1.1.1)) = true then (some (((1:Int), ()), ())) else (if (decide (y1.1.1 = 1)) = true then (if (decide (x.2.1.2.1 < x.1.2.1)) = true then (some (((1:Int), ()), ())) else (if (decide (y1.1.1 = 2)) = true then (if (a1q x.2.1.2.2.1 x.1.2.2.1) = true then (some (((1:Int), ()), ())) else (some (((0:Int), ()), ()))) else (some (((0:Int), ()), ())))) else (if (decide (y1.1.1 = 2)) = true then (if (a1q x.2.1.2.2.1 x.1.2.2.1) = true then (some (((1:Int), ()), ())) else (some (((0:Int), ()), ()))) else (some (((0:Int), ()), ())))))) else (if (decide (y2.1.1 < y1.1.1)) = true then (some (((1:Int), ()), ())) else (if (decide (y1.1.1 = 1)) = true then (if (decide (x.2.1.2.1 < x.1.2.1)) = true then (some (((1:Int), ()), ())) else (if (decide (y1.1.1 = 2)) = true then (if (a1q x.2.1.2.2.1 x.1.2.2.1) = true then (some (((1:Int), ()), ())) else (some (((0:Int), ()), ()))) else (some (((0:Int), ()), ())))) else (if (decide (y1.1.1 = 2)) = true then (if (a1q x.2.1.2.2.1 x.1.2.2.1) = true then (some (((1:Int), ()), ())) else (some (((0:Int), ()), ()))) else (some (((0:Int), ()), ())))))) else (if (decide (y2.1.1 < y1.1.1)) = true then (some (((1:Int), ()), ())) else (if (decide (y1.1.1 = 1)) = true then (if (decide (x.2.1.2.1 < x.1.2.1)) = true then (some (((1:Int), ()), ())) else (if (decide (y1.1.1 = 2)) = true then (if (a1q x.2.1.2.2.1 x.1.2.2.1) = true then (some (((1:Int), ()), ())) else (some (((0:Int), ()), ()))) else (some (((0:Int), ()), ())))) else (if (decide (y1.1.1 = 2)) = true then (if (a1q x.2.1.2.2.1 x.1.2.2.1) = true then (some (((1:Int), ()), ())) else (some (((0:Int), ()), ()))) else (some (((0:Int), ()), ()))))))) else (if (decide (y1.1.1 = y2.1.1)) = true then (if (decide (y1.1.1 = 2)) = true then (if (a1q x.1.2.2.1 x.2.1.2.2.1) = true then (some (((-1:Int), ()), ())) else (if (decide (y2.1.1 < y1.1.1)) = true then (some (((1:Int), ()), ())) else (if (decide (y1.1.1 = 1)) = true then (if (decide (x.2.1.2.1 < x.1.2.1)) = true then (some (((1:Int), ()), ())) else (if (decide (y1.1.1 = 2)) = true then (if (a1q x.2.1.2.2.1 x.1.2.2.1) = true then (some (((1:Int), ()), ())) else (some (((0:Int), ()), ()))) else (some (((0:Int), ()), ())))) else (if (decide (y1.1.1 = 2)) = true then (if (a1q x.2.1.2.2.1 x.1.2.2.1) = true then (some (((1:Int), ()), ())) else (some (((0:Int), ()), ()))) else (some (((0:Int), ()), ())))))) else (if (decide (y2.1.1 < y1.1.1)) = true then (some (((1:Int), ()), ())) else (if (decide (y1.1.1 = 1)) = true then (if (decide (x.2.1.2.1 < x.1.2.1)) = true then (some (((1:Int), ()), ())) else (if (decide (y1.1.1 = 2)) = true then (if (a1q x.2.1.2.2.1 x.1.2.2.1) = true then (some (((1:Int), ()), ())) else (some (((0:Int), ()), ()))) else (some (((0:Int), ()), ())))) else (if (decide (y1.1.1 = 2)) = true then (if (a1q x.2.1.2.2.1 x.1.2.2.1) = true then (some (((1:Int), ()), ())) else (some (((0:Int), ()), ()))) else (some (((0:Int), ()), ())))))) else (if (decide (y2.1.1 < y1.1.1)) = true then (some (((1:Int), ()), ())) else (if (decide (y1.1.1 = 1)) = true then (if (decide (x.2.1.2.1 < x.1.2.1)) = true then (some (((1:Int), ()), ())) else (if (decide (y1.1.1 = 2)) = true then (if (a1q x.2.1.2.2.1 x.1.2.2.1) = true then (some (((1:Int), ()), ())) else (some (((0:Int), ()), ()))) else (some (((0:Int), ()), ())))) else (if (decide (y1.1.1 = 2)) = true then (if (a1q x.2.1.2.2.1 x.1.2.2.1) = true then (some (((1:Int), ()), ())) else (some (((0:Int), ()), ()))) else (some (((0:Int), ()), ()))))))))))
def h113 : Hints := ⟨[], []⟩
def f6m (n : Nat) : List (Nat × FEnt) := [(131, ⟨s131, b0d n⟩)]
def c113 (n : Nat) : Ctx := ⟨73, find? tys, find? (f6m n), gls, [], [2, 3], []⟩
theorem e113 (n x) : a0m (c113 n) h113 n Go.Proofs.Tryz.f113 s113 x = a6f n x := by kernel_rfl
theorem f9s : P.funcs[113]? = some Go.Proofs.Tryz.f113 := by kernel_rfl
theorem f3g : a0b P 113 := a0d (by kernel_rfl)
theorem S113 (A : Amb) (n : Nat) : a0s A P (c113 n) 113 s113 (a6f n) :=
 a0a mixed (tab rfl) (a0o (C := c113 n) (l := f6m n) rfl ⟨⟨f5c, (S131 A n).of rfl⟩, trivial⟩) f9s fun x y h => (e113 n x).trans h
def s74 : Sig := ⟨[.val (.sl .imm 32 (.st (.pair tI (.pair tI (.pair .str .unit)))))], [.val (.sl .imm 32 (.st (.pair tI (.pair tI (.pair .str .unit)))))]⟩
def a8t (n : Nat) (x : (List V4) × Unit) : Option (((List V4) × Unit) × (Unit)) :=
 (a1d (fun rec2 (s1 : (List V4) × Int) => (if (decide (s1.2 < (x.1.length : Int))) = true then (b3r (fun (s3 : Int) => (if (decide (s3 = (s1.1.length : Int))) = true then (if 0 ≤ s3 ∧ s3 ≤ (s1.1.length : Int) then (if (([] : List V4).length + ((s1.1.take s3.toNat).drop (0:Int).toNat).length) * 32 ≤ room then (atI s1.2 x.1.length (if ((([] : List V4) ++ ((s1.1.take s3.toNat).drop (0:Int).toNat)).length + ([(x.1.getD s1.2.toNat ((0:Int), (0:Int), [], ()))] : List V4).length) * 32 ≤ room then (if 0 ≤ s3 ∧ s3 ≤ (s1.1.length : Int) then (if (((([] : List V4) ++ ((s1.1.take s3.toNat).drop (0:Int).toNat)) ++ ([(x.1.getD s1.2.toNat ((0:Int), (0:Int), [], ()))] : List V4)).length + ((s1.1.take (s1.1.length : Int).toNat).drop s3.toNat).length) * 32 ≤ room then (rec2 ((((([] : List V4) ++ ((s1.1.take s3.toNat).drop (0:Int).toNat)) ++ ([(x.1.getD s1.2.toNat ((0:Int), (0:Int), [], ()))] : List V4)) ++ ((s1.1.take (s1.1.length : Int).toNat).drop s3.toNat)), (IntKind.i64.wrap (s1.2 + 1)))) else none) else none) else none)) else none) else none) else (atI s3 s1.1.length (atI s1.2 x.1.length ((a6f n ((s1.1.getD s3.toNat ((0:Int), (0:Int), [], ())), (x.1.getD s1.2.toNat ((0:Int), (0:Int), [], ())), ())).bind fun y5 => (if (!decide (y5.1.1 = (0:Int))) = true then (if 0 ≤ s3 ∧ s3 ≤ (s1.1.length : Int) then (if (([] : List V4).length + ((s1.1.take s3.toNat).drop (0:Int).toNat).length) * 32 ≤ room then (atI s1.2 x.1.length (if ((([] : List V4) ++ ((s1.1.take s3.toNat).drop (0:Int).toNat)).length + ([(x.1.getD s1.2.toNat ((0:Int), (0:Int), [], ()))] : List V4).length) * 32 ≤ room then (if 0 ≤ s3 ∧ s3 ≤ (s1.1.length : Int) then (if (((([] : List V4) ++ ((s1.1.take s3.toNat).drop (0:Int).toNat)) ++ ([(x.1.getD s1.2.toNat ((0:Int), (0:Int), [], ()))] : List V4)).length + ((s1.1.take (s1.1.length : Int).toNat).drop s3.toNat).length) * 32 ≤ room then (rec2 ((((([] : List V4) ++ ((s1.1.take s3.toNat).drop (0:Int).toNat)) ++ ([(x.1.getD s1.2.toNat ((0:Int), (0:Int), [], ()))] : List V4)) ++ ((s1.1.take (s1.1.length : Int).toNat).drop s3.toNat)), (IntKind.i64.wrap (s1.2 + 1)))) else none) else none) else none)) else none) else none) else (rec2 (s1.1, (IntKind.i64.wrap (s1.2 + 1)))))))))) fun J4 => (a1d (fun rec7 (s6 : Int) => (if (decide (s6 < (s1.1.length : Int))) = true then (atI s6 s1.1.length (atI s1.2 x.1.length ((a6f n ((s1.1.getD s6.toNat ((0:Int), (0:Int), [], ())), (x.1.getD s1.2.toNat ((0:Int), (0:Int), [], ())), ())).bind fun y8 => (if (decide (y8.1.1 < 0)) = true then (rec7 (IntKind.i64.wrap (s6 + 1))) else (J4 s6))))) else (J4 s6))) n (0:Int))) else (some ((s1.1, ()), ())))) n ([], (0:Int)))
def h74 : Hints := ⟨[(2, ⟨[(5, .val tI)], [0, 3, 4], []⟩), (0, ⟨[(3, .val (.sl .imm 32 (.st (.pair tI (.pair tI (.pair .str .unit)))))), (4, .val tI)], [0], []⟩)], [(16, ⟨[(5, .val tI)], [0, 3, 4], []⟩)]⟩
def ft74 (n : Nat) : List (Nat × FEnt) := [(113, ⟨s113, a6f n⟩)]
def c74 (n : Nat) : Ctx := ⟨62, find? tys, find? (ft74 n), gls, [], [], []⟩
theorem e74 (n x) : a0m (c74 n) h74 n Go.Proofs.Tryz.f74 s74 x = a8t n x := by kernel_rfl
theorem fn74 : P.funcs[74]? = some Go.Proofs.Tryz.f74 := by kernel_rfl
theorem f7g : a0b P 74 := a0d (by kernel_rfl)
theorem S74 (A : Amb) (n : Nat) : a0s A P (c74 n) 74 s74 (a8t n) :=
 a0a mixed (tab rfl) (a0o (C := c74 n) (l := ft74 n) rfl ⟨⟨f3g, (S113 A n).of rfl⟩, trivial⟩) fn74 fun x y h => (e74 n x).trans h
def s76 : Sig := ⟨[.val tU], [.val tI]⟩
def a5c (n : Nat) (x : Int × Unit) : Option ((Int × Unit) × (Unit)) :=
 (a1d (fun rec2 (s1 : Int × Int) => (if (decide ((0:Int) < s1.1)) = true then (rec2 ((IntKind.u64.wrap (s1.1.tdiv (2:Int))), (IntKind.i64.wrap (s1.2 + 1)))) else (some ((s1.2, ()), ())))) n (x.1, (0:Int)))
def h76 : Hints := ⟨[(0, ⟨[(0, .val tU), (3, .val tI)], [], []⟩)], []⟩
def ft76 (n : Nat) : List (Nat × FEnt) := []
def c76 (n : Nat) : Ctx := ⟨11, find? tys, find? (ft76 n), gls, [], [], []⟩
theorem e76 (n x) : a0m (c76 n) h76 n Go.Proofs.Tryz.f76 s76 x = a5c n x := by kernel_rfl
theorem fn76 : P.funcs[76]? = some Go.Proofs.Tryz.f76 := by kernel_rfl
theorem e7k : a0b P 76 := a0d (by kernel_rfl)
theorem S76 (A : Amb) (n : Nat) : a0s A P (c76 n) 76 s76 (a5c n) :=
 a0a mixed (tab rfl) (a0o (C := c76 n) (l := ft76 n) rfl trivial) fn76 fun x y h => (e76 n x).trans h
def s77 : Sig := ⟨[.val (.sl .imm 8 tU)], [.val tI]⟩
def a6c (n : Nat) (x : List Int × Unit) : Option ((Int × Unit) × (Unit)) :=
 (a1d (fun rec2 (s1 : Int × Int) => (if (decide (s1.2 < (x.1.length : Int))) = true then (atI s1.2 x.1.length ((a5c n ((x.1.getD s1.2.toNat (0:Int)), ())).bind fun y3 => (rec2 ((if y3.1.1 ≤ s1.1 then s1.1 else y3.1.1), (IntKind.i64.wrap (s1.2 + 1)))))) else (some ((s1.1, ()), ())))) n ((0:Int), (0:Int)))
def h77 : Hints := ⟨[(0, ⟨[(3, .val tI), (4, .val tI)], [0], []⟩)], []⟩
def ft77 (n : Nat) : List (Nat × FEnt) := [(76, ⟨s76, a5c n⟩)]
def c77 (n : Nat) : Ctx := ⟨19, find? tys, find? (ft77 n), gls, [], [], []⟩
theorem e77 (n x) : a0m (c77 n) h77 n Go.Proofs.Tryz.f77 s77 x = a6c n x := by kernel_rfl
theorem fn77 : P.funcs[77]? = some Go.Proofs.Tryz.f77 := by kernel_rfl
theorem f1f : a0b P 77 := a0d (by kernel_rfl)
theorem S77 (A : Amb) (n : Nat) : a0s A P (c77 n) 77 s77 (a6c n) :=
 a0a mixed (tab rfl) (a0o (C := c77 n) (l := ft77 n) rfl ⟨⟨e7k, (S76 A n).of rfl⟩, trivial⟩) fn77 fun x y h => (e77 n x).trans h
def s75 : Sig := ⟨[.val (.sl .imm 8 tU), .val tI], [.val (.sl .imm 1 tB), .val .bool]⟩
def a2u (n : Nat) (x : List Int × Int × Unit) : Option ((List Int × Bool × Unit) × (Unit)) :=
 (if (decide (x.2.1 < 0)) = true then (some (([], false, ()), ())) else (if (decide ((64:Int) < x.2.1)) = true then (some (([], false, ()), ())) else ((a6c n (x.1, ())).bind fun y1 => (if (decide (x.2.1 < y1.1.1)) = true then (some (([], false, ()), ())) else (if 0 ≤ (IntKind.i64.wrap ((IntKind.i64.wrap ((IntKind.i64.wrap ((x.1.length : Int) * x.2.1)) + 7)).tdiv (8:Int))) ∧ (IntKind.i64.wrap ((IntKind.i64.wrap ((IntKind.i64.wrap ((x.1.length : Int) * x.2.1)) + 7)).tdiv (8:Int))) ≤ (IntKind.i64.wrap ((IntKind.i64.wrap ((IntKind.i64.wrap ((x.1.length : Int) * x.2.1)) + 7)).tdiv (8:Int))) ∧ (IntKind.i64.wrap ((IntKind.i64.wrap ((IntKind.i64.wrap ((x.1.length : Int) * x.2.1)) + 7)).tdiv (8:Int))) * 1 ≤ room then (a1d (fun rec3 (s2 : List Int × Int) => (if (decide (s2.2 < (x.1.length : Int))) = true then (atI s2.2 x.1.length (a1d (fun rec5 (s4 : List Int × Int × Int) => (if (decide (s4.2.2 < x.2.1)) = true then (atI (IntKind.i64.wrap ((IntKind.i64.wrap ((IntKind.i64.wrap (s2.2 * x.2.1)) + s4.2.2)).tdiv (8:Int))) s4.1.length (if ((IntKind.i64.wrap ((IntKind.i64.wrap (s2.2 * x.2.1)) + s4.2.2)).tmod (8:Int)) < 0 then none else (atI (IntKind.i64.wrap ((IntKind.i64.wrap ((IntKind.i64.wrap (s2.2 * x.2.1)) + s4.2.2)).tdiv (8:Int))) s4.1.length (rec5 ((s4.1.set (IntKind.i64.wrap ((IntKind.i64.wrap ((IntKind.i64.wrap (s2.2 * x.2.1)) + s4.2.2)).tdiv (8:Int))).toNat (IntKind.u8.wrap ((s4.1.getD (IntKind.i64.wrap ((IntKind.i64.wrap ((IntKind.i64.wrap (s2.2 * x.2.1)) + s4.2.2)).tdiv (8:Int))).toNat (0:Int)) + (IntKind.u8.wrap ((IntKind.u8.wrap (s4.2.1.tmod (2:Int))) * 2 ^ min ((IntKind.i64.wrap ((IntKind.i64.wrap (s2.2 * x.2.1)) + s4.2.2)).tmod (8:Int)).toNat IntKind.u8.bits))))), (IntKind.u64.wrap (s4.2.1.tdiv (2:Int))), (IntKind.i64.wrap (s4.2.2 + 1))))))) else (rec3 (s4.1, (IntKind.i64.wrap (s2.2 + 1)))))) n (s2.1, (x.1.getD s2.2.toNat (0:Int)), (0:Int)))) else (some ((s2.1, true, ()), ())))) n ((List.replicate (IntKind.i64.wrap ((IntKind.i64.wrap ((IntKind.i64.wrap ((x.1.length : Int) * x.2.1)) + 7)).tdiv (8:Int))).toNat (0:Int)), (0:Int))) else none)))))
def h75 : Hints := ⟨[(2, ⟨[(6, .val (.sl .own 1 tB)), (8, .val tU), (9, .val tI)], [0, 1, 7], []⟩), (0, ⟨[(6, .val (.sl .own 1 tB)), (7, .val tI)], [0, 1], []⟩)], []⟩
def ft75 (n : Nat) : List (Nat × FEnt) := [(77, ⟨s77, a6c n⟩)]
def c75 (n : Nat) : Ctx := ⟨69, find? tys, find? (ft75 n), gls, [], [], []⟩
theorem e75 (n x) : a0m (c75 n) h75 n Go.Proofs.Tryz.f75 s75 x = a2u n x := by kernel_rfl
theorem fn75 : P.funcs[75]? = some Go.Proofs.Tryz.f75 := by kernel_rfl
theorem e1q : a0b P 75 := a0d (by kernel_rfl)
theorem S75 (A : Amb) (n : Nat) : a0s A P (c75 n) 75 s75 (a2u n) :=
 a0a mixed (tab rfl) (a0o (C := c75 n) (l := ft75 n) rfl ⟨⟨f1f, (S77 A n).of rfl⟩, trivial⟩) fn75 fun x y h => (e75 n x).trans h
def s42 : Sig := ⟨[.val (.sl .imm 32 (.st (.pair tI (.pair tI (.pair .str .unit)))))], [.val (.sl .own 1 tB)]⟩
def b1f (n : Nat) (x : (List V4) × Unit) : Option ((List Int × Unit) × (Unit)) :=
 ((a8t n (x.1, ())).bind fun y1 => ((a1f n ((IntKind.u64.wrap (y1.1.1.length : Int)), ())).bind fun y2 => (a1d (fun rec4 (s3 : List Int × Int) => (if (decide (s3.2 < (y1.1.1.length : Int))) = true then (atI s3.2 y1.1.1.length ((a9f n ((y1.1.1.getD s3.2.toNat ((0:Int), (0:Int), [], ())), ())).bind fun y5 => (if (s3.1.length + y5.1.1.length) * 1 ≤ room then (rec4 ((s3.1 ++ y5.1.1), (IntKind.i64.wrap (s3.2 + 1)))) else none))) else (a1d (fun rec7 (s6 : List Int × Int) => (if (decide (s6.2 < (x.1.length : Int))) = true then (a1d (fun rec9 (s8 : List Int × Int) => (if (decide (s8.2 < (y1.1.1.length : Int))) = true then (atI s8.2 y1.1.1.length (atI s6.2 x.1.length (if ((decide ((y1.1.1.getD s8.2.toNat ((0:Int), (0:Int), [], ())).1 = (x.1.getD s6.2.toNat ((0:Int), (0:Int), [], ())).1)) && ((decide (((y1.1.1.getD s8.2.toNat ((0:Int), (0:Int), [], ())).2).1 = ((x.1.getD s6.2.toNat ((0:Int), (0:Int), [], ())).2).1)) && (decide ((((y1.1.1.getD s8.2.toNat ((0:Int), (0:Int), [], ())).2).2).1 = (((x.1.getD s6.2.toNat ((0:Int), (0:Int), [], ())).2).2).1)))) = true then (if (s8.1.length + [(IntKind.u64.wrap s8.2)].length) * 8 ≤ room then (rec9 ((s8.1 ++ [(IntKind.u64.wrap s8.2)]), (IntKind.i64.wrap (s8.2 + 1)))) else none) else (rec9 (s8.1, (IntKind.i64.wrap (s8.2 + 1))))))) else (rec7 (s8.1, (IntKind.i64.wrap (s6.2 + 1)))))) n (s6.1, (0:Int))) else ((a5c n ((IntKind.u64.wrap (IntKind.i64.wrap ((if (1:Int) ≤ (y1.1.1.length : Int) then (y1.1.1.length : Int) else (1:Int)) - 1))), ())).bind fun y10 => ((a2u n (s6.1, y10.1.1, ())).bind fun y11 => (if (s3.1.length + y11.1.1.length) * 1 ≤ room then (some (((s3.1 ++ y11.1.1), ()), ())) else none))))) n ([], (0:Int))))) n (y2.1.1, (0:Int)))))
def h42 : Hints := ⟨[(0, ⟨[(4, .val (.sl .own 1 tB)), (5, .val tI)], [0, 3], []⟩), (4, ⟨[(6, .val (.sl .own 8 tU)), (8, .val tI)], [0, 3, 7], []⟩), (2, ⟨[(6, .val (.sl .own 8 tU)), (7, .val tI)], [0, 3], [4]⟩)], []⟩
def ft42 (n : Nat) : List (Nat × FEnt) := [(40, ⟨s40, a9f n⟩), (41, ⟨s41, a1f n⟩), (74, ⟨s74, a8t n⟩), (75, ⟨s75, a2u n⟩), (76, ⟨s76, a5c n⟩)]
def c42 (n : Nat) : Ctx := ⟨70, find? tys, find? (ft42 n), gls, [], [], []⟩
theorem e42 (n x) : a0m (c42 n) h42 n Go.Proofs.Tryz.f42 s42 x = b1f n x := by kernel_rfl
theorem fn42 : P.funcs[42]? = some Go.Proofs.Tryz.f42 := by kernel_rfl
theorem f8v : a0b P 42 := a0d (by kernel_rfl)
theorem S42 (A : Amb) (n : Nat) : a0s A P (c42 n) 42 s42 (b1f n) :=
 a0a mixed (tab rfl) (a0o (C := c42 n) (l := ft42 n) rfl ⟨⟨f1g, (S40 A n).of rfl⟩, ⟨d6d, (S41 A n).of rfl⟩, ⟨f7g, (S74 A n).of rfl⟩, ⟨e1q, (S75 A n).of rfl⟩, ⟨e7k, (S76 A n).of rfl⟩, trivial⟩) fn42 fun x y h => (e42 n x).trans h
def s43 : Sig := ⟨[.val (.sl .imm 32 (.st (.pair tI (.pair tI (.pair .str .unit)))))], [.val (.sl .own 1 tB)]⟩
def b1b (n : Nat) (x : (List V4) × Unit) : Option ((List Int × Unit) × (Unit)) :=
 (if (decide ((x.1.length : Int) = 0)) = true then (some (([], ()), ())) else (atI (0:Int) x.1.length (a1d (fun rec2 (s1 : Int × Int) => (if (decide (s1.2 < (x.1.length : Int))) = true then (atI s1.2 x.1.length (rec2 ((if s1.1 ≤ ((x.1.getD s1.2.toNat ((0:Int), (0:Int), [], ())).2).1 then s1.1 else ((x.1.getD s1.2.toNat ((0:Int), (0:Int), [], ())).2).1), (IntKind.i64.wrap (s1.2 + 1))))) else (a1d (fun rec4 (s3 : List Int × Int) => (if (decide (s3.2 < (x.1.length : Int))) = true then (atI s3.2 x.1.length (if (s3.1.length + [(IntKind.u64.wrap ((IntKind.u64.wrap (((x.1.getD s3.2.toNat ((0:Int), (0:Int), [], ())).2).1)) - (IntKind.u64.wrap s1.1)))].length) * 8 ≤ room then (rec4 ((s3.1 ++ [(IntKind.u64.wrap ((IntKind.u64.wrap (((x.1.getD s3.2.toNat ((0:Int), (0:Int), [], ())).2).1)) - (IntKind.u64.wrap s1.1)))]), (IntKind.i64.wrap (s3.2 + 1)))) else none)) else ((a6c n (s3.1, ())).bind fun y5 => ((a2u n (s3.1, y5.1.1, ())).bind fun y6 => ((a5s n (s1.1, ())).bind fun y7 => ((a1f n (y7.1.1, ())).bind fun y8 => ((a6c n (s3.1, ())).bind fun y9 => (if (y8.1.1.length + [(IntKind.u8.wrap y9.1.1)].length) * 1 ≤ room then (if ((y8.1.1 ++ [(IntKind.u8.wrap y9.1.1)]).length + y6.1.1.length) * 1 ≤ room then (some ((((y8.1.1 ++ [(IntKind.u8.wrap y9.1.1)]) ++ y6.1.1), ()), ())) else none) else none)))))))) n ([], (0:Int))))) n (((x.1.getD (0:Int).toNat ((0:Int), (0:Int), [], ())).2).1, (0:Int)))))
def h43 : Hints := ⟨[(0, ⟨[(3, .val tI), (4, .val tI)], [0], []⟩), (2, ⟨[(5, .val (.sl .own 8 tU)), (6, .val tI)], [0, 3], []⟩)], []⟩
def ft43 (n : Nat) : List (Nat × FEnt) := [(41, ⟨s41, a1f n⟩), (44, ⟨s44, a5s n⟩), (75, ⟨s75, a2u n⟩), (77, ⟨s77, a6c n⟩)]
def c43 (n : Nat) : Ctx := ⟨64, find? tys, find? (ft43 n), gls, [], [], []⟩
theorem e43 (n x) : a0m (c43 n) h43 n Go.Proofs.Tryz.f43 s43 x = b1b n x := by kernel_rfl
theorem fn43 : P.funcs[43]? = some Go.Proofs.Tryz.f43 := by kernel_rfl
theorem f6z : a0b P 43 := a0d (by kernel_rfl)
theorem S43 (A : Amb) (n : Nat) : a0s A P (c43 n) 43 s43 (b1b n) :=
 a0a mixed (tab rfl) (a0o (C := c43 n) (l := ft43 n) rfl ⟨⟨d6d, (S41 A n).of rfl⟩, ⟨e7z, (S44 A n).of rfl⟩, ⟨e1q, (S75 A n).of rfl⟩, ⟨f1f, (S77 A n).of rfl⟩, trivial⟩) fn43 fun x y h => (e43 n x).trans h
def s12 : Sig := ⟨[.val tI, .val tI, .val (.sl .imm 32 (.st (.pair tI (.pair tI (.pair .str .unit)))))], [.val (.sl .own 1 tB), .val .bool]⟩
def a6b (n : Nat) (x : Int × Int × (List V4) × Unit) : Option ((List Int × Bool × Unit) × (Unit)) :=
 (b3r (fun (s1 : Unit) => (if (decide (x.1 = 1)) = true then (a1d (fun rec4 (s3 : List Int × Int) => (if (decide (s3.2 < (x.2.2.1.length : Int))) = true then (atI s3.2 x.2.2.1.length ((a9f n ((x.2.2.1.getD s3.2.toNat ((0:Int), (0:Int), [], ())), ())).bind fun y5 => (if (s3.1.length + y5.1.1.length) * 1 ≤ room then (rec4 ((s3.1 ++ y5.1.1), (IntKind.i64.wrap (s3.2 + 1)))) else none))) else (some ((s3.1, true, ()), ())))) n ([], (0:Int))) else (if (decide (x.1 = 2)) = true then (a1d (fun rec7 (s6 : List Int × Int) => (if (decide (s6.2 < (x.2.2.1.length : Int))) = true then (b3r (fun (s8 : Int) => ((a1f n ((IntKind.u64.wrap s8), ())).bind fun y10 => (if (s6.1.length + y10.1.1.length) * 1 ≤ room then (atI s6.2 x.2.2.1.length ((a9f n ((x.2.2.1.getD s6.2.toNat ((0:Int), (0:Int), [], ())), ())).bind fun y11 => (if ((s6.1 ++ y10.1.1).length + y11.1.1.length) * 1 ≤ room then (rec7 (((s6.1 ++ y10.1.1) ++ y11.1.1), (IntKind.i64.wrap (s6.2 + s8)))) else none))) else none))) fun J9 => (a1d (fun rec13 (s12 : Int) => (if (decide ((IntKind.i64.wrap (s6.2 + s12)) < (x.2.2.1.length : Int))) = true then (atI (IntKind.i64.wrap (s6.2 + s12)) x.2.2.1.length (atI s6.2 x.2.2.1.length (if ((decide ((x.2.2.1.getD (IntKind.i64.wrap (s6.2 + s12)).toNat ((0:Int), (0:Int), [], ())).1 = (x.2.2.1.getD s6.2.toNat ((0:Int), (0:Int), [], ())).1)) && ((decide (((x.2.2.1.getD (IntKind.i64.wrap (s6.2 + s12)).toNat ((0:Int), (0:Int), [], ())).2).1 = ((x.2.2.1.getD s6.2.toNat ((0:Int), (0:Int), [], ())).2).1)) && (decide ((((x.2.2.1.getD (IntKind.i64.wrap (s6.2 + s12)).toNat ((0:Int), (0:Int), [], ())).2).2).1 = (((x.2.2.1.getD s6.2.toNat ((0:Int), (0:Int), [], ())).2).2).1)))) = true then (rec13 (IntKind.i64.wrap (s12 + 1))) else (J9 s12)))) else (J9 s12))) n (1:Int))) else (some ((s6.1, true, ()), ())))) n ([], (0:Int))) else (if (decide (x.1 = 3)) = true then ((b1f n (x.2.2.1, ())).bind fun y14 => (some ((y14.1.1, true, ()), ()))) else (if (decide (x.1 = 4)) = true then ((b1b n (x.2.2.1, ())).bind fun y15 => (some ((y15.1.1, true, ()), ()))) else (if (decide (x.1 = 5)) = true then (a1d (fun rec17 (s16 : List Int × Int) => (if (decide (s16.2 < (x.2.2.1.length : Int))) = true then (atI s16.2 x.2.2.1.length (if (decide ((0:Int) < s16.2)) = true then (atI s16.2 x.2.2.1.length (atI (IntKind.i64.wrap (s16.2 - 1)) x.2.2.1.length ((a5s n ((IntKind.i64.wrap ((((x.2.2.1.getD s16.2.toNat ((0:Int), (0:Int), [], ())).2).1) - (((x.2.2.1.getD (IntKind.i64.wrap (s16.2 - 1)).toNat ((0:Int), (0:Int), [], ())).2).1))), ())).bind fun y18 => ((a1f n (y18.1.1, ())).bind fun y19 => (if (s16.1.length + y19.1.1.length) * 1 ≤ room then (rec17 ((s16.1 ++ y19.1.1), (IntKind.i64.wrap (s16.2 + 1)))) else none))))) else ((a5s n (((x.2.2.1.getD s16.2.toNat ((0:Int), (0:Int), [], ())).2).1, ())).bind fun y20 => ((a1f n (y20.1.1, ())).bind fun y21 => (if (s16.1.length + y21.1.1.length) * 1 ≤ room then (rec17 ((s16.1 ++ y21.1.1), (IntKind.i64.wrap (s16.2 + 1)))) else none))))) else (some ((s16.1, true, ()), ())))) n ([], (0:Int))) else (some (([], false, ()), ())))))))) fun J2 => ((a9y n (x.2.1, x.2.2.1, ())).bind fun y22 => (if (!y22.1.1) = true then (some (([], false, ()), ())) else (if (decide (x.1 = 4)) = true then ((a9b n (x.2.1, ())).bind fun y23 => (if (!y23.1.1) = true then (some (([], false, ()), ())) else (if (decide (x.1 = 5)) = true then (if (!decide (x.2.1 = (1:Int))) = true then (if (!decide (x.2.1 = (2:Int))) = true then (some (([], false, ()), ())) else (J2 ())) else (J2 ())) else (J2 ())))) else (if (decide (x.1 = 5)) = true then (if (!decide (x.2.1 = (1:Int))) = true then (if (!decide (x.2.1 = (2:Int))) = true then (some (([], false, ()), ())) else (J2 ())) else (J2 ())) else (J2 ()))))))
def h12 : Hints := ⟨[(1, ⟨[(8, .val (.sl .own 1 tB)), (9, .val tI)], [2], []⟩), (5, ⟨[(11, .val tI)], [2, 10], []⟩), (3, ⟨[(8, .val (.sl .own 1 tB)), (10, .val tI)], [2], []⟩), (7, ⟨[(8, .val (.sl .own 1 tB)), (12, .val tI)], [2], []⟩)], [(6, ⟨[], [0, 2], []⟩), (34, ⟨[(11, .val tI)], [2, 10], [8]⟩)]⟩
def ft12 (n : Nat) : List (Nat × FEnt) := [(38, ⟨s38, a9y n⟩), (39, ⟨s39, a9b n⟩), (40, ⟨s40, a9f n⟩), (41, ⟨s41, a1f n⟩), (42, ⟨s42, b1f n⟩), (43, ⟨s43, b1b n⟩), (44, ⟨s44, a5s n⟩)]
def c12 (n : Nat) : Ctx := ⟨137, find? tys, find? (ft12 n), gls, [], [], []⟩
theorem e12 (n x) : a0m (c12 n) h12 n Go.Proofs.Tryz.f12 s12 x = a6b n x := by kernel_rfl
theorem fn12 : P.funcs[12]? = some Go.Proofs.Tryz.f12 := by kernel_rfl
theorem f2e : a0b P 12 := a0d (by kernel_rfl)
theorem S12 (A : Amb) (n : Nat) : a0s A P (c12 n) 12 s12 (a6b n) :=
 a0a mixed (tab rfl) (a0o (C := c12 n) (l := ft12 n) rfl ⟨⟨f9c, (S38 A n).of rfl⟩, ⟨f6k, (S39 A n).of rfl⟩, ⟨f1g, (S40 A n).of rfl⟩, ⟨d6d, (S41 A n).of rfl⟩, ⟨f8v, (S42 A n).of rfl⟩, ⟨f6z, (S43 A n).of rfl⟩, ⟨e7z, (S44 A n).of rfl⟩, trivial⟩) fn12 fun x y h => (e12 n x).trans h
def s20 : Sig := ⟨[.val tI, .val tI], [.val tI, .val .bool]⟩
def a8f (n : Nat) (x : Int × Int × Unit) : Option ((Int × Bool × Unit) × (Unit)) :=
 ((a1m n (x.2.1, ())).bind fun y1 => (if (!y1.1.1) = true then (some (((0:Int), false, ()), ())) else (if (decide (x.1 < 1)) = true then (some (((0:Int), false, ()), ())) else (if (decide ((5:Int) < x.1)) = true then (some (((0:Int), false, ()), ())) else (b3r (fun (s2 : Int) => (if (decide (s2 = 4)) = true then (if (decide (x.2.1 = 4)) = true then (some (((3:Int), true, ()), ())) else (some ((s2, true, ()), ()))) else (some ((s2, true, ()), ())))) fun J3 => (if (decide (x.1 = 5)) = true then (if (decide (x.2.1 = 3)) = true then (J3 (4:Int)) else (if (decide (x.2.1 = 4)) = true then (J3 (4:Int)) else (J3 x.1))) else (J3 x.1)))))))
def h20 : Hints := ⟨[], [(10, ⟨[(0, .val tI)], [1], []⟩)]⟩
def ft20 (n : Nat) : List (Nat × FEnt) := [(47, ⟨s47, a1m n⟩)]
def c20 (n : Nat) : Ctx := ⟨34, find? tys, find? (ft20 n), gls, [], [], []⟩
theorem e20 (n x) : a0m (c20 n) h20 n Go.Proofs.Tryz.f20 s20 x = a8f n x := by kernel_rfl
theorem fn20 : P.funcs[20]? = some Go.Proofs.Tryz.f20 := by kernel_rfl
theorem f6q : a0b P 20 := a0d (by kernel_rfl)
theorem S20 (A : Amb) (n : Nat) : a0s A P (c20 n) 20 s20 (a8f n) :=
 a0a mixed (tab rfl) (a0o (C := c20 n) (l := ft20 n) rfl ⟨⟨d6n, (S47 A n).of rfl⟩, trivial⟩) fn20 fun x y h => (e20 n x).trans h
def s57 : Sig := ⟨[.val (.sl .imm 1 .bool)], [.val (.sl .imm 1 tB)]⟩
def a6t (n : Nat) (x : List Bool × Unit) : Option ((List Int × Unit) × (Unit)) :=
 (if 0 ≤ (x.1.length : Int) ∧ (x.1.length : Int) ≤ (x.1.length : Int) ∧ (x.1.length : Int) * 8 ≤ room then (a1d (fun rec2 (s1 : List Int × Int) => (if (decide (s1.2 < (x.1.length : Int))) = true then (atI s1.2 x.1.length (if (x.1.getD s1.2.toNat false) = true then (atI s1.2 s1.1.length (rec2 ((s1.1.set s1.2.toNat (1:Int)), (IntKind.i64.wrap (s1.2 + 1))))) else (rec2 (s1.1, (IntKind.i64.wrap (s1.2 + 1)))))) else ((a2u n (s1.1, (1:Int), ())).bind fun y3 => (some ((y3.1.1, ()), ()))))) n ((List.replicate (x.1.length : Int).toNat (0:Int)), (0:Int))) else none)
def h57 : Hints := ⟨[(0, ⟨[(3, .val (.sl .own 8 tU)), (4, .val tI)], [0], []⟩)], []⟩
def ft57 (n : Nat) : List (Nat × FEnt) := [(75, ⟨s75, a2u n⟩)]
def c57 (n : Nat) : Ctx := ⟨29, find? tys, find? (ft57 n), gls, [], [], []⟩
theorem e57 (n x) : a0m (c57 n) h57 n Go.Proofs.Tryz.f57 s57 x = a6t n x := by kernel_rfl
theorem fn57 : P.funcs[57]? = some Go.Proofs.Tryz.f57 := by kernel_rfl
theorem f7e : a0b P 57 := a0d (by kernel_rfl)
theorem S57 (A : Amb) (n : Nat) : a0s A P (c57 n) 57 s57 (a6t n) :=
 a0a mixed (tab rfl) (a0o (C := c57 n) (l := ft57 n) rfl ⟨⟨e1q, (S75 A n).of rfl⟩, trivial⟩) fn57 fun x y h => (e57 n x).trans h
def s22 : Sig := ⟨[.val tI, .val tI, .val (.sl .imm 32 (.st (.pair tI (.pair tI (.pair .str .unit)))))], [.val (.sl .own 1 tB), .val .bool]⟩
def a2v (n : Nat) (x : Int × Int × (List V4) × Unit) : Option ((List Int × Bool × Unit) × (Unit)) :=
 ((a8f n (x.1, x.2.1, ())).bind fun y1 => (if (!y1.1.2.1) = true then (some (([], false, ()), ())) else (a1d (fun rec3 (s2 : List Bool × (List V4) × Int) => (if (decide (s2.2.2 < (x.2.2.1.length : Int))) = true then (atI s2.2.2 x.2.2.1.length ((a8p n (x.2.1, (x.2.2.1.getD s2.2.2.toNat ((0:Int), (0:Int), [], ())), ())).bind fun y4 => (if (!y4.1.1) = true then (some (([], false, ()), ())) else (atI s2.2.2 x.2.2.1.length (if (s2.1.length + ([(decide ((x.2.2.1.getD s2.2.2.toNat ((0:Int), (0:Int), [], ())).1 = (0:Int)))] : List Bool).length) * 1 ≤ room then (atI s2.2.2 x.2.2.1.length (if (!decide ((x.2.2.1.getD s2.2.2.toNat ((0:Int), (0:Int), [], ())).1 = (0:Int))) = true then (atI s2.2.2 x.2.2.1.length (if (s2.2.1.length + ([(x.2.2.1.getD s2.2.2.toNat ((0:Int), (0:Int), [], ()))] : List V4).length) * 32 ≤ room then (rec3 ((s2.1 ++ ([(decide ((x.2.2.1.getD s2.2.2.toNat ((0:Int), (0:Int), [], ())).1 = (0:Int)))] : List Bool)), (s2.2.1 ++ ([(x.2.2.1.getD s2.2.2.toNat ((0:Int), (0:Int), [], ()))] : List V4)), (IntKind.i64.wrap (s2.2.2 + 1)))) else none)) else (rec3 ((s2.1 ++ ([(decide ((x.2.2.1.getD s2.2.2.toNat ((0:Int), (0:Int), [], ())).1 = (0:Int)))] : List Bool)), s2.2.1, (IntKind.i64.wrap (s2.2.2 + 1)))))) else none))))) else (b3r (fun (s5 : List Int) => ((a6b n (y1.1.1, x.2.1, s2.2.1, ())).bind fun y7 => (if (s5.length + y7.1.1.length) * 1 ≤ room then (some (((s5 ++ y7.1.1), y7.1.2.1, ()), ())) else none))) fun J6 => (if (decide ((s2.2.1.length : Int) < (x.2.2.1.length : Int))) = true then (atI (1:Int) ([(IntKind.u8.wrap y1.1.1), (0:Int)].length) ((a6t n (s2.1, ())).bind fun y8 => (if (([(IntKind.u8.wrap y1.1.1), (0:Int)].set (1:Int).toNat (1:Int)).length + y8.1.1.length) * 1 ≤ room then (J6 (([(IntKind.u8.wrap y1.1.1), (0:Int)].set (1:Int).toNat (1:Int)) ++ y8.1.1)) else none))) else (J6 [(IntKind.u8.wrap y1.1.1), (0:Int)]))))) n ([], [], (0:Int)))))
def h22 : Hints := ⟨[(0, ⟨[(11, .val (.sl .own 1 .bool)), (12, .val (.sl .own 32 (.st (.pair tI (.pair tI (.pair .str .unit)))))), (13, .val tI)], [1, 2, 8], [10]⟩)], [(36, ⟨[(10, .val (.sl .own 1 tB))], [1, 8, 12], []⟩)]⟩
def ft22 (n : Nat) : List (Nat × FEnt) := [(12, ⟨s12, a6b n⟩), (20, ⟨s20, a8f n⟩), (56, ⟨s56, a8p n⟩), (57, ⟨s57, a6t n⟩)]
def c22 (n : Nat) : Ctx := ⟨83, find? tys, find? (ft22 n), gls, [], [], []⟩
theorem e22 (n x) : a0m (c22 n) h22 n Go.Proofs.Tryz.f22 s22 x = a2v n x := by kernel_rfl
theorem fn22 : P.funcs[22]? = some Go.Proofs.Tryz.f22 := by kernel_rfl
theorem f1c : a0b P 22 := a0d (by kernel_rfl)
theorem S22 (A : Amb) (n : Nat) : a0s A P (c22 n) 22 s22 (a2v n) :=
 a0a mixed (tab rfl) (a0o (C := c22 n) (l := ft22 n) rfl ⟨⟨f2e, (S12 A n).of rfl⟩, ⟨f6q, (S20 A n).of rfl⟩, ⟨f2c, (S56 A n).of rfl⟩, ⟨f7e, (S57 A n).of rfl⟩, trivial⟩) fn22 fun x y h => (e22 n x).trans h
def e2r : Sig := ⟨[.val tI, .val tI, .sio (.sl .own 1 tB)], [.val (.sl .own 32 (.st (.pair tI (.pair tI (.pair .str .unit))))), .val tI, .val .bool]⟩
def a7w (n : Nat) (x : Int × Int × List Int × Unit) : Option (((List V4) × Int × Bool × Unit) × (List Int × Unit)) :=
 (a1c n (x.1, x.2.1, x.2.2.1, ())).map fun y => (y.1, x.2.2.1, ())
theorem f0i (A : Amb) (hA : HA A) (n : Nat) : a0s A P (c24 n) 24 e2r (a7w n) :=
 b9r (e := 1) (te := tB) (ts := [tI, tI]) rfl rfl rfl (S24 A hA n)
def s84 : Sig := ⟨[.val (.sl .imm 1 tB)], [.val tU, .val tI, .val .bool]⟩
def a2k (n : Nat) (x : List Int × Unit) : Option ((Int × Int × Bool × Unit) × (Unit)) :=
 (a1d (fun rec2 (s1 : Int) => (if (decide (s1 ≤ 10)) = true then (if (decide (s1 ≤ (x.1.length : Int))) = true then (atI (IntKind.i64.wrap (s1 - 1)) x.1.length (if (decide ((128:Int) ≤ (x.1.getD (IntKind.i64.wrap (s1 - 1)).toNat (0:Int)))) = true then (rec2 (IntKind.i64.wrap (s1 + 1))) else (a1d (fun rec4 (s3 : Int × Int) => (if (decide ((0:Int) ≤ s3.2)) = true then (atI s3.2 x.1.length (rec4 ((IntKind.u64.wrap ((IntKind.u64.wrap (s3.1 * (128:Int))) + (IntKind.u64.wrap ((x.1.getD s3.2.toNat (0:Int)).tmod (128:Int))))), (IntKind.i64.wrap (s3.2 - 1))))) else ((a1f n (s3.1, ())).bind fun y5 => (if 0 ≤ s1 ∧ s1 ≤ (x.1.length : Int) then (if (!decide (y5.1.1 = ((x.1.take s1.toNat).drop (0:Int).toNat))) = true then (some (((0:Int), (0:Int), false, ()), ())) else (some ((s3.1, s1, true, ()), ()))) else none)))) n ((0:Int), (IntKind.i64.wrap (s1 - 1)))))) else (some (((0:Int), (0:Int), false, ()), ()))) else (some (((0:Int), (0:Int), false, ()), ())))) n (1:Int))
def h84 : Hints := ⟨[(2, ⟨[(6, .val tU), (7, .val tI)], [0, 5], []⟩), (0, ⟨[(5, .val tI)], [0], []⟩)], []⟩
def ft84 (n : Nat) : List (Nat × FEnt) := [(41, ⟨s41, a1f n⟩)]
def c84 (n : Nat) : Ctx := ⟨49, find? tys, find? (ft84 n), gls, [], [], []⟩
theorem e84 (n x) : a0m (c84 n) h84 n Go.Proofs.Tryz.f84 s84 x = a2k n x := by kernel_rfl
theorem fn84 : P.funcs[84]? = some Go.Proofs.Tryz.f84 := by kernel_rfl
theorem e1i : a0b P 84 := a0d (by kernel_rfl)
theorem S84 (A : Amb) (n : Nat) : a0s A P (c84 n) 84 s84 (a2k n) :=
 a0a mixed (tab rfl) (a0o (C := c84 n) (l := ft84 n) rfl ⟨⟨d6d, (S41 A n).of rfl⟩, trivial⟩) fn84 fun x y h => (e84 n x).trans h
def s87 : Sig := ⟨[.val tU], [.val tI]⟩
def a7m (n : Nat) (x : Int × Unit) : Option ((Int × Unit) × (Unit)) :=
 (if (decide ((x.1.tmod (2:Int)) = (1:Int))) = true then (some (((IntKind.i64.wrap ((IntKind.i64.wrap (0 - (IntKind.i64.wrap (IntKind.u64.wrap (x.1.tdiv (2:Int)))))) - 1)), ()), ())) else (some (((IntKind.i64.wrap (IntKind.u64.wrap (x.1.tdiv (2:Int)))), ()), ())))
def h87 : Hints := ⟨[], []⟩
def ft87 (n : Nat) : List (Nat × FEnt) := []
def c87 (n : Nat) : Ctx := ⟨14, find? tys, find? (ft87 n), gls, [], [], []⟩
theorem e87 (n x) : a0m (c87 n) h87 n Go.Proofs.Tryz.f87 s87 x = a7m n x := by kernel_rfl
theorem fn87 : P.funcs[87]? = some Go.Proofs.Tryz.f87 := by kernel_rfl
theorem e7w : a0b P 87 := a0d (by kernel_rfl)
theorem S87 (A : Amb) (n : Nat) : a0s A P (c87 n) 87 s87 (a7m n) :=
 a0a mixed (tab rfl) (a0o (C := c87 n) (l := ft87 n) rfl trivial) fn87 fun x y h => (e87 n x).trans h
def s83 : Sig := ⟨[.val tI, .val (.sl .imm 1 tB)], [.val (.st (.pair tI (.pair tI (.pair .str .unit)))), .val tI, .val .bool]⟩
def a4b (n : Nat) (x : Int × List Int × Unit) : Option ((V4 × Int × Bool × Unit) × (Unit)) :=
 (if (decide ((x.2.1.length : Int) = 0)) = true then (some ((((0:Int), (0:Int), [], ()), (0:Int), false, ()), ())) else (if (decide (x.1 = 3)) = true then (atI (0:Int) x.2.1.length ((a6m n ((x.1, (IntKind.i64.wrap (x.2.1.getD (0:Int).toNat (0:Int))), [], ()), ())).bind fun y1 => (if y1.1.1 = true then ((a1m n (x.1, ())).bind fun y2 => (some (((x.1, (IntKind.i64.wrap (x.2.1.getD (0:Int).toNat (0:Int))), [], ()), (1:Int), y2.1.1, ()), ()))) else (some (((x.1, (IntKind.i64.wrap (x.2.1.getD (0:Int).toNat (0:Int))), [], ()), (1:Int), false, ()), ()))))) else (if (decide (x.1 = 4)) = true then (atI (0:Int) x.2.1.length (if (decide ((x.2.1.length : Int) < (IntKind.i64.wrap ((1:Int) + (IntKind.i64.wrap (x.2.1.getD (0:Int).toNat (0:Int))))))) = true then (some ((((0:Int), (0:Int), [], ()), (0:Int), false, ()), ())) else (if 0 ≤ (1:Int) ∧ (1:Int) ≤ (IntKind.i64.wrap ((1:Int) + (IntKind.i64.wrap (x.2.1.getD (0:Int).toNat (0:Int))))) ∧ (IntKind.i64.wrap ((1:Int) + (IntKind.i64.wrap (x.2.1.getD (0:Int).toNat (0:Int))))) ≤ (x.2.1.length : Int) then ((a6m n ((x.1, (0:Int), ((x.2.1.take (IntKind.i64.wrap ((1:Int) + (IntKind.i64.wrap (x.2.1.getD (0:Int).toNat (0:Int))))).toNat).drop (1:Int).toNat), ()), ())).bind fun y3 => (if y3.1.1 = true then ((a1m n (x.1, ())).bind fun y4 => (some (((x.1, (0:Int), ((x.2.1.take (IntKind.i64.wrap ((1:Int) + (IntKind.i64.wrap (x.2.1.getD (0:Int).toNat (0:Int))))).toNat).drop (1:Int).toNat), ()), (IntKind.i64.wrap ((1:Int) + (IntKind.i64.wrap (x.2.1.getD (0:Int).toNat (0:Int))))), y4.1.1, ()), ()))) else (some (((x.1, (0:Int), ((x.2.1.take (IntKind.i64.wrap ((1:Int) + (IntKind.i64.wrap (x.2.1.getD (0:Int).toNat (0:Int))))).toNat).drop (1:Int).toNat), ()), (IntKind.i64.wrap ((1:Int) + (IntKind.i64.wrap (x.2.1.getD (0:Int).toNat (0:Int))))), false, ()), ())))) else none))) else ((a2k n (x.2.1, ())).bind fun y5 => (if (!y5.1.2.2.1) = true then (some ((((0:Int), (0:Int), [], ()), (0:Int), false, ()), ())) else ((a7m n (y5.1.1, ())).bind fun y6 => ((a6m n ((x.1, y6.1.1, [], ()), ())).bind fun y7 => (if y7.1.1 = true then ((a1m n (x.1, ())).bind fun y8 => (some (((x.1, y6.1.1, [], ()), y5.1.2.1, y8.1.1, ()), ()))) else (some (((x.1, y6.1.1, [], ()), y5.1.2.1, false, ()), ()))))))))))
def h83 : Hints := ⟨[], []⟩
def ft83 (n : Nat) : List (Nat × FEnt) := [(47, ⟨s47, a1m n⟩), (84, ⟨s84, a2k n⟩), (87, ⟨s87, a7m n⟩), (97, ⟨s97, a6m n⟩)]
def c83 (n : Nat) : Ctx := ⟨66, find? tys, find? (ft83 n), gls, [], [], []⟩
theorem e83 (n x) : a0m (c83 n) h83 n Go.Proofs.Tryz.f83 s83 x = a4b n x := by kernel_rfl
theorem fn83 : P.funcs[83]? = some Go.Proofs.Tryz.f83 := by kernel_rfl
theorem f2y : a0b P 83 := a0d (by kernel_rfl)
theorem S83 (A : Amb) (n : Nat) : a0s A P (c83 n) 83 s83 (a4b n) :=
 a0a mixed (tab rfl) (a0o (C := c83 n) (l := ft83 n) rfl ⟨⟨d6n, (S47 A n).of rfl⟩, ⟨e1i, (S84 A n).of rfl⟩, ⟨e7w, (S87 A n).of rfl⟩, ⟨f2t, (S97 A n).of rfl⟩, trivial⟩) fn83 fun x y h => (e83 n x).trans h
def s99 : Sig := ⟨[.val (.sl .imm 1 tB), .val tI, .val tI], [.val (.sl .imm 8 tU), .val .bool]⟩
def a3e (n : Nat) (x : List Int × Int × Int × Unit) : Option ((List Int × Bool × Unit) × (Unit)) :=
 (if (decide (x.2.1 < 0)) = true then (some (([], false, ()), ())) else (if (decide ((1000:Int) < x.2.1)) = true then (some (([], false, ()), ())) else (if (decide (x.2.2.1 < 0)) = true then (some (([], false, ()), ())) else (if (decide ((64:Int) < x.2.2.1)) = true then (some (([], false, ()), ())) else (if (!decide ((x.1.length : Int) = (IntKind.i64.wrap ((IntKind.i64.wrap ((IntKind.i64.wrap (x.2.1 * x.2.2.1)) + 7)).tdiv (8:Int))))) = true then (some (([], false, ()), ())) else (if 0 ≤ x.2.1 ∧ x.2.1 ≤ x.2.1 ∧ x.2.1 * 8 ≤ room then (a1d (fun rec2 (s1 : List Int × Int) => (if (decide (s1.2 < x.2.1)) = true then (a1d (fun rec4 (s3 : List Int × Int) => (if (decide ((0:Int) ≤ s3.2)) = true then (atI s1.2 s3.1.length (atI (IntKind.i64.wrap ((IntKind.i64.wrap ((IntKind.i64.wrap (s1.2 * x.2.2.1)) + s3.2)).tdiv (8:Int))) x.1.length (if ((IntKind.i64.wrap ((IntKind.i64.wrap (s1.2 * x.2.2.1)) + s3.2)).tmod (8:Int)) < 0 then none else (atI s1.2 s3.1.length (rec4 ((s3.1.set s1.2.toNat (IntKind.u64.wrap ((IntKind.u64.wrap ((2:Int) * (s3.1.getD s1.2.toNat (0:Int)))) + (IntKind.u64.wrap (((x.1.getD (IntKind.i64.wrap ((IntKind.i64.wrap ((IntKind.i64.wrap (s1.2 * x.2.2.1)) + s3.2)).tdiv (8:Int))).toNat (0:Int)).fdiv (2 ^ min ((IntKind.i64.wrap ((IntKind.i64.wrap (s1.2 * x.2.2.1)) + s3.2)).tmod (8:Int)).toNat IntKind.u8.bits)).tmod (2:Int)))))), (IntKind.i64.wrap (s3.2 - 1)))))))) else (rec2 (s3.1, (IntKind.i64.wrap (s1.2 + 1)))))) n (s1.1, (IntKind.i64.wrap (x.2.2.1 - 1)))) else ((a2u n (s1.1, x.2.2.1, ())).bind fun y5 => (if (!decide (y5.1.1 = x.1)) = true then (some (([], false, ()), ())) else (some ((s1.1, true, ()), ())))))) n ((List.replicate x.2.1.toNat (0:Int)), (0:Int))) else none))))))
def h99 : Hints := ⟨[(2, ⟨[(8, .val (.sl .own 8 tU)), (10, .val tI)], [0, 1, 2, 9], []⟩), (0, ⟨[(8, .val (.sl .own 8 tU)), (9, .val tI)], [0, 1, 2], []⟩)], []⟩
def ft99 (n : Nat) : List (Nat × FEnt) := [(75, ⟨s75, a2u n⟩)]
def c99 (n : Nat) : Ctx := ⟨87, find? tys, find? (ft99 n), gls, [], [], []⟩
theorem e99 (n x) : a0m (c99 n) h99 n Go.Proofs.Tryz.f99 s99 x = a3e n x := by kernel_rfl
theorem fn99 : P.funcs[99]? = some Go.Proofs.Tryz.f99 := by kernel_rfl
theorem e5b : a0b P 99 := a0d (by kernel_rfl)
theorem S99 (A : Amb) (n : Nat) : a0s A P (c99 n) 99 s99 (a3e n) :=
 a0a mixed (tab rfl) (a0o (C := c99 n) (l := ft99 n) rfl ⟨⟨e1q, (S75 A n).of rfl⟩, trivial⟩) fn99 fun x y h => (e99 n x).trans h
def s85 : Sig := ⟨[.val tI, .val tI, .val (.sl .imm 1 tB)], [.val (.sl .imm 32 (.st (.pair tI (.pair tI (.pair .str .unit))))), .val .bool]⟩
def a4j (n : Nat) (x : Int × Int × List Int × Unit) : Option (((List V4) × Bool × Unit) × (Unit)) :=
 ((a2k n (x.2.2.1, ())).bind fun y1 => (if (!y1.1.2.2.1) = true then (some (([], false, ()), ())) else (if (decide ((IntKind.u64.wrap x.2.1) < y1.1.1)) = true then (some (([], false, ()), ())) else (if 0 ≤ y1.1.2.1 ∧ y1.1.2.1 ≤ (x.2.2.1.length : Int) then (a1d (fun rec3 (s2 : List Int × (List V4) × Int) => (if (decide (s2.2.2 < y1.1.1)) = true then ((a4b n (x.1, s2.1, ())).bind fun y4 => (if (!y4.1.2.2.1) = true then (some (([], false, ()), ())) else (if (s2.2.1.length + ([y4.1.1] : List V4).length) * 32 ≤ room then (if 0 ≤ y4.1.2.1 ∧ y4.1.2.1 ≤ (s2.1.length : Int) then (rec3 (((s2.1.take (s2.1.length : Int).toNat).drop y4.1.2.1.toNat), (s2.2.1 ++ ([y4.1.1] : List V4)), (IntKind.u64.wrap (s2.2.2 + 1)))) else none) else none))) else ((a5c n ((IntKind.u64.wrap (IntKind.i64.wrap ((if (1:Int) ≤ (s2.2.1.length : Int) then (s2.2.1.length : Int) else (1:Int)) - 1))), ())).bind fun y5 => ((a3e n (s2.1, x.2.1, y5.1.1, ())).bind fun y6 => (if (!y6.1.2.1) = true then (some (([], false, ()), ())) else (a1d (fun rec8 (s7 : (List V4) × Int) => (if (decide (s7.2 < x.2.1)) = true then (atI s7.2 y6.1.1.length (if (decide ((IntKind.u64.wrap (s2.2.1.length : Int)) ≤ (y6.1.1.getD s7.2.toNat (0:Int)))) = true then (some (([], false, ()), ())) else (atI s7.2 y6.1.1.length (atI (y6.1.1.getD s7.2.toNat (0:Int)) s2.2.1.length (if (s7.1.length + ([(s2.2.1.getD (y6.1.1.getD s7.2.toNat (0:Int)).toNat ((0:Int), (0:Int), [], ()))] : List V4).length) * 32 ≤ room then (rec8 ((s7.1 ++ ([(s2.2.1.getD (y6.1.1.getD s7.2.toNat (0:Int)).toNat ((0:Int), (0:Int), [], ()))] : List V4)), (IntKind.i64.wrap (s7.2 + 1)))) else none))))) else (some ((s7.1, true, ()), ())))) n ([], (0:Int)))))))) n (((x.2.2.1.take (x.2.2.1.length : Int).toNat).drop y1.1.2.1.toNat), [], (0:Int))) else none))))
def h85 : Hints := ⟨[(0, ⟨[(2, .val (.sl .imm 1 tB)), (11, .val (.sl .own 32 (.st (.pair tI (.pair tI (.pair .str .unit)))))), (12, .val tU)], [0, 1, 8], []⟩), (2, ⟨[(17, .val (.sl .own 32 (.st (.pair tI (.pair tI (.pair .str .unit)))))), (18, .val tI)], [1, 11, 16], []⟩)], []⟩
def ft85 (n : Nat) : List (Nat × FEnt) := [(76, ⟨s76, a5c n⟩), (83, ⟨s83, a4b n⟩), (84, ⟨s84, a2k n⟩), (99, ⟨s99, a3e n⟩)]
def c85 (n : Nat) : Ctx := ⟨95, find? tys, find? (ft85 n), gls, [], [], []⟩
theorem e85 (n x) : a0m (c85 n) h85 n Go.Proofs.Tryz.f85 s85 x = a4j n x := by kernel_rfl
theorem fn85 : P.funcs[85]? = some Go.Proofs.Tryz.f85 := by kernel_rfl
theorem f9k : a0b P 85 := a0d (by kernel_rfl)
theorem S85 (A : Amb) (n : Nat) : a0s A P (c85 n) 85 s85 (a4j n) :=
 a0a mixed (tab rfl) (a0o (C := c85 n) (l := ft85 n) rfl ⟨⟨e7k, (S76 A n).of rfl⟩, ⟨f2y, (S83 A n).of rfl⟩, ⟨e1i, (S84 A n).of rfl⟩, ⟨e5b, (S99 A n).of rfl⟩, trivial⟩) fn85 fun x y h => (e85 n x).trans h
def s86 : Sig := ⟨[.val tI, .val tI, .val (.sl .imm 1 tB)], [.val (.sl .imm 32 (.st (.pair tI (.pair tI (.pair .str .unit))))), .val .bool]⟩
def a6n (n : Nat) (x : Int × Int × List Int × Unit) : Option (((List V4) × Bool × Unit) × (Unit)) :=
 (if (decide (x.2.1 = 0)) = true then (some (([], (decide ((x.2.2.1.length : Int) = 0)), ()), ())) else ((a2k n (x.2.2.1, ())).bind fun y1 => (if (!y1.1.2.2.1) = true then (some (([], false, ()), ())) else (if (decide ((x.2.2.1.length : Int) ≤ y1.1.2.1)) = true then (some (([], false, ()), ())) else (if 0 ≤ (IntKind.i64.wrap (y1.1.2.1 + 1)) ∧ (IntKind.i64.wrap (y1.1.2.1 + 1)) ≤ (x.2.2.1.length : Int) then (atI y1.1.2.1 x.2.2.1.length ((a3e n (((x.2.2.1.take (x.2.2.1.length : Int).toNat).drop (IntKind.i64.wrap (y1.1.2.1 + 1)).toNat), x.2.1, (IntKind.i64.wrap (x.2.2.1.getD y1.1.2.1.toNat (0:Int))), ())).bind fun y2 => (if (!y2.1.2.1) = true then (some (([], false, ()), ())) else (a1d (fun rec4 (s3 : (List V4) × Int) => (if (decide (s3.2 < x.2.1)) = true then ((a7m n (y1.1.1, ())).bind fun y5 => (atI s3.2 y2.1.1.length (if (s3.1.length + ([(x.1, (IntKind.i64.wrap (IntKind.u64.wrap ((IntKind.u64.wrap y5.1.1) + (y2.1.1.getD s3.2.toNat (0:Int))))), [], ())] : List V4).length) * 32 ≤ room then (rec4 ((s3.1 ++ ([(x.1, (IntKind.i64.wrap (IntKind.u64.wrap ((IntKind.u64.wrap y5.1.1) + (y2.1.1.getD s3.2.toNat (0:Int))))), [], ())] : List V4)), (IntKind.i64.wrap (s3.2 + 1)))) else none))) else (some ((s3.1, true, ()), ())))) n ([], (0:Int)))))) else none)))))
def h86 : Hints := ⟨[(0, ⟨[(12, .val (.sl .own 32 (.st (.pair tI (.pair tI (.pair .str .unit)))))), (13, .val tI)], [0, 1, 8, 11], []⟩)], []⟩
def ft86 (n : Nat) : List (Nat × FEnt) := [(84, ⟨s84, a2k n⟩), (87, ⟨s87, a7m n⟩), (99, ⟨s99, a3e n⟩)]
def c86 (n : Nat) : Ctx := ⟨69, find? tys, find? (ft86 n), gls, [], [], []⟩
theorem e86 (n x) : a0m (c86 n) h86 n Go.Proofs.Tryz.f86 s86 x = a6n n x := by kernel_rfl
theorem fn86 : P.funcs[86]? = some Go.Proofs.Tryz.f86 := by kernel_rfl
theorem f8d : a0b P 86 := a0d (by kernel_rfl)
theorem S86 (A : Amb) (n : Nat) : a0s A P (c86 n) 86 s86 (a6n n) :=
 a0a mixed (tab rfl) (a0o (C := c86 n) (l := ft86 n) rfl ⟨⟨e1i, (S84 A n).of rfl⟩, ⟨e7w, (S87 A n).of rfl⟩, ⟨e5b, (S99 A n).of rfl⟩, trivial⟩) fn86 fun x y h => (e86 n x).trans h
def s48 : Sig := ⟨[.val tI, .val tI, .val tI, .val (.sl .imm 1 tB)], [.val (.sl .imm 32 (.st (.pair tI (.pair tI (.pair .str .unit))))), .val .bool]⟩
def a4s (n : Nat) (x : Int × Int × Int × List Int × Unit) : Option (((List V4) × Bool × Unit) × (Unit)) :=
 (if (decide (x.1 = 1)) = true then (a1d (fun rec2 (s1 : List Int × List V4) => (if (decide ((s1.2.length : Int) < x.2.2.1)) = true then ((a4b n (x.2.1, s1.1, ())).bind fun y3 => (if (!y3.1.2.2.1) = true then (some (([], false, ()), ())) else (if (s1.2.length + ([y3.1.1] : List V4).length) * 32 ≤ room then (if 0 ≤ y3.1.2.1 ∧ y3.1.2.1 ≤ (s1.1.length : Int) then (rec2 (((s1.1.take (s1.1.length : Int).toNat).drop y3.1.2.1.toNat), (s1.2 ++ ([y3.1.1] : List V4)))) else none) else none))) else (some ((s1.2, true, ()), ())))) n (x.2.2.2.1, [])) else (if (decide (x.1 = 2)) = true then (a1d (fun rec5 (s4 : List Int × List V4) => (if (decide ((s4.2.length : Int) < x.2.2.1)) = true then ((a2k n (s4.1, ())).bind fun y6 => (if (!y6.1.2.2.1) = true then (some (([], false, ()), ())) else (if (decide (y6.1.1 = 0)) = true then (some (([], false, ()), ())) else (if (decide ((IntKind.u64.wrap (IntKind.i64.wrap (x.2.2.1 - (s4.2.length : Int)))) < y6.1.1)) = true then (some (([], false, ()), ())) else (if 0 ≤ y6.1.2.1 ∧ y6.1.2.1 ≤ (s4.1.length : Int) then ((a4b n (x.2.1, ((s4.1.take (s4.1.length : Int).toNat).drop y6.1.2.1.toNat), ())).bind fun y7 => (if (!y7.1.2.2.1) = true then (some (([], false, ()), ())) else (a1d (fun rec9 (s8 : (List V4) × Int) => (if (decide (s8.2 < y6.1.1)) = true then (if (s8.1.length + ([y7.1.1] : List V4).length) * 32 ≤ room then (rec9 ((s8.1 ++ ([y7.1.1] : List V4)), (IntKind.u64.wrap (s8.2 + 1)))) else none) else (if 0 ≤ (IntKind.i64.wrap (y6.1.2.1 + y7.1.2.1)) ∧ (IntKind.i64.wrap (y6.1.2.1 + y7.1.2.1)) ≤ (s4.1.length : Int) then (rec5 (((s4.1.take (s4.1.length : Int).toNat).drop (IntKind.i64.wrap (y6.1.2.1 + y7.1.2.1)).toNat), s8.1)) else none))) n (s4.2, (0:Int))))) else none))))) else (some ((s4.2, true, ()), ())))) n (x.2.2.2.1, [])) else (if (decide (x.1 = 3)) = true then ((a4j n (x.2.1, x.2.2.1, x.2.2.2.1, ())).bind fun y10 => (some ((y10.1.1, y10.1.2.1, ()), ()))) else (if (decide (x.1 = 4)) = true then ((a6n n (x.2.1, x.2.2.1, x.2.2.2.1, ())).bind fun y11 => (some ((y11.1.1, y11.1.2.1, ()), ()))) else (if (decide (x.1 = 5)) = true then (a1d (fun rec13 (s12 : List Int × (List V4) × Int) => (if (decide ((s12.2.1.length : Int) < x.2.2.1)) = true then ((a2k n (s12.1, ())).bind fun y14 => (if (!y14.1.2.2.1) = true then (some (([], false, ()), ())) else ((a7m n (y14.1.1, ())).bind fun y15 => (if 0 ≤ y14.1.2.1 ∧ y14.1.2.1 ≤ (s12.1.length : Int) then (if (s12.2.1.length + ([(x.2.1, (IntKind.i64.wrap (s12.2.2 + y15.1.1)), [], ())] : List V4).length) * 32 ≤ room then (rec13 (((s12.1.take (s12.1.length : Int).toNat).drop y14.1.2.1.toNat), (s12.2.1 ++ ([(x.2.1, (IntKind.i64.wrap (s12.2.2 + y15.1.1)), [], ())] : List V4)), (IntKind.i64.wrap (s12.2.2 + y15.1.1)))) else none) else none)))) else (some ((s12.2.1, true, ()), ())))) n (x.2.2.2.1, [], (0:Int))) else (some (([], true, ()), ())))))))
def h48 : Hints := ⟨[(1, ⟨[(3, .val (.sl .imm 1 tB)), (10, .val (.sl .own 32 (.st (.pair tI (.pair tI (.pair .str .unit))))))], [1, 2], []⟩), (5, ⟨[(10, .val (.sl .own 32 (.st (.pair tI (.pair tI (.pair .str .unit)))))), (20, .val tU)], [1, 2, 3, 14, 15, 17, 18], []⟩), (3, ⟨[(3, .val (.sl .imm 1 tB)), (10, .val (.sl .own 32 (.st (.pair tI (.pair tI (.pair .str .unit))))))], [1, 2], []⟩), (7, ⟨[(3, .val (.sl .imm 1 tB)), (10, .val (.sl .own 32 (.st (.pair tI (.pair tI (.pair .str .unit)))))), (21, .val tI)], [1, 2], []⟩)], []⟩
def ft48 (n : Nat) : List (Nat × FEnt) := [(83, ⟨s83, a4b n⟩), (84, ⟨s84, a2k n⟩), (85, ⟨s85, a4j n⟩), (86, ⟨s86, a6n n⟩), (87, ⟨s87, a7m n⟩)]
def c48 (n : Nat) : Ctx := ⟨144, find? tys, find? (ft48 n), gls, [], [], []⟩
theorem e48 (n x) : a0m (c48 n) h48 n Go.Proofs.Tryz.f48 s48 x = a4s n x := by kernel_rfl
theorem fn48 : P.funcs[48]? = some Go.Proofs.Tryz.f48 := by kernel_rfl
theorem f7h : a0b P 48 := a0d (by kernel_rfl)
theorem S48 (A : Amb) (n : Nat) : a0s A P (c48 n) 48 s48 (a4s n) :=
 a0a mixed (tab rfl) (a0o (C := c48 n) (l := ft48 n) rfl ⟨⟨f2y, (S83 A n).of rfl⟩, ⟨e1i, (S84 A n).of rfl⟩, ⟨f9k, (S85 A n).of rfl⟩, ⟨f8d, (S86 A n).of rfl⟩, ⟨e7w, (S87 A n).of rfl⟩, trivial⟩) fn48 fun x y h => (e48 n x).trans h
def s15 : Sig := ⟨[.val tI, .val tI, .val tI, .val (.sl .imm 1 tB)], [.val (.sl .imm 32 (.st (.pair tI (.pair tI (.pair .str .unit))))), .val .bool]⟩
def a8q (n : Nat) (x : Int × Int × Int × List Int × Unit) : Option (((List V4) × Bool × Unit) × (Unit)) :=
 (if (decide (x.2.2.1 < 0)) = true then (some (([], false, ()), ())) else (if (decide ((1000:Int) < x.2.2.1)) = true then (some (([], false, ()), ())) else ((a1m n (x.2.1, ())).bind fun y1 => (if (!y1.1.1) = true then (some (([], false, ()), ())) else ((a4s n (x.1, x.2.1, x.2.2.1, x.2.2.2.1, ())).bind fun y2 => ((a6b n (x.1, x.2.1, y2.1.1, ())).bind fun y3 => (if (!y2.1.2.1) = true then (some (([], false, ()), ())) else (if (!y3.1.2.1) = true then (some (([], false, ()), ())) else (if (!decide ((y2.1.1.length : Int) = x.2.2.1)) = true then (some (([], false, ()), ())) else (if (!decide (y3.1.1 = x.2.2.2.1)) = true then (some (([], false, ()), ())) else (some ((y2.1.1, true, ()), ()))))))))))))
def h15 : Hints := ⟨[], []⟩
def ft15 (n : Nat) : List (Nat × FEnt) := [(12, ⟨s12, a6b n⟩), (47, ⟨s47, a1m n⟩), (48, ⟨s48, a4s n⟩)]
def c15 (n : Nat) : Ctx := ⟨60, find? tys, find? (ft15 n), gls, [], [], []⟩
theorem e15 (n x) : a0m (c15 n) h15 n Go.Proofs.Tryz.f15 s15 x = a8q n x := by kernel_rfl
theorem fn15 : P.funcs[15]? = some Go.Proofs.Tryz.f15 := by kernel_rfl
theorem f8r : a0b P 15 := a0d (by kernel_rfl)
theorem S15 (A : Amb) (n : Nat) : a0s A P (c15 n) 15 s15 (a8q n) :=
 a0a mixed (tab rfl) (a0o (C := c15 n) (l := ft15 n) rfl ⟨⟨f2e, (S12 A n).of rfl⟩, ⟨d6n, (S47 A n).of rfl⟩, ⟨f7h, (S48 A n).of rfl⟩, trivial⟩) fn15 fun x y h => (e15 n x).trans h
def s61 : Sig := ⟨[.val (.sl .imm 1 tB), .val tI], [.val (.sl .imm 1 .bool), .val .bool]⟩
def a5t (n : Nat) (x : List Int × Int × Unit) : Option ((List Bool × Bool × Unit) × (Unit)) :=
 ((a3e n (x.1, x.2.1, (1:Int), ())).bind fun y1 => (if (!y1.1.2.1) = true then (some (([], false, ()), ())) else (if 0 ≤ x.2.1 ∧ x.2.1 ≤ x.2.1 ∧ x.2.1 * 1 ≤ room then (a1d (fun rec3 (s2 : List Bool × Int) => (if (decide (s2.2 < x.2.1)) = true then (atI s2.2 y1.1.1.length (atI s2.2 s2.1.length (rec3 ((s2.1.set s2.2.toNat (decide ((y1.1.1.getD s2.2.toNat (0:Int)) = (1:Int)))), (IntKind.i64.wrap (s2.2 + 1)))))) else (some ((s2.1, true, ()), ())))) n ((List.replicate x.2.1.toNat false), (0:Int))) else none)))
def h61 : Hints := ⟨[(0, ⟨[(8, .val (.sl .own 1 .bool)), (9, .val tI)], [1, 6], []⟩)], []⟩
def ft61 (n : Nat) : List (Nat × FEnt) := [(99, ⟨s99, a3e n⟩)]
def c61 (n : Nat) : Ctx := ⟨34, find? tys, find? (ft61 n), gls, [], [], []⟩
theorem e61 (n x) : a0m (c61 n) h61 n Go.Proofs.Tryz.f61 s61 x = a5t n x := by kernel_rfl
theorem fn61 : P.funcs[61]? = some Go.Proofs.Tryz.f61 := by kernel_rfl
theorem f6g : a0b P 61 := a0d (by kernel_rfl)
theorem S61 (A : Amb) (n : Nat) : a0s A P (c61 n) 61 s61 (a5t n) :=
 a0a mixed (tab rfl) (a0o (C := c61 n) (l := ft61 n) rfl ⟨⟨e5b, (S99 A n).of rfl⟩, trivial⟩) fn61 fun x y h => (e61 n x).trans h
def e2b : Sig := ⟨[.val tI, .val tI, .sio (.sl .own 32 (.st (.pair tI (.pair tI (.pair .str .unit)))))], [.val (.sl .own 1 tB), .val .bool]⟩
def a5y (n : Nat) (x : Int × Int × (List V4) × Unit) : Option ((List Int × Bool × Unit) × ((List V4) × Unit)) :=
 (a2v n (x.1, x.2.1, x.2.2.1, ())).map fun y => (y.1, x.2.2.1, ())
theorem e8p (A : Amb) (n : Nat) : a0s A P (c22 n) 22 e2b (a5y n) :=
 b9r (e := 32) (te := (.st (.pair tI (.pair tI (.pair .str .unit))))) (ts := [tI, tI]) rfl rfl rfl (S22 A n)
def s25 : Sig := ⟨[.val tI, .val tI, .val (.sl .imm 1 tB)], [.val (.sl .own 32 (.st (.pair tI (.pair tI (.pair .str .unit))))), .val tI, .val .bool]⟩
def a3n (n : Nat) (x : Int × Int × List Int × Unit) : Option (((List V4) × Int × Bool × Unit) × (Unit)) :=
 (if (decide (x.2.1 < 0)) = true then (some (([], (0:Int), false, ()), ())) else (if (decide ((1000:Int) < x.2.1)) = true then (some (([], (0:Int), false, ()), ())) else (if (decide ((x.2.2.1.length : Int) < 2)) = true then (some (([], (0:Int), false, ()), ())) else (atI (1:Int) x.2.2.1.length (if (decide ((1:Int) < (x.2.2.1.getD (1:Int).toNat (0:Int)))) = true then (some (([], (0:Int), false, ()), ())) else (atI (0:Int) x.2.2.1.length (if 0 ≤ x.2.1 ∧ x.2.1 ≤ x.2.1 ∧ x.2.1 * 1 ≤ room then (if 0 ≤ (2:Int) ∧ (2:Int) ≤ (x.2.2.1.length : Int) then (b3r (fun (s1 : List Bool × List Int) => (a1d (fun rec4 (s3 : Int × Int) => (if (decide (s3.2 < x.2.1)) = true then (atI s3.2 s1.1.length (if (!(s1.1.getD s3.2.toNat false)) = true then (rec4 ((IntKind.i64.wrap (s3.1 + 1)), (IntKind.i64.wrap (s3.2 + 1)))) else (rec4 (s3.1, (IntKind.i64.wrap (s3.2 + 1)))))) else ((a8q n ((IntKind.i64.wrap (x.2.2.1.getD (0:Int).toNat (0:Int))), x.1, s3.1, s1.2, ())).bind fun y5 => (if (!y5.1.2.1) = true then (some (([], (0:Int), false, ()), ())) else (a1d (fun rec7 (s6 : (List V4) × (List V4) × Int) => (if (decide (s6.2.2 < x.2.1)) = true then (atI s6.2.2 s1.1.length (if (!(s1.1.getD s6.2.2.toNat false)) = true then (atI (0:Int) s6.1.length (if 0 ≤ (1:Int) ∧ (1:Int) ≤ (s6.1.length : Int) then (if (s6.2.1.length + ([(s6.1.getD (0:Int).toNat ((0:Int), (0:Int), [], ()))] : List V4).length) * 32 ≤ room then (rec7 (((s6.1.take (s6.1.length : Int).toNat).drop (1:Int).toNat), (s6.2.1 ++ ([(s6.1.getD (0:Int).toNat ((0:Int), (0:Int), [], ()))] : List V4)), (IntKind.i64.wrap (s6.2.2 + 1)))) else none) else none)) else (if (s6.2.1.length + ([((0:Int), (0:Int), [], ())] : List V4).length) * 32 ≤ room then (rec7 (s6.1, (s6.2.1 ++ ([((0:Int), (0:Int), [], ())] : List V4)), (IntKind.i64.wrap (s6.2.2 + 1)))) else none))) else ((a5y n ((IntKind.i64.wrap (x.2.2.1.getD (0:Int).toNat (0:Int))), x.1, s6.2.1, ())).bind fun y8 => (if (!y8.1.2.1) = true then (some (([], (0:Int), false, ()), ())) else (if (!decide (y8.1.1 = x.2.2.1)) = true then (some (([], (0:Int), false, ()), ())) else (some ((y8.2.1, (IntKind.i64.wrap (x.2.2.1.getD (0:Int).toNat (0:Int))), true, ()), ()))))))) n (y5.1.1, [], (0:Int))))))) n ((0:Int), (0:Int)))) fun J2 => (atI (1:Int) x.2.2.1.length (if (decide ((x.2.2.1.getD (1:Int).toNat (0:Int)) = (1:Int))) = true then (if (decide ((((x.2.2.1.take (x.2.2.1.length : Int).toNat).drop (2:Int).toNat).length : Int) < (IntKind.i64.wrap ((IntKind.i64.wrap (x.2.1 + 7)).tdiv (8:Int))))) = true then (some (([], (0:Int), false, ()), ())) else (if 0 ≤ (IntKind.i64.wrap ((IntKind.i64.wrap (x.2.1 + 7)).tdiv (8:Int))) ∧ (IntKind.i64.wrap ((IntKind.i64.wrap (x.2.1 + 7)).tdiv (8:Int))) ≤ (((x.2.2.1.take (x.2.2.1.length : Int).toNat).drop (2:Int).toNat).length : Int) then ((a5t n (((((x.2.2.1.take (x.2.2.1.length : Int).toNat).drop (2:Int).toNat).take (IntKind.i64.wrap ((IntKind.i64.wrap (x.2.1 + 7)).tdiv (8:Int))).toNat).drop (0:Int).toNat), x.2.1, ())).bind fun y9 => (if (!y9.1.2.1) = true then (some (([], (0:Int), false, ()), ())) else (if 0 ≤ (IntKind.i64.wrap ((IntKind.i64.wrap (x.2.1 + 7)).tdiv (8:Int))) ∧ (IntKind.i64.wrap ((IntKind.i64.wrap (x.2.1 + 7)).tdiv (8:Int))) ≤ (((x.2.2.1.take (x.2.2.1.length : Int).toNat).drop (2:Int).toNat).length : Int) then (J2 (y9.1.1, ((((x.2.2.1.take (x.2.2.1.length : Int).toNat).drop (2:Int).toNat).take (((x.2.2.1.take (x.2.2.1.length : Int).toNat).drop (2:Int).toNat).length : Int).toNat).drop (IntKind.i64.wrap ((IntKind.i64.wrap (x.2.1 + 7)).tdiv (8:Int))).toNat))) else none))) else none)) else (J2 ((List.replicate x.2.1.toNat false), ((x.2.2.1.take (x.2.2.1.length : Int).toNat).drop (2:Int).toNat)))))) else none) else none)))))))
def h25 : Hints := ⟨[(0, ⟨[(14, .val tI), (15, .val tI)], [0, 1, 2, 9, 10, 11], []⟩), (2, ⟨[(16, .val (.sl .imm 32 (.st (.pair tI (.pair tI (.pair .str .unit)))))), (18, .val (.sl .own 32 (.st (.pair tI (.pair tI (.pair .str .unit)))))), (19, .val tI)], [0, 1, 2, 9, 10], []⟩)], [(26, ⟨[(10, .val (.sl .imm 1 .bool)), (11, .val (.sl .imm 1 tB))], [0, 1, 2, 9], []⟩)]⟩
def ft25 (n : Nat) : List (Nat × FEnt) := [(15, ⟨s15, a8q n⟩), (22, ⟨e2b, a5y n⟩), (61, ⟨s61, a5t n⟩)]
def c25 (n : Nat) : Ctx := ⟨136, find? tys, find? (ft25 n), gls, [], [], []⟩
theorem e25 (n x) : a0m (c25 n) h25 n Go.Proofs.Tryz.f25 s25 x = a3n n x := by kernel_rfl
theorem fn25 : P.funcs[25]? = some Go.Proofs.Tryz.f25 := by kernel_rfl
theorem f9e : a0b P 25 := a0d (by kernel_rfl)
theorem S25 (A : Amb) (n : Nat) : a0s A P (c25 n) 25 s25 (a3n n) :=
 a0a mixed (tab rfl) (a0o (C := c25 n) (l := ft25 n) rfl ⟨⟨f8r, (S15 A n).of rfl⟩, ⟨f1c, (e8p A n).of rfl⟩, ⟨f6g, (S61 A n).of rfl⟩, trivial⟩) fn25 fun x y h => (e25 n x).trans h
def e2k : Sig := ⟨[.val tI, .val tI, .sio (.sl .own 1 tB)], [.val (.sl .own 32 (.st (.pair tI (.pair tI (.pair .str .unit))))), .val tI, .val .bool]⟩
def a5q (n : Nat) (x : Int × Int × List Int × Unit) : Option (((List V4) × Int × Bool × Unit) × (List Int × Unit)) :=
 (a3n n (x.1, x.2.1, x.2.2.1, ())).map fun y => (y.1, x.2.2.1, ())
theorem e9j (A : Amb) (n : Nat) : a0s A P (c25 n) 25 e2k (a5q n) :=
 b9r (e := 1) (te := tB) (ts := [tI, tI]) rfl rfl rfl (S25 A n)
def s7 : Sig := ⟨[.val tB, .val tB, .val (.sl .imm 1 tB), .val (.arr 3 tB), .val (.arr 3 tB)], [.val .bool]⟩
def a2z (n : Nat) (x : Int × Int × List Int × List Int × List Int × Unit) : Option ((Bool × Unit) × (Unit)) :=
 ((a3f n ()).bind fun y1 => (if (!y1.1.1) = true then (some ((false, ()), ())) else (if (decide ((60:Int) < (x.2.2.1.length : Int))) = true then (some ((true, ()), ())) else ((a6d n (x.2.2.1, (IntKind.i64.wrap ((1:Int) + (IntKind.i64.wrap (x.2.1.tmod (4:Int))))), (20:Int), ())).bind fun y2 => ((a2v n ((IntKind.i64.wrap ((1:Int) + (IntKind.i64.wrap (x.1.tmod (5:Int))))), (IntKind.i64.wrap ((1:Int) + (IntKind.i64.wrap (x.2.1.tmod (4:Int))))), y2.1.1, ())).bind fun y3 => (a1d (fun rec5 (s4 : List Int × Int) => (if (decide (s4.2 < 3)) = true then (if (decide ((0:Int) < (s4.1.length : Int))) = true then (b3r (fun (s6 : List Int) => ((a7w n ((IntKind.i64.wrap ((1:Int) + (IntKind.i64.wrap (x.2.1.tmod (4:Int))))), (y2.1.1.length : Int), s6, ())).bind fun y8 => ((a5q n ((IntKind.i64.wrap ((1:Int) + (IntKind.i64.wrap (x.2.1.tmod (4:Int))))), (y2.1.1.length : Int), y8.2.1, ())).bind fun y9 => (if (!(y8.1.2.2.1 == y9.1.2.2.1)) = true then (some ((false, ()), ())) else (if (!decide (y8.1.2.1 = y9.1.2.1)) = true then (some ((false, ()), ())) else ((a2j n (y8.1.1, y9.1.1, ())).bind fun y10 => (if (!y10.1.1) = true then (some ((false, ()), ())) else (rec5 (y9.2.1, (IntKind.i64.wrap (s4.2 + 1))))))))))) fun J7 => (atI s4.2 x.2.2.2.2.1.length (if (decide ((0:Int) < ((x.2.2.2.2.1.getD s4.2.toNat (0:Int)).tmod (4:Int)))) = true then (atI s4.2 x.2.2.2.1.length (if (s4.1.length : Int) = 0 then none else (atI s4.2 x.2.2.2.2.1.length (atI ((IntKind.i64.wrap (x.2.2.2.1.getD s4.2.toNat (0:Int))).tmod (s4.1.length : Int)) s4.1.length (J7 (s4.1.set ((IntKind.i64.wrap (x.2.2.2.1.getD s4.2.toNat (0:Int))).tmod (s4.1.length : Int)).toNat (IntKind.u8.wrap ((x.2.2.2.2.1.getD s4.2.toNat (0:Int)).tdiv (2:Int))))))))) else (J7 s4.1)))) else (some ((true, ()), ()))) else (some ((true, ()), ())))) n (y3.1.1, (0:Int))))))))
def h7 : Hints := ⟨[(0, ⟨[(14, .val (.sl .own 1 tB)), (16, .val tI)], [8, 9, 12, 13], []⟩)], [(26, ⟨[(14, .val (.sl .own 1 tB))], [8, 9, 12, 13, 16], []⟩)]⟩
def ft7 (n : Nat) : List (Nat × FEnt) := [(16, ⟨s16, a2j n⟩), (18, ⟨s18, a3f n⟩), (22, ⟨s22, a2v n⟩), (23, ⟨s23, a6d n⟩), (24, ⟨e2r, a7w n⟩), (25, ⟨e2k, a5q n⟩)]
def c7 (n : Nat) : Ctx := ⟨105, find? tys, find? (ft7 n), gls, [], [8, 9], []⟩
theorem e7 (n x) : a0m (c7 n) h7 n Go.Proofs.Tryz.f7 s7 x = a2z n x := by kernel_rfl
theorem fn7 : P.funcs[7]? = some Go.Proofs.Tryz.f7 := by kernel_rfl
theorem S7 (A : Amb) (hA : HA A) (n : Nat) : a0s A P (c7 n) 7 s7 (a2z n) :=
 a0a mixed (tab rfl) (a0o (C := c7 n) (l := ft7 n) rfl ⟨⟨f7j, (S16 A n).of rfl⟩, ⟨f6h, (S18 A hA n).of rfl⟩, ⟨f1c, (S22 A n).of rfl⟩, ⟨f7m, (S23 A n).of rfl⟩, ⟨f2g, (f0i A hA n).of rfl⟩, ⟨f9e, (e9j A n).of rfl⟩, trivial⟩) fn7 fun x y h => (e7 n x).trans h
def s13 : Sig := ⟨[.val (.sl .imm 1 tB)], [.val (.lf .hnd)]⟩
def c1z (_n : Nat) (x : List Int × Unit) : Option ((List Int × Unit) × (Unit)) := f4h x
def s17 : Sig := ⟨[.val (.lf .hnd), .val (.sl .imm 1 tB)], [.val .bool]⟩
def c6o (_n : Nat) (x : List Int × List Int × Unit) : Option ((Bool × Unit) × (Unit)) := g1a x
def f0y : Sig := ⟨[.val tI, .val tI, .val (.sl .imm 32 (.st (.pair tI (.pair tI (.pair .str .unit)))))], [.val (.sl .imm 1 tB), .val .bool]⟩
def e9z : Sig := ⟨[.val tI, .val tI, .val (.sl .imm 1 tB)], [.val (.sl .imm 32 (.st (.pair tI (.pair tI (.pair .str .unit))))), .val tI, .val .bool]⟩
def s5 : Sig := ⟨[.val tI, .val tI, .val (.sl .imm 1 tB), .val (.sl .imm 32 (.st (.pair tI (.pair tI (.pair .str .unit))))), .val tI, .val (.sl .imm 1 tB)], [.val .bool]⟩
def c3j (n : Nat) (x : Int × Int × List Int × (List V4) × Int × List Int × Unit) : Option ((Bool × Unit) × (Unit)) :=
 ((a3f n ()).bind fun y1 => (if (!y1.1.1) = true then (some ((false, ()), ())) else (if (decide ((60:Int) < (x.2.2.1.length : Int))) = true then (some ((true, ()), ())) else (if (decide ((10:Int) < (x.2.2.2.1.length : Int))) = true then (some ((true, ()), ())) else (if (decide ((60:Int) < (x.2.2.2.2.2.1.length : Int))) = true then (some ((true, ()), ())) else (a1d (fun rec3 (s2 : Int) => (if (decide (s2 < (x.2.2.2.1.length : Int))) = true then (atI s2 x.2.2.2.1.length (if (decide ((40:Int) < (((((x.2.2.2.1.getD s2.toNat ((0:Int), (0:Int), [], ())).2).2).1).length : Int))) = true then (some ((true, ()), ())) else (rec3 (IntKind.i64.wrap (s2 + 1))))) else (a1d (fun rec5 (s4 : Int) => (if (decide (s4 < ([x.2.1, (1:Int), (2:Int), (3:Int), (4:Int)].length : Int))) = true then (a1d (fun rec7 (s6 : Int) => (if (decide (s6 < ([x.1, (1:Int), (2:Int), (3:Int), (4:Int), (5:Int)].length : Int))) = true then (atI s6 ([x.1, (1:Int), (2:Int), (3:Int), (4:Int), (5:Int)].length) (atI s4 ([x.2.1, (1:Int), (2:Int), (3:Int), (4:Int)].length) ((a2p n (([x.1, (1:Int), (2:Int), (3:Int), (4:Int), (5:Int)].getD s6.toNat (0:Int)), ([x.2.1, (1:Int), (2:Int), (3:Int), (4:Int)].getD s4.toNat (0:Int)), ())).bind fun y8 => (atI s6 ([x.1, (1:Int), (2:Int), (3:Int), (4:Int), (5:Int)].length) (atI s4 ([x.2.1, (1:Int), (2:Int), (3:Int), (4:Int)].length) ((a8f n (([x.1, (1:Int), (2:Int), (3:Int), (4:Int), (5:Int)].getD s6.toNat (0:Int)), ([x.2.1, (1:Int), (2:Int), (3:Int), (4:Int)].getD s4.toNat (0:Int)), ())).bind fun y9 => (atI s6 ([x.1, (1:Int), (2:Int), (3:Int), (4:Int), (5:Int)].length) (atI s4 ([x.2.1, (1:Int), (2:Int), (3:Int), (4:Int)].length) ((a1g n (([x.1, (1:Int), (2:Int), (3:Int), (4:Int), (5:Int)].getD s6.toNat (0:Int)), ([x.2.1, (1:Int), (2:Int), (3:Int), (4:Int)].getD s4.toNat (0:Int)), x.2.2.2.1, ())).bind fun y10 => (atI s6 ([x.1, (1:Int), (2:Int), (3:Int), (4:Int), (5:Int)].length) (atI s4 ([x.2.1, (1:Int), (2:Int), (3:Int), (4:Int)].length) ((a2v n (([x.1, (1:Int), (2:Int), (3:Int), (4:Int), (5:Int)].getD s6.toNat (0:Int)), ([x.2.1, (1:Int), (2:Int), (3:Int), (4:Int)].getD s4.toNat (0:Int)), x.2.2.2.1, ())).bind fun y11 => (atI s4 ([x.2.1, (1:Int), (2:Int), (3:Int), (4:Int)].length) ((a6d n (x.2.2.1, ([x.2.1, (1:Int), (2:Int), (3:Int), (4:Int)].getD s4.toNat (0:Int)), (20:Int), ())).bind fun y12 => (atI s6 ([x.1, (1:Int), (2:Int), (3:Int), (4:Int), (5:Int)].length) (atI s4 ([x.2.1, (1:Int), (2:Int), (3:Int), (4:Int)].length) ((a1g n (([x.1, (1:Int), (2:Int), (3:Int), (4:Int), (5:Int)].getD s6.toNat (0:Int)), ([x.2.1, (1:Int), (2:Int), (3:Int), (4:Int)].getD s4.toNat (0:Int)), y12.1.1, ())).bind fun y13 => (atI s6 ([x.1, (1:Int), (2:Int), (3:Int), (4:Int), (5:Int)].length) (atI s4 ([x.2.1, (1:Int), (2:Int), (3:Int), (4:Int)].length) ((a2v n (([x.1, (1:Int), (2:Int), (3:Int), (4:Int), (5:Int)].getD s6.toNat (0:Int)), ([x.2.1, (1:Int), (2:Int), (3:Int), (4:Int)].getD s4.toNat (0:Int)), y12.1.1, ())).bind fun y14 => (if (!decide (y8.1.1 = y9.1.1)) = true then (some ((false, ()), ())) else (if (!(y8.1.2.1 == y9.1.2.1)) = true then (some ((false, ()), ())) else (if (!decide (y10.1.1 = y11.1.1)) = true then (if y11.1.2.1 = true then (some ((false, ()), ())) else (if (!(y10.1.2.1 == y11.1.2.1)) = true then (some ((false, ()), ())) else (if (!decide (y13.1.1 = y14.1.1)) = true then (if y14.1.2.1 = true then (some ((false, ()), ())) else (if (!(y13.1.2.1 == y14.1.2.1)) = true then (some ((false, ()), ())) else (if (!y10.1.2.1) = true then (if (decide ((0:Int) < (y10.1.1.length : Int))) = true then (some ((false, ()), ())) else (if (!y13.1.2.1) = true then (if (decide ((0:Int) < (y13.1.1.length : Int))) = true then (some ((false, ()), ())) else (rec7 (IntKind.i64.wrap (s6 + 1)))) else (rec7 (IntKind.i64.wrap (s6 + 1))))) else (if (!y13.1.2.1) = true then (if (decide ((0:Int) < (y13.1.1.length : Int))) = true then (some ((false, ()), ())) else (rec7 (IntKind.i64.wrap (s6 + 1)))) else (rec7 (IntKind.i64.wrap (s6 + 1))))))) else (if (!(y13.1.2.1 == y14.1.2.1)) = true then (some ((false, ()), ())) else (if (!y10.1.2.1) = true then (if (decide ((0:Int) < (y10.1.1.length : Int))) = true then (some ((false, ()), ())) else (if (!y13.1.2.1) = true then (if (decide ((0:Int) < (y13.1.1.length : Int))) = true then (some ((false, ()), ())) else (rec7 (IntKind.i64.wrap (s6 + 1)))) else (rec7 (IntKind.i64.wrap (s6 + 1))))) else (if (!y13.1.2.1) = true then (if (decide ((0:Int) < (y13.1.1.length : Int))) = true then (some ((false, ()), ())) else (rec7 (IntKind.i64.wrap (s6 + 1)))) else (rec7 (IntKind.i64.wrap (s6 + 1))))))))) else (if (!(y10.1.2.1 == y11.1.2.1)) = true then (some ((false, ()), ())) else (if (!decide (y13.1.1 = y14.1.1)) = true then (if y14.1.2.1 = true then (some ((false, ()), ())) else (if (!(y13.1.2.1 == y14.1.2.1)) = true then (some ((false, ()), ())) else (if (!y10.1.2.1) = true then (if (decide ((0:Int) < (y10.1.1.length : Int))) = true then (some ((false, ()), ())) else (if (!y13.1.2.1) = true then (if (decide ((0:Int) < (y13.1.1.length : Int))) = true then (some ((false, ()), ())) else (rec7 (IntKind.i64.wrap (s6 + 1)))) else (rec7 (IntKind.i64.wrap (s6 + 1))))) else (if (!y13.1.2.1) = true then (if (decide ((0:Int) < (y13.1.1.length : Int))) = true then (some ((false, ()), ())) else (rec7 (IntKind.i64.wrap (s6 + 1)))) else (rec7 (IntKind.i64.wrap (s6 + 1))))))) else (if (!(y13.1.2.1 == y14.1.2.1)) = true then (some ((false, ()), ())) else (if (!y10.1.2.1) = true then (if (decide ((0:Int) < (y10.1.1.length : Int))) = true then (some ((false, ()), ())) else (if (!y13.1.2.1) = true then (if (decide ((0:Int) < (y13.1.1.length : Int))) = true then (some ((false, ()), ())) else (rec7 (IntKind.i64.wrap (s6 + 1)))) else (rec7 (IntKind.i64.wrap (s6 + 1))))) else (if (!y13.1.2.1) = true then (if (decide ((0:Int) < (y13.1.1.length : Int))) = true then (some ((false, ()), ())) else (rec7 (IntKind.i64.wrap (s6 + 1)))) else (rec7 (IntKind.i64.wrap (s6 + 1))))))))))))))))))))))))))))))) else ((c1z n (x.2.2.2.2.2.1, ())).bind fun y15 => (atI s4 ([x.2.1, (1:Int), (2:Int), (3:Int), (4:Int)].length) ((a1c n (([x.2.1, (1:Int), (2:Int), (3:Int), (4:Int)].getD s4.toNat (0:Int)), x.2.2.2.2.1, y15.1.1, ())).bind fun y16 => (atI s4 ([x.2.1, (1:Int), (2:Int), (3:Int), (4:Int)].length) ((a3n n (([x.2.1, (1:Int), (2:Int), (3:Int), (4:Int)].getD s4.toNat (0:Int)), x.2.2.2.2.1, x.2.2.2.2.2.1, ())).bind fun y17 => (if (!(y16.1.2.2.1 == y17.1.2.2.1)) = true then (some ((false, ()), ())) else (if (!decide (y16.1.2.1 = y17.1.2.1)) = true then (some ((false, ()), ())) else ((a2j n (y16.1.1, y17.1.1, ())).bind fun y18 => (if (!y18.1.1) = true then (some ((false, ()), ())) else ((c6o n (y15.1.1, x.2.2.2.2.2.1, ())).bind fun y19 => (if (!y19.1.1) = true then (some ((false, ()), ())) else (rec5 (IntKind.i64.wrap (s4 + 1)))))))))))))))) n (0:Int)) else (some ((true, ()), ())))) n (0:Int)))) n (0:Int)))))))
def h5 : Hints := ⟨[(0, ⟨[(13, .val tI)], [0, 1, 2, 3, 4, 5], []⟩), (4, ⟨[(17, .val tI)], [2, 3, 4, 5, 14, 15, 16], []⟩), (2, ⟨[(16, .val tI)], [2, 3, 4, 5, 14, 15], []⟩)], []⟩
def ft5 (n : Nat) : List (Nat × FEnt) := [(13, ⟨s13, c1z n⟩), (16, ⟨s16, a2j n⟩), (17, ⟨s17, c6o n⟩), (18, ⟨s18, a3f n⟩), (19, ⟨s19, a2p n⟩), (20, ⟨s20, a8f n⟩), (21, ⟨c0z, a1g n⟩), (22, ⟨f0y, a2v n⟩), (23, ⟨s23, a6d n⟩), (24, ⟨c1w, a1c n⟩), (25, ⟨e9z, a3n n⟩)]
def c5 (n : Nat) : Ctx := ⟨264, find? tys, find? (ft5 n), gls, [], [], []⟩
theorem e5 (n x) : a0m (c5 n) h5 n Go.Proofs.Tryz.f5 s5 x = c3j n x := by kernel_rfl
end Go.Rb.R4
