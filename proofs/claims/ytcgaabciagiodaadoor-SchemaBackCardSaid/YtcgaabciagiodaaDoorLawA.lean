/- The functions that the law runs, as pure functions; that their code is computed so, and their contracts. Printed by a program of our own. -/
import Derived.Test.YtcgaabciagiodaaDoorRbE
import Derived.Test.YtcgaabciagiodaaDoorChecked
import Derived.KernelRfl
import Derived.Eval
import Derived.Laws.Externs
import Derived.LoopN
import Derived.RowKitTokens
import Derived.Shelf.Abstract
import Derived.Test.YtcgaabciagiodaaDoorRbG
import Derived.WalkKit
set_option linter.unusedVariables false
set_option linter.unusedSimpArgs false
namespace Go.Rb.S2
open Go.Rb
open Go.RowKit
abbrev tI : Ty := .int .i64
abbrev tB : Ty := .int .u8
abbrev tU : Ty := .int .u64
def tys : List (Nat × Ty) := [(2, tI), (3, tI), (4, .bool), (5, tB), (9, .str), (22, (.sl .imm 32 (.st (.pair tI (.pair .str (.pair tI .unit)))))), (24, (.st (.pair (.sl .imm 32 (.st (.pair tI (.pair .str (.pair tI .unit))))) (.pair tI .unit)))), (25, (.sl .imm 8 tI)), (27, (.st (.pair tI (.pair tI (.pair tI (.pair (.sl .imm 8 tI) .unit)))))), (29, (.st (.pair tI (.pair tI (.pair .str .unit))))), (31, (.st (.pair tI (.pair tI (.pair .str (.pair tI (.pair (.st (.pair tI (.pair tI (.pair .str .unit)))) (.pair tB (.pair tI .unit))))))))), (33, (.sl .imm 32 (.st (.pair tI (.pair tI (.pair .str .unit)))))), (34, (.sl .imm 1 tB)), (42, (.sl .imm 32 (.st (.pair (.sl .imm 32 (.st (.pair tI (.pair .str (.pair tI .unit))))) (.pair tI .unit))))), (43, (.sl .imm 48 (.st (.pair tI (.pair tI (.pair tI (.pair (.sl .imm 8 tI) .unit))))))), (44, (.sl .imm 88 (.st (.pair tI (.pair tI (.pair .str (.pair tI (.pair (.st (.pair tI (.pair tI (.pair .str .unit)))) (.pair tB (.pair tI .unit)))))))))), (45, tI), (59, (.st (.pair tI (.pair .str (.pair tI .unit))))), (61, (.sl .imm 24 (.sl .imm 88 (.st (.pair tI (.pair tI (.pair .str (.pair tI (.pair (.st (.pair tI (.pair tI (.pair .str .unit)))) (.pair tB (.pair tI .unit))))))))))), (63, (.sl .imm 8 tI)), (64, (.arr 100 .bool)), (66, (.st (.pair (.sl .imm 1 tB) (.pair tI .unit)))), (74, (.st (.pair (.st (.pair (.sl .imm 32 (.st (.pair tI (.pair .str (.pair tI .unit))))) (.pair tI .unit))) (.pair (.st (.pair tI (.pair tI (.pair tI (.pair (.sl .imm 8 tI) .unit))))) (.pair (.st (.pair tI (.pair tI (.pair .str (.pair tI (.pair (.st (.pair tI (.pair tI (.pair .str .unit)))) (.pair tB (.pair tI .unit)))))))) (.pair tI .unit)))))), (77, .err), (95, (.sl .imm 8 tI)), (96, (.sl .imm 16 .str)), (99, (.st (.pair .str (.pair .err .unit)))), (130, (.ptr (.st (.pair .str .unit)))), (156, (.st (.pair .str .unit)))]
def gls : Nat → Option ((t : Ty) × t.den) := find? [(0, ⟨.err, (UV.sent 0)⟩), (1, ⟨.err, (UV.sent 1)⟩), (2, ⟨.err, (UV.sent 2)⟩), (3, ⟨.err, (UV.sent 3)⟩), (4, ⟨.err, (UV.sent 4)⟩)]
noncomputable abbrev P : Program := Go.Proofs.Tryd.prog
set_option maxRecDepth 100000
theorem mixed : P.follows .mixedOrders = true := Go.Proofs.Tryd.checked.mixed
theorem tab {C : Ctx} (h : C.ty = find? tys) : TabOK P C := tab_ok (by kernel_rfl) h
def cH : Ctx := ⟨0, find? tys, fun _ => none, gls, [], [], []⟩
abbrev HA (A : Amb) : Prop := ∀ g T a, A.sent g = some (T, a) → T = 130
def s80 : Sig := ⟨[.val .str, .val (.fn (.int .i32) .bool), .val .bool], [.val tI]⟩
/-- strings.indexFunc -/
def F80 (_n : Nat) (x : List Int × (((Int) → Option (Bool))) × Bool × Unit) : Option ((Int × Unit) × (Unit)) := ifF x
theorem nt80 : Go.Proofs.Tryd.f80.ntmps = 21 := by kernel_rfl
theorem fn80 : P.funcs[80]? = some Go.Proofs.Tryd.f80 := by kernel_rfl
theorem call80 : Callable P 80 := callB_ok (by kernel_rfl)
set_option maxHeartbeats 4000000 in
set_option maxRecDepth 1000000 in
theorem idx80 (s : ByteArray) (g : FuncId) (first capt : Array Value) (G : Int → Option Bool) (truth : Bool) (w : World) (r : Int) (eg : ∀ args w, (callFunc g args).run P w = .ok (.enter g args) w)
    (hp : ∀ W R b, Below w.heap.size w W → 0 ≤ R → R ≤ 1114111 → G R = some b → Calls P g (first ++ #[.int .i32 R] ++ capt) W fun e w' => e = .returned (.bool b) ∧ Below W.heap.size W w')
    (hr : findR G truth s s.size 0 = some r) : Calls P 80 #[.string s, .func (.func g) first capt, .bool truth] w fun e w' => e = .returned (.int .i64 r) ∧ Below w.heap.size w w' := by
  go_enter fn80, nt80
  go_wp2
  go_loopg [] s.size (fun gf wx => ∃ pos : Nat, wx.heap[w.heap.size]? = some (.stringIter s pos) ∧ Below w.heap.size w wx ∧ findR G truth s gf pos = some r ∧ s.size ≤ pos + gf)
  case atStart => exact ⟨0, World.iter_heap w s 0, (Below.refl _ w).alloc (Nat.le_refl _) _, hr, by omega⟩
  case round =>
    obtain ⟨pos, hit, hbw, hleft, hfu⟩ := hrel
    by_cases hps : pos < s.size
    · obtain ⟨g', rfl⟩ : ∃ g', gk = g' + 1 := ⟨gk - 1, by omega⟩
      have hnx : ∀ ty, (Instr.next (.pointer (some ⟨w.heap.size, 0, none⟩)) true ty).run P wr = _ := fun ty => Lib.run_next_any_at wr w.heap.size s pos ty hit hps
      have hwd := Lib.width_pos s pos
      have hRle := Lib.rune_le s pos
      obtain ⟨R, hR⟩ : ∃ R, (Utf8.decode s pos).1 = R := ⟨_, rfl⟩
      obtain ⟨K, hK⟩ : ∃ K, (Utf8.decode s pos).2 = K := ⟨_, rfl⟩
      simp only [findR, hps, if_true, hR, hK] at hleft
      rw [hR] at hRle
      rw [hR, hK] at hnx
      rw [hK] at hwd
      have hit2 := Lib.iterAt_heap wr w.heap.size s pos (pos + K) hit
      have hbw2 := Lib.below_iterAt hbw (k := w.heap.size) (Nat.le_refl _) s (pos + K)
      obtain ⟨W, hWd⟩ : ∃ W, wr.iterAt w.heap.size s (pos + K) = W := ⟨_, rfl⟩
      rw [hWd] at hnx hit2 hbw2
      have hWs : w.heap.size < W.heap.size := (Array.getElem?_eq_some_iff.1 hit2).1
      cases hsp : G R with
      | none => rw [hsp] at hleft; cases hleft
      | some b =>
        have cS := hp W R b hbw2 (by omega) (by omega) hsp
        clear hp
        rw [hsp] at hleft
        dsimp only at hleft
        by_cases hb : b = truth
        · subst hb
          rw [if_pos rfl] at hleft
          obtain rfl := Option.some.inj hleft
          cases b
          all_goals
            go_wp2_with (go_at_fn g; refine cS.mono ?_; rintro e W' ⟨rfl, hq⟩)
            go_ret
            exact ⟨rfl, hbw2.trans (hq.mono (by omega))⟩
        · rw [if_neg hb] at hleft
          cases b <;> cases truth <;> first | exact absurd rfl hb | skip
          all_goals
            go_wp2_with (go_at_fn g; refine cS.mono ?_; rintro e W' ⟨rfl, hq⟩)
            go_roundg g'
            case measure => omega
            case rel => exact ⟨pos + K, (hq.block _ hWs).trans hit2, hbw2.trans (hq.mono (by omega)), hleft, by omega⟩
    · have hnx : ∀ ty, (Instr.next (.pointer (some ⟨w.heap.size, 0, none⟩)) true ty).run P wr = _ := fun ty => Lib.run_next_end_at wr w.heap.size s pos ty hit hps
      have : r = -1 := by
        cases gk with
        | zero => simp only [findR, Option.some.injEq] at hleft; exact hleft.symm
        | succ gk => simp only [findR, hps, if_false, Option.some.injEq] at hleft; exact hleft.symm
      subst this
      go_wp2
      go_ret
      exact ⟨rfl, hbw⟩
theorem S80 (A : Amb) (n : Nat) : Sound A P cH 80 s80 (F80 n) := indexFunc_sound idx80
def s72 : Sig := ⟨[.val .str, .val (.fn (.int .i32) .bool)], [.val tI]⟩
/-- strings.IndexFunc -/
def F72 (n : Nat) (x : List Int × (((Int) → Option (Bool))) × Unit) : Option ((Int × Unit) × (Unit)) :=
  ((F80 n (x.1, x.2.1, true, ())).bind fun (y1 : (Int × Unit) × (Unit)) => (some ((y1.1.1, ()), ())))
def h72 : Hints := ⟨[], []⟩
def ft72 (n : Nat) : List (Nat × FEnt) := [(80, ⟨s80, F80 n⟩)]
def c72 (n : Nat) : Ctx := ⟨8, find? tys, find? (ft72 n), gls, [], [], []⟩
theorem e72 (n x) : execFn (c72 n) h72 n Go.Proofs.Tryd.f72 s72 x = F72 n x := by kernel_rfl
theorem fn72 : P.funcs[72]? = some Go.Proofs.Tryd.f72 := by kernel_rfl
theorem call72 : Callable P 72 := callB_ok (by kernel_rfl)
theorem S72 (A : Amb) (n : Nat) : Sound A P (c72 n) 72 s72 (F72 n) :=
  execFn_sound mixed (tab rfl) (ft_all (C := c72 n) (l := ft72 n) rfl ⟨⟨call80, (S80 A n).of rfl⟩, trivial⟩) fn72 fun x y h => (e72 n x).trans h
def s57 : Sig := ⟨[.val .str, .val (.fn (.int .i32) .bool)], [.val .bool]⟩
/-- strings.ContainsFunc -/
def F57 (n : Nat) (x : List Int × (((Int) → Option (Bool))) × Unit) : Option ((Bool × Unit) × (Unit)) :=
  ((F72 n (x.1, x.2.1, ())).bind fun (y1 : (Int × Unit) × (Unit)) => (some (((decide ((0:Int) ≤ y1.1.1)), ()), ())))
def h57 : Hints := ⟨[], []⟩
def ft57 (n : Nat) : List (Nat × FEnt) := [(72, ⟨s72, F72 n⟩)]
def c57 (n : Nat) : Ctx := ⟨9, find? tys, find? (ft57 n), gls, [], [], []⟩
theorem e57 (n x) : execFn (c57 n) h57 n Go.Proofs.Tryd.f57 s57 x = F57 n x := by kernel_rfl
theorem fn57 : P.funcs[57]? = some Go.Proofs.Tryd.f57 := by kernel_rfl
theorem call57 : Callable P 57 := callB_ok (by kernel_rfl)
theorem S57 (A : Amb) (n : Nat) : Sound A P (c57 n) 57 s57 (F57 n) :=
  execFn_sound mixed (tab rfl) (ft_all (C := c57 n) (l := ft57 n) rfl ⟨⟨call72, (S72 A n).of rfl⟩, trivial⟩) fn57 fun x y h => (e57 n x).trans h
def s58 : Sig := ⟨[.val (.int .i32)], [.val .bool]⟩
/-- rabbet/schema.MayName$1 -/
def F58 (n : Nat) (x : Int × Unit) : Option ((Bool × Unit) × (Unit)) :=
  (if (decide (x.1 < (33:Int))) = true then (some ((true, ()), ())) else (some (((decide ((126:Int) < x.1)), ()), ())))
def h58 : Hints := ⟨[], []⟩
def ft58 (n : Nat) : List (Nat × FEnt) := []
def c58 (n : Nat) : Ctx := ⟨9, find? tys, find? (ft58 n), gls, [], [], []⟩
theorem e58 (n x) : execFn (c58 n) h58 n Go.Proofs.Tryd.f58 s58 x = F58 n x := by kernel_rfl
theorem fn58 : P.funcs[58]? = some Go.Proofs.Tryd.f58 := by kernel_rfl
theorem call58 : Callable P 58 := callB_ok (by kernel_rfl)
theorem S58 (A : Amb) (n : Nat) : Sound A P (c58 n) 58 s58 (F58 n) :=
  execFn_sound mixed (tab rfl) (ft_all (C := c58 n) (l := ft58 n) rfl trivial) fn58 fun x y h => (e58 n x).trans h
def s27 : Sig := ⟨[.val .str], [.val .bool]⟩
/-- rabbet/schema.MayName -/
def F27 (n : Nat) (x : List Int × Unit) : Option ((Bool × Unit) × (Unit)) :=
  (if (decide ((1:Int) ≤ (x.1.length : Int))) = true then (if (decide ((x.1.length : Int) ≤ (12:Int))) = true then ((F57 n (x.1, (fun c => (F58 n (c, ())).bind fun r => some r.1.1), ())).bind fun (y1 : (Bool × Unit) × (Unit)) => (some (((!y1.1.1), ()), ()))) else (some ((false, ()), ()))) else (some ((false, ()), ())))
def h27 : Hints := ⟨[], []⟩
def ft27 (n : Nat) : List (Nat × FEnt) := [(57, ⟨s57, F57 n⟩), (58, ⟨s58, F58 n⟩)]
def c27 (n : Nat) : Ctx := ⟨16, find? tys, find? (ft27 n), gls, [], [], []⟩
theorem e27 (n x) : execFn (c27 n) h27 n Go.Proofs.Tryd.f27 s27 x = F27 n x := by kernel_rfl
theorem fn27 : P.funcs[27]? = some Go.Proofs.Tryd.f27 := by kernel_rfl
theorem call27 : Callable P 27 := callB_ok (by kernel_rfl)
theorem S27 (A : Amb) (n : Nat) : Sound A P (c27 n) 27 s27 (F27 n) :=
  execFn_sound mixed (tab rfl) (ft_all (C := c27 n) (l := ft27 n) rfl ⟨⟨call57, (S57 A n).of rfl⟩, ⟨call58, (S58 A n).of rfl⟩, trivial⟩) fn27 fun x y h => (e27 n x).trans h
def s42 : Sig := ⟨[.val tI], [.val .bool]⟩
/-- rabbet/schema.kind -/
def F42 (n : Nat) (x : Int × Unit) : Option ((Bool × Unit) × (Unit)) :=
  (if (decide ((1:Int) ≤ x.1)) = true then (some (((decide (x.1 ≤ (4:Int))), ()), ())) else (some ((false, ()), ())))
def h42 : Hints := ⟨[], []⟩
def ft42 (n : Nat) : List (Nat × FEnt) := []
def c42 (n : Nat) : Ctx := ⟨9, find? tys, find? (ft42 n), gls, [], [], []⟩
theorem e42 (n x) : execFn (c42 n) h42 n Go.Proofs.Tryd.f42 s42 x = F42 n x := by kernel_rfl
theorem fn42 : P.funcs[42]? = some Go.Proofs.Tryd.f42 := by kernel_rfl
theorem call42 : Callable P 42 := callB_ok (by kernel_rfl)
theorem S42 (A : Amb) (n : Nat) : Sound A P (c42 n) 42 s42 (F42 n) :=
  execFn_sound mixed (tab rfl) (ft_all (C := c42 n) (l := ft42 n) rfl trivial) fn42 fun x y h => (e42 n x).trans h
def s50 : Sig := ⟨[.val (.sl .imm 32 (.st (.pair tI (.pair .str (.pair tI .unit))))), .val (.fn (.st (.pair tI (.pair .str (.pair tI .unit)))) .bool)], [.val tI]⟩
/-- slices.IndexFunc[[]rabbet/api.Column,rabbet/api.Column] -/
def F50 (n : Nat) (x : (List (Int × List Int × Int × Unit)) × (((Int × List Int × Int × Unit) → Option (Bool))) × Unit) : Option ((Int × Unit) × (Unit)) :=
  (iterF (fun rec2 (s1 : Int) => (if (decide (s1 < (x.1.length : Int))) = true then (atI s1 x.1.length ((x.2.1 (x.1.getD s1.toNat ((0:Int), [], (0:Int), ()))).bind fun y3 => (if y3 = true then (some ((s1, ()), ())) else (rec2 (IntKind.i64.wrap (s1 + (1:Int))))))) else (some (((-1:Int), ()), ())))) n (0:Int))
def h50 : Hints := ⟨[(0, ⟨[(8, .val tI)], [0, 1, 7], []⟩)], []⟩
def ft50 (n : Nat) : List (Nat × FEnt) := []
def c50 (n : Nat) : Ctx := ⟨19, find? tys, find? (ft50 n), gls, [], [], []⟩
theorem e50 (n x) : execFn (c50 n) h50 n Go.Proofs.Tryd.f50 s50 x = F50 n x := by kernel_rfl
theorem fn50 : P.funcs[50]? = some Go.Proofs.Tryd.f50 := by kernel_rfl
theorem call50 : Callable P 50 := callB_ok (by kernel_rfl)
theorem S50 (A : Amb) (n : Nat) : Sound A P (c50 n) 50 s50 (F50 n) :=
  execFn_sound mixed (tab rfl) (ft_all (C := c50 n) (l := ft50 n) rfl trivial) fn50 fun x y h => (e50 n x).trans h
def s43 : Sig := ⟨[.val (.sl .imm 32 (.st (.pair tI (.pair .str (.pair tI .unit))))), .val (.fn (.st (.pair tI (.pair .str (.pair tI .unit)))) .bool)], [.val .bool]⟩
/-- slices.ContainsFunc[[]rabbet/api.Column,rabbet/api.Column] -/
def F43 (n : Nat) (x : (List (Int × List Int × Int × Unit)) × (((Int × List Int × Int × Unit) → Option (Bool))) × Unit) : Option ((Bool × Unit) × (Unit)) :=
  ((F50 n (x.1, x.2.1, ())).bind fun (y1 : (Int × Unit) × (Unit)) => (some (((decide ((0:Int) ≤ y1.1.1)), ()), ())))
def h43 : Hints := ⟨[], []⟩
def ft43 (n : Nat) : List (Nat × FEnt) := [(50, ⟨s50, F50 n⟩)]
def c43 (n : Nat) : Ctx := ⟨9, find? tys, find? (ft43 n), gls, [], [], []⟩
theorem e43 (n x) : execFn (c43 n) h43 n Go.Proofs.Tryd.f43 s43 x = F43 n x := by kernel_rfl
theorem fn43 : P.funcs[43]? = some Go.Proofs.Tryd.f43 := by kernel_rfl
theorem call43 : Callable P 43 := callB_ok (by kernel_rfl)
theorem S43 (A : Amb) (n : Nat) : Sound A P (c43 n) 43 s43 (F43 n) :=
  execFn_sound mixed (tab rfl) (ft_all (C := c43 n) (l := ft43 n) rfl ⟨⟨call50, (S50 A n).of rfl⟩, trivial⟩) fn43 fun x y h => (e43 n x).trans h
def s44 : Sig := ⟨[.val (.st (.pair tI (.pair .str (.pair tI .unit)))), .val (.ptr (.st (.pair tI (.pair .str (.pair tI .unit)))))], [.val .bool]⟩
/-- rabbet/schema.May$1 -/
def F44 (n : Nat) (x : (Int × List Int × Int × Unit) × (Int × List Int × Int × Unit) × Unit) : Option ((Bool × Unit) × (Unit)) :=
  (if (decide (x.1.1 = x.2.1.1)) = true then (some ((true, ()), ())) else (some (((decide (x.1.2.1 = x.2.1.2.1)), ()), ())))
def h44 : Hints := ⟨[], []⟩
def ft44 (n : Nat) : List (Nat × FEnt) := []
def c44 (n : Nat) : Ctx := ⟨16, find? tys, find? (ft44 n), gls, [], [2], []⟩
theorem e44 (n x) : execFn (c44 n) h44 n Go.Proofs.Tryd.f44 s44 x = F44 n x := by kernel_rfl
theorem fn44 : P.funcs[44]? = some Go.Proofs.Tryd.f44 := by kernel_rfl
theorem call44 : Callable P 44 := callB_ok (by kernel_rfl)
theorem S44 (A : Amb) (n : Nat) : Sound A P (c44 n) 44 s44 (F44 n) :=
  execFn_sound mixed (tab rfl) (ft_all (C := c44 n) (l := ft44 n) rfl trivial) fn44 fun x y h => (e44 n x).trans h
def s17 : Sig := ⟨[.val (.st (.pair (.sl .imm 32 (.st (.pair tI (.pair .str (.pair tI .unit))))) (.pair tI .unit)))], [.val .bool]⟩
/-- rabbet/schema.May -/
def F17 (n : Nat) (x : (List (Int × List Int × Int × Unit) × Int × Unit) × Unit) : Option ((Bool × Unit) × (Unit)) :=
  (iterF (fun rec2 (s1 : Int) => (if (decide (s1 < (x.1.1.length : Int))) = true then (atI s1 x.1.1.length (if (decide ((x.1.1.getD s1.toNat ((0:Int), [], (0:Int), ())).1 < (1:Int))) = true then (some ((false, ()), ())) else (if (decide (x.1.2.1 < (x.1.1.getD s1.toNat ((0:Int), [], (0:Int), ())).1)) = true then (some ((false, ()), ())) else ((F27 n (((x.1.1.getD s1.toNat ((0:Int), [], (0:Int), ())).2).1, ())).bind fun (y3 : (Bool × Unit) × (Unit)) => (if (!y3.1.1) = true then (some ((false, ()), ())) else ((F42 n ((((x.1.1.getD s1.toNat ((0:Int), [], (0:Int), ())).2).2).1, ())).bind fun (y4 : (Bool × Unit) × (Unit)) => (if (!y4.1.1) = true then (some ((false, ()), ())) else (if 0 ≤ s1 ∧ s1 ≤ (x.1.1.length : Int) then ((F43 n (((x.1.1.take s1.toNat).drop (0:Int).toNat), (fun c => (F44 n (c, (x.1.1.getD s1.toNat ((0:Int), [], (0:Int), ())), ())).bind fun r => some r.1.1), ())).bind fun (y5 : (Bool × Unit) × (Unit)) => (if y5.1.1 = true then (some ((false, ()), ())) else (rec2 (IntKind.i64.wrap (s1 + (1:Int)))))) else none)))))))) else (if (decide ((1:Int) ≤ (x.1.1.length : Int))) = true then (if (decide ((x.1.1.length : Int) ≤ (6:Int))) = true then (some (((decide (x.1.2.1 ≤ (10000:Int))), ()), ())) else (some ((false, ()), ()))) else (some ((false, ()), ()))))) n (0:Int))
def h17 : Hints := ⟨[(0, ⟨[(8, .val tI)], [1, 6, 7], []⟩)], []⟩
def ft17 (n : Nat) : List (Nat × FEnt) := [(27, ⟨s27, F27 n⟩), (42, ⟨s42, F42 n⟩), (43, ⟨s43, F43 n⟩), (44, ⟨s44, F44 n⟩)]
def c17 (n : Nat) : Ctx := ⟨57, find? tys, find? (ft17 n), gls, [], [1], []⟩
theorem e17 (n x) : execFn (c17 n) h17 n Go.Proofs.Tryd.f17 s17 x = F17 n x := by kernel_rfl
theorem fn17 : P.funcs[17]? = some Go.Proofs.Tryd.f17 := by kernel_rfl
theorem call17 : Callable P 17 := callB_ok (by kernel_rfl)
theorem S17 (A : Amb) (n : Nat) : Sound A P (c17 n) 17 s17 (F17 n) :=
  execFn_sound mixed (tab rfl) (ft_all (C := c17 n) (l := ft17 n) rfl ⟨⟨call27, (S27 A n).of rfl⟩, ⟨call42, (S42 A n).of rfl⟩, ⟨call43, (S43 A n).of rfl⟩, ⟨call44, (S44 A n).of rfl⟩, trivial⟩) fn17 fun x y h => (e17 n x).trans h
def s52 : Sig := ⟨[.val (.st (.pair tI (.pair .str (.pair tI .unit)))), .val (.ptr tI)], [.val .bool]⟩
/-- rabbet/schema.ByID$1 -/
def F52 (n : Nat) (x : (Int × List Int × Int × Unit) × Int × Unit) : Option ((Bool × Unit) × (Unit)) :=
  (some (((decide (x.1.1 = x.2.1)), ()), ()))
def h52 : Hints := ⟨[], []⟩
def ft52 (n : Nat) : List (Nat × FEnt) := []
def c52 (n : Nat) : Ctx := ⟨8, find? tys, find? (ft52 n), gls, [], [2], []⟩
theorem e52 (n x) : execFn (c52 n) h52 n Go.Proofs.Tryd.f52 s52 x = F52 n x := by kernel_rfl
theorem fn52 : P.funcs[52]? = some Go.Proofs.Tryd.f52 := by kernel_rfl
theorem call52 : Callable P 52 := callB_ok (by kernel_rfl)
theorem S52 (A : Amb) (n : Nat) : Sound A P (c52 n) 52 s52 (F52 n) :=
  execFn_sound mixed (tab rfl) (ft_all (C := c52 n) (l := ft52 n) rfl trivial) fn52 fun x y h => (e52 n x).trans h
def s23 : Sig := ⟨[.val (.st (.pair (.sl .imm 32 (.st (.pair tI (.pair .str (.pair tI .unit))))) (.pair tI .unit))), .val tI], [.val tI, .val .bool]⟩
/-- rabbet/schema.ByID -/
def F23 (n : Nat) (x : (List (Int × List Int × Int × Unit) × Int × Unit) × Int × Unit) : Option ((Int × Bool × Unit) × (Unit)) :=
  ((F50 n (x.1.1, (fun c => (F52 n (c, x.2.1, ())).bind fun r => some r.1.1), ())).bind fun (y1 : (Int × Unit) × (Unit)) => (some (((if (0:Int) ≤ y1.1.1 then y1.1.1 else (0:Int)), (decide ((0:Int) ≤ y1.1.1)), ()), ())))
def h23 : Hints := ⟨[], []⟩
def ft23 (n : Nat) : List (Nat × FEnt) := [(50, ⟨s50, F50 n⟩), (52, ⟨s52, F52 n⟩)]
def c23 (n : Nat) : Ctx := ⟨15, find? tys, find? (ft23 n), gls, [], [2, 3], []⟩
theorem e23 (n x) : execFn (c23 n) h23 n Go.Proofs.Tryd.f23 s23 x = F23 n x := by kernel_rfl
theorem fn23 : P.funcs[23]? = some Go.Proofs.Tryd.f23 := by kernel_rfl
theorem call23 : Callable P 23 := callB_ok (by kernel_rfl)
theorem S23 (A : Amb) (n : Nat) : Sound A P (c23 n) 23 s23 (F23 n) :=
  execFn_sound mixed (tab rfl) (ft_all (C := c23 n) (l := ft23 n) rfl ⟨⟨call50, (S50 A n).of rfl⟩, ⟨call52, (S52 A n).of rfl⟩, trivial⟩) fn23 fun x y h => (e23 n x).trans h
def s46 : Sig := ⟨[.val (.st (.pair (.sl .imm 32 (.st (.pair tI (.pair .str (.pair tI .unit))))) (.pair tI .unit))), .val tI, .val .bool], [.val .bool]⟩
/-- rabbet/schema.is -/
def F46 (n : Nat) (x : (List (Int × List Int × Int × Unit) × Int × Unit) × Int × Bool × Unit) : Option ((Bool × Unit) × (Unit)) :=
  ((F23 n (x.1, x.2.1, ())).bind fun (y1 : (Int × Bool × Unit) × (Unit)) => (if y1.1.2.1 = true then (some ((true, ()), ())) else (if x.2.2.1 = true then (some (((decide (x.2.1 = (0:Int))), ()), ())) else (some ((false, ()), ())))))
def h46 : Hints := ⟨[], []⟩
def ft46 (n : Nat) : List (Nat × FEnt) := [(23, ⟨s23, F23 n⟩)]
def c46 (n : Nat) : Ctx := ⟨23, find? tys, find? (ft46 n), gls, [], [3], []⟩
theorem e46 (n x) : execFn (c46 n) h46 n Go.Proofs.Tryd.f46 s46 x = F46 n x := by kernel_rfl
theorem fn46 : P.funcs[46]? = some Go.Proofs.Tryd.f46 := by kernel_rfl
theorem call46 : Callable P 46 := callB_ok (by kernel_rfl)
theorem S46 (A : Amb) (n : Nat) : Sound A P (c46 n) 46 s46 (F46 n) :=
  execFn_sound mixed (tab rfl) (ft_all (C := c46 n) (l := ft46 n) rfl ⟨⟨call23, (S23 A n).of rfl⟩, trivial⟩) fn46 fun x y h => (e46 n x).trans h
def s68 : Sig := ⟨[.val (.sl .imm 8 tI), .val (.fn tI .bool)], [.val tI]⟩
/-- slices.IndexFunc[[]int,int] -/
def F68 (n : Nat) (x : List Int × (((Int) → Option (Bool))) × Unit) : Option ((Int × Unit) × (Unit)) :=
  (iterF (fun rec2 (s1 : Int) => (if (decide (s1 < (x.1.length : Int))) = true then (atI s1 x.1.length ((x.2.1 (x.1.getD s1.toNat (0:Int))).bind fun y3 => (if y3 = true then (some ((s1, ()), ())) else (rec2 (IntKind.i64.wrap (s1 + (1:Int))))))) else (some (((-1:Int), ()), ())))) n (0:Int))
def h68 : Hints := ⟨[(0, ⟨[(8, .val tI)], [0, 1, 7], []⟩)], []⟩
def ft68 (n : Nat) : List (Nat × FEnt) := []
def c68 (n : Nat) : Ctx := ⟨19, find? tys, find? (ft68 n), gls, [], [], []⟩
theorem e68 (n x) : execFn (c68 n) h68 n Go.Proofs.Tryd.f68 s68 x = F68 n x := by kernel_rfl
theorem fn68 : P.funcs[68]? = some Go.Proofs.Tryd.f68 := by kernel_rfl
theorem call68 : Callable P 68 := callB_ok (by kernel_rfl)
theorem S68 (A : Amb) (n : Nat) : Sound A P (c68 n) 68 s68 (F68 n) :=
  execFn_sound mixed (tab rfl) (ft_all (C := c68 n) (l := ft68 n) rfl trivial) fn68 fun x y h => (e68 n x).trans h
def s47 : Sig := ⟨[.val (.sl .imm 8 tI), .val (.fn tI .bool)], [.val .bool]⟩
/-- slices.ContainsFunc[[]int,int] -/
def F47 (n : Nat) (x : List Int × (((Int) → Option (Bool))) × Unit) : Option ((Bool × Unit) × (Unit)) :=
  ((F68 n (x.1, x.2.1, ())).bind fun (y1 : (Int × Unit) × (Unit)) => (some (((decide ((0:Int) ≤ y1.1.1)), ()), ())))
def h47 : Hints := ⟨[], []⟩
def ft47 (n : Nat) : List (Nat × FEnt) := [(68, ⟨s68, F68 n⟩)]
def c47 (n : Nat) : Ctx := ⟨9, find? tys, find? (ft47 n), gls, [], [], []⟩
theorem e47 (n x) : execFn (c47 n) h47 n Go.Proofs.Tryd.f47 s47 x = F47 n x := by kernel_rfl
theorem fn47 : P.funcs[47]? = some Go.Proofs.Tryd.f47 := by kernel_rfl
theorem call47 : Callable P 47 := callB_ok (by kernel_rfl)
theorem S47 (A : Amb) (n : Nat) : Sound A P (c47 n) 47 s47 (F47 n) :=
  execFn_sound mixed (tab rfl) (ft_all (C := c47 n) (l := ft47 n) rfl ⟨⟨call68, (S68 A n).of rfl⟩, trivial⟩) fn47 fun x y h => (e47 n x).trans h
def s49 : Sig := ⟨[.val tI], [.val .bool]⟩
/-- rabbet/schema.encoding -/
def F49 (n : Nat) (x : Int × Unit) : Option ((Bool × Unit) × (Unit)) :=
  (if (decide ((1:Int) ≤ x.1)) = true then (some (((decide (x.1 ≤ (5:Int))), ()), ())) else (some ((false, ()), ())))
def h49 : Hints := ⟨[], []⟩
def ft49 (n : Nat) : List (Nat × FEnt) := []
def c49 (n : Nat) : Ctx := ⟨9, find? tys, find? (ft49 n), gls, [], [], []⟩
theorem e49 (n x) : execFn (c49 n) h49 n Go.Proofs.Tryd.f49 s49 x = F49 n x := by kernel_rfl
theorem fn49 : P.funcs[49]? = some Go.Proofs.Tryd.f49 := by kernel_rfl
theorem call49 : Callable P 49 := callB_ok (by kernel_rfl)
theorem S49 (A : Amb) (n : Nat) : Sound A P (c49 n) 49 s49 (F49 n) :=
  execFn_sound mixed (tab rfl) (ft_all (C := c49 n) (l := ft49 n) rfl trivial) fn49 fun x y h => (e49 n x).trans h
def s48 : Sig := ⟨[.val tI], [.val .bool]⟩
/-- rabbet/schema.MayLayout$1 -/
def F48 (n : Nat) (x : Int × Unit) : Option ((Bool × Unit) × (Unit)) :=
  ((F49 n (x.1, ())).bind fun (y1 : (Bool × Unit) × (Unit)) => (some (((!y1.1.1), ()), ())))
def h48 : Hints := ⟨[], []⟩
def ft48 (n : Nat) : List (Nat × FEnt) := [(49, ⟨s49, F49 n⟩)]
def c48 (n : Nat) : Ctx := ⟨6, find? tys, find? (ft48 n), gls, [], [], []⟩
theorem e48 (n x) : execFn (c48 n) h48 n Go.Proofs.Tryd.f48 s48 x = F48 n x := by kernel_rfl
theorem fn48 : P.funcs[48]? = some Go.Proofs.Tryd.f48 := by kernel_rfl
theorem call48 : Callable P 48 := callB_ok (by kernel_rfl)
theorem S48 (A : Amb) (n : Nat) : Sound A P (c48 n) 48 s48 (F48 n) :=
  execFn_sound mixed (tab rfl) (ft_all (C := c48 n) (l := ft48 n) rfl ⟨⟨call49, (S49 A n).of rfl⟩, trivial⟩) fn48 fun x y h => (e48 n x).trans h
def s19 : Sig := ⟨[.val (.st (.pair (.sl .imm 32 (.st (.pair tI (.pair .str (.pair tI .unit))))) (.pair tI .unit))), .val (.st (.pair tI (.pair tI (.pair tI (.pair (.sl .imm 8 tI) .unit)))))], [.val .bool]⟩
/-- rabbet/schema.MayLayout -/
def F19 (n : Nat) (x : (List (Int × List Int × Int × Unit) × Int × Unit) × (Int × Int × Int × List Int × Unit) × Unit) : Option ((Bool × Unit) × (Unit)) :=
  ((F46 n (x.1, x.2.1.1, true, ())).bind fun (y1 : (Bool × Unit) × (Unit)) => (if y1.1.1 = true then (if (decide ((1:Int) ≤ x.2.1.2.2.1)) = true then (if (decide (x.2.1.2.2.1 ≤ (4:Int))) = true then ((F46 n (x.1, x.2.1.2.1, (decide (x.2.1.2.2.1 = (1:Int))), ())).bind fun (y2 : (Bool × Unit) × (Unit)) => (if y2.1.1 = true then (if (decide ((x.2.1.2.2.2.1.length : Int) = (x.1.1.length : Int))) = true then ((F47 n (x.2.1.2.2.2.1, (fun c => (F48 n (c, ())).bind fun r => some r.1.1), ())).bind fun (y3 : (Bool × Unit) × (Unit)) => (some (((!y3.1.1), ()), ()))) else (some ((false, ()), ()))) else (some ((false, ()), ())))) else (some ((false, ()), ()))) else (some ((false, ()), ()))) else (some ((false, ()), ()))))
def h19 : Hints := ⟨[], []⟩
def ft19 (n : Nat) : List (Nat × FEnt) := [(46, ⟨s46, F46 n⟩), (47, ⟨s47, F47 n⟩), (48, ⟨s48, F48 n⟩)]
def c19 (n : Nat) : Ctx := ⟨43, find? tys, find? (ft19 n), gls, [], [2, 3], []⟩
theorem e19 (n x) : execFn (c19 n) h19 n Go.Proofs.Tryd.f19 s19 x = F19 n x := by kernel_rfl
theorem fn19 : P.funcs[19]? = some Go.Proofs.Tryd.f19 := by kernel_rfl
theorem call19 : Callable P 19 := callB_ok (by kernel_rfl)
theorem S19 (A : Amb) (n : Nat) : Sound A P (c19 n) 19 s19 (F19 n) :=
  execFn_sound mixed (tab rfl) (ft_all (C := c19 n) (l := ft19 n) rfl ⟨⟨call46, (S46 A n).of rfl⟩, ⟨call47, (S47 A n).of rfl⟩, ⟨call48, (S48 A n).of rfl⟩, trivial⟩) fn19 fun x y h => (e19 n x).trans h
def s34 : Sig := ⟨[.val (.sl .imm 32 (.st (.pair tI (.pair .str (.pair tI .unit)))))], [.val (.sl .own 32 (.st (.pair tI (.pair .str (.pair tI .unit)))))]⟩
/-- slices.Clone[[]rabbet/api.Column,rabbet/api.Column] -/
def F34 (_n : Nat) (x : (List (Int × List Int × Int × Unit)) × Unit) : Option (((List (Int × List Int × Int × Unit)) × Unit) × (Unit)) := some ((x.1, ()), ())
theorem nt34 : Go.Proofs.Tryd.f34.ntmps = 8 := by kernel_rfl
theorem fn34 : P.funcs[34]? = some Go.Proofs.Tryd.f34 := by kernel_rfl
theorem call34 : Callable P 34 := callB_ok (by kernel_rfl)
theorem uT34 : P.underlying 22 = some (.slice 59) := by kernel_rfl
set_option maxHeartbeats 4000000 in
set_option maxRecDepth 1000000 in
theorem clone_nil34 (w : World) (n cap : Nat) : Calls P 34 #[.slice none n cap] w fun e w' => e = .returned (.slice none 0 0) ∧ w' = w := by
  go_enter fn34, nt34
  go_wp2
  rw [Lib.run_eql_slice_nil _ _ _ _ _ _ _ _ uT34]
  go_wp2
  go_ret
  exact ⟨rfl, rfl⟩
set_option maxHeartbeats 4000000 in
set_option maxRecDepth 1000000 in
theorem clone_some34 (w : World) (ad : Addr) (n cap : Nat) (v' : Value) (w' : World) (happ : (Builtin.append_ #[22, 22] 22 #[.slice (some ⟨w.heap.size, 0, none⟩) 0 0, .slice (some ad) n cap]).run P (w.alloc (.cells #[] 59)) = .ok v' w') :
    Calls P 34 #[.slice (some ad) n cap] w fun e w'' => e = .returned v' ∧ w'' = w' := by
  go_enter fn34, nt34
  go_upto_region 3 with fail
  rw [Lib.run_eql_slice_nil _ _ _ _ _ _ _ _ uT34]
  go_upto_region 3 with fail
  refine wp_region_lit ?_
  refine wl rfl (.slice (some ⟨w.heap.size, 0, none⟩) 0 0) (w1 := w.alloc (.cells #[] 59)) (by go_simp) ?_
  refine wl rfl (.slice (some ad) n cap) (w1 := w.alloc (.cells #[] 59)) rfl ?_
  refine wl_append rfl (.tmp 5) (.tmp 6) 22 22 rfl rfl rfl v' happ ?_
  refine wl rfl v' (w1 := w') rfl (wpList_nil ?_)
  go_wp2
  go_ret
  exact ⟨rfl, rfl⟩
theorem S34 (A : Amb) (n : Nat) : Sound A P cH 34 s34 (F34 n) :=
  clone_sound (T := 22) (tab rfl) rfl (z := (zeroCells (.st (.pair tI (.pair .str (.pair tI .unit))))).getD []) rfl clone_nil34 fun w w' el ad n cap v' h1 h2 => by
    rw [uT34] at h1
    cases h1
    exact clone_some34 w ad n cap v' w' h2
def s35 : Sig := ⟨[.val (.sl .imm 8 tI)], [.val (.sl .own 8 tI)]⟩
/-- slices.Clone[[]int,int] -/
def F35 (_n : Nat) (x : List Int × Unit) : Option ((List Int × Unit) × (Unit)) := some ((x.1, ()), ())
theorem nt35 : Go.Proofs.Tryd.f35.ntmps = 8 := by kernel_rfl
theorem fn35 : P.funcs[35]? = some Go.Proofs.Tryd.f35 := by kernel_rfl
theorem call35 : Callable P 35 := callB_ok (by kernel_rfl)
theorem uT35 : P.underlying 25 = some (.slice 3) := by kernel_rfl
set_option maxHeartbeats 4000000 in
set_option maxRecDepth 1000000 in
theorem clone_nil35 (w : World) (n cap : Nat) : Calls P 35 #[.slice none n cap] w fun e w' => e = .returned (.slice none 0 0) ∧ w' = w := by
  go_enter fn35, nt35
  go_wp2
  rw [Lib.run_eql_slice_nil _ _ _ _ _ _ _ _ uT35]
  go_wp2
  go_ret
  exact ⟨rfl, rfl⟩
set_option maxHeartbeats 4000000 in
set_option maxRecDepth 1000000 in
theorem clone_some35 (w : World) (ad : Addr) (n cap : Nat) (v' : Value) (w' : World) (happ : (Builtin.append_ #[25, 25] 25 #[.slice (some ⟨w.heap.size, 0, none⟩) 0 0, .slice (some ad) n cap]).run P (w.alloc (.cells #[] 3)) = .ok v' w') :
    Calls P 35 #[.slice (some ad) n cap] w fun e w'' => e = .returned v' ∧ w'' = w' := by
  go_enter fn35, nt35
  go_upto_region 3 with fail
  rw [Lib.run_eql_slice_nil _ _ _ _ _ _ _ _ uT35]
  go_upto_region 3 with fail
  refine wp_region_lit ?_
  refine wl rfl (.slice (some ⟨w.heap.size, 0, none⟩) 0 0) (w1 := w.alloc (.cells #[] 3)) (by go_simp) ?_
  refine wl rfl (.slice (some ad) n cap) (w1 := w.alloc (.cells #[] 3)) rfl ?_
  refine wl_append rfl (.tmp 5) (.tmp 6) 25 25 rfl rfl rfl v' happ ?_
  refine wl rfl v' (w1 := w') rfl (wpList_nil ?_)
  go_wp2
  go_ret
  exact ⟨rfl, rfl⟩
theorem S35 (A : Amb) (n : Nat) : Sound A P cH 35 s35 (F35 n) :=
  clone_sound (T := 25) (tab rfl) rfl (z := (zeroCells tI).getD []) rfl clone_nil35 fun w w' el ad n cap v' h1 h2 => by
    rw [uT35] at h1
    cases h1
    exact clone_some35 w ad n cap v' w' h2
def s59 : Sig := ⟨[.val .err, .val .err], [.val .bool]⟩
/-- errors.Is -/
def F59 (_n : Nat) (x : UV × UV × Unit) : Option ((Bool × Unit) × (Unit)) := isF 99 x
theorem nt59 : Go.Proofs.Tryd.f59.ntmps = 22 := by kernel_rfl
theorem fn59 : P.funcs[59]? = some Go.Proofs.Tryd.f59 := by kernel_rfl
theorem call59 : Callable P 59 := callB_ok (by kernel_rfl)
theorem fn74 : P.funcs[74]? = some Go.Proofs.Tryd.f74 := by kernel_rfl
theorem nt74 : Go.Proofs.Tryd.f74.ntmps = 54 := by kernel_rfl
theorem fn73 : P.funcs[73]? = some Go.Proofs.Tryd.f73 := by kernel_rfl
theorem fn111 : P.funcs[111]? = some Go.Proofs.Tryd.f111 := by kernel_rfl
theorem fn107 : P.funcs[107]? = some Go.Proofs.Tryd.f107 := by kernel_rfl
theorem nt107 : Go.Proofs.Tryd.f107.ntmps = 5 := by kernel_rfl
theorem isTypeOf (v : Value) (w : World) : (Extern.ReflectliteType.typeOf #[.iface 130 v]).run P w = .ok (.iface 114 (.agg #[.pointer (some ⟨5, 130, none⟩)])) w := by kernel_rfl
def ext111 : Array Value → Sem Value := Extern.ReflectliteType.method fun t => do Extern.Rtype.noPackHeld "Comparable" t; pure (.bool (← typeInfo t).comparable)
theorem isComparable (w : World) : (ext111 #[.agg #[.pointer (some ⟨5, 130, none⟩)]]).run P w = .ok (.bool true) w := by kernel_rfl
theorem isMethodComparable (v : Value) (w : World) : (Go.method 268 114 v "Comparable").run P w = .ok (111, v) w := by kernel_rfl
theorem isComp : (P.info? 130).map (·.comparable) = some true := by kernel_rfl
theorem isSize : (P.info? 156).map (·.size) = some 1 := by kernel_rfl
theorem u130 : P.underlying 130 = some (.pointer 156) := by kernel_rfl
theorem i77 : ifaceB P 77 = true := by kernel_rfl
theorem nE1 : lacksB P 130 116 = true := by kernel_rfl
theorem nE2 : lacksB P 130 119 = true := by kernel_rfl
theorem nE3 : lacksB P 130 120 = true := by kernel_rfl
theorem nW1 : lacksB P 99 116 = true := by kernel_rfl
theorem hW2 : hasB P 99 119 = true := by kernel_rfl
theorem methodUnwrap (v : Value) (w : World) : (Go.method 268 99 v "Unwrap").run P w = .ok (107, v) w := by kernel_rfl

set_option maxHeartbeats 4000000 in
theorem is_nil (b : Addr) (w : World) : Calls P 59 #[.nilIface, .iface 130 (.pointer (some b))] w fun e w' => e = .returned (.bool false) ∧ w' = w := by
  obtain ⟨ms, h77⟩ := ifaceB_ok i77
  have hn := run_eql_iface_nil_left (P := P) w 130 (.pointer (some b)) h77
  go_enter fn59, nt59
  go_wp2
  go_ret
  exact ⟨rfl, rfl⟩
set_option maxHeartbeats 4000000 in
theorem in_same (a : Addr) (w : World) : Calls P 74 #[.iface 130 (.pointer (some a)), .iface 130 (.pointer (some a)), .bool true] w fun e w' => e = .returned (.bool true) ∧ w' = w := by
  obtain ⟨ms, h77⟩ := ifaceB_ok i77
  obtain ⟨i, hi, hcmp⟩ := Option.map_eq_some_iff.1 isComp
  obtain ⟨j, hj, hjs⟩ := Option.map_eq_some_iff.1 isSize
  have heq := run_eql_iface_ptr_same (P := P) w a h77 u130 hi hcmp hj
  go_enter fn74, nt74
  go_wp2
  refine wp_loop_rounds 1 ?_
  rw [rounds_succ]
  go_wp2
  go_ret
  exact ⟨rfl, rfl⟩
set_option maxHeartbeats 4000000 in
theorem in_other (a b : Addr) (ca cb : Array Value) (ta tb : TypeId) (w : World) (hne : a ≠ b) (ha : w.heap[a.block]? = some (.cells ca ta (0, 0))) (hb : w.heap[b.block]? = some (.cells cb tb (0, 0))) :
    Calls P 74 #[.iface 130 (.pointer (some a)), .iface 130 (.pointer (some b)), .bool true] w fun e w' => e = .returned (.bool false) ∧ w' = w := by
  obtain ⟨ms, h77⟩ := ifaceB_ok i77
  obtain ⟨i, hi, hcmp⟩ := Option.map_eq_some_iff.1 isComp
  obtain ⟨j, hj, hjs⟩ := Option.map_eq_some_iff.1 isSize
  have nE := assert_lacks nE1
  have uE := assert_lacks nE2
  have vE := assert_lacks nE3
  have heq := run_eql_iface_ptr_other (P := P) w h77 u130 hi hcmp hj (by rw [hjs]; decide) hne ha hb
  go_enter fn74, nt74
  go_wp2
  refine wp_loop_rounds 1 ?_
  rw [rounds_succ]
  go_wp2
  go_ret
  exact ⟨rfl, rfl⟩
set_option maxHeartbeats 4000000 in
theorem unw (s : ByteArray) (v : Value) (w : World) (hv : v.oneCell' = true) : Calls P 107 #[.agg #[.string s, v]] w fun e w' => e = .returned v ∧ Below w.heap.size w w' := by
  go_enter fn107, nt107
  go_wp2
  go_ret
  exact ⟨rfl, (Below.refl _ w).alloc (Nat.le_refl _) _⟩
set_option maxHeartbeats 4000000 in
theorem in_wsame (s : ByteArray) (b : Addr) (w : World) :
    Calls P 74 #[.iface 99 (.agg #[.string s, .iface 130 (.pointer (some b))]), .iface 130 (.pointer (some b)), .bool true] w fun e w' => e = .returned (.bool true) ∧ Below w.heap.size w w' := by
  obtain ⟨ms, h77⟩ := ifaceB_ok i77
  obtain ⟨i, hi, hcmp⟩ := Option.map_eq_some_iff.1 isComp
  obtain ⟨j, hj, hjs⟩ := Option.map_eq_some_iff.1 isSize
  have nE := assert_lacks nE1
  have uE := assert_lacks nE2
  have vE := assert_lacks nE3
  have nW := assert_lacks nW1
  have uW := assert_has hW2
  have mU := methodUnwrap
  have heq := fun w => run_eql_iface_ptr_same (P := P) w b h77 u130 hi hcmp hj
  have hty := run_eql_iface_types (P := P) 99 130 (.agg #[.string s, .iface 130 (.pointer (some b))]) (.pointer (some b)) h77 (by decide) w
  have hu := unw s (.iface 130 (.pointer (some b))) w rfl
  go_enter fn74, nt74
  go_wp2
  refine wp_loop_rounds 2 ?_
  rw [rounds_succ]
  go_wp2_with (go_at_call 107; refine hu.mono ?_; rintro e w' ⟨rfl, hb⟩)
  rw [rounds_succ]
  go_wp2
  go_ret
  exact ⟨rfl, by assumption⟩
theorem lt_of_cells {h : Array Obj} {k : Nat} {c : Array Value} {t : TypeId} {fr : Nat × Nat} (hh : h[k]? = some (.cells c t fr)) : k < h.size := by
  rcases Nat.lt_or_ge k h.size with h1 | h1
  · exact h1
  · rw [Array.getElem?_eq_none h1] at hh; cases hh

set_option maxHeartbeats 4000000 in
theorem in_wother (s : ByteArray) (a b : Addr) (ca cb : Array Value) (ta tb : TypeId) (w : World) (hne : a ≠ b) (hal : a.block < w.heap.size) (hbl : b.block < w.heap.size) (ha : w.heap[a.block]? = some (.cells ca ta (0, 0))) (hb : w.heap[b.block]? = some (.cells cb tb (0, 0))) :
    Calls P 74 #[.iface 99 (.agg #[.string s, .iface 130 (.pointer (some a))]), .iface 130 (.pointer (some b)), .bool true] w fun e w' => e = .returned (.bool false) ∧ Below w.heap.size w w' := by
  obtain ⟨ms, h77⟩ := ifaceB_ok i77
  obtain ⟨i, hi, hcmp⟩ := Option.map_eq_some_iff.1 isComp
  obtain ⟨j, hj, hjs⟩ := Option.map_eq_some_iff.1 isSize
  have nE := assert_lacks nE1
  have uE := assert_lacks nE2
  have vE := assert_lacks nE3
  have nW := assert_lacks nW1
  have uW := assert_has hW2
  have mU := methodUnwrap
  have heq : ∀ w' : World, Below w.heap.size w w' → (binOp .eql 77 (.iface 130 (.pointer (some a))) (.iface 130 (.pointer (some b)))).run P w' = .ok (.bool false) w' := fun w' hB => run_eql_iface_ptr_other (P := P) w' h77 u130 hi hcmp hj (by rw [hjs]; decide) hne ((hB.block _ hal).trans ha) ((hB.block _ hbl).trans hb)
  have hty := run_eql_iface_types (P := P) 99 130 (.agg #[.string s, .iface 130 (.pointer (some a))]) (.pointer (some b)) h77 (by decide) w
  have hu := unw s (.iface 130 (.pointer (some a))) w rfl
  go_enter fn74, nt74
  go_wp2
  refine wp_loop_rounds 2 ?_
  rw [rounds_succ]
  go_wp2_with (go_at_call 107; refine hu.mono ?_; rintro e w' ⟨rfl, hB⟩; have heq2 := heq w' hB)
  rw [rounds_succ]
  go_wp2
  go_ret
  exact ⟨rfl, by assumption⟩
set_option maxHeartbeats 4000000 in
theorem is_same (a : Addr) (w : World) :
    Calls P 59 #[.iface 130 (.pointer (some a)), .iface 130 (.pointer (some a))] w fun e w' => e = .returned (.bool true) ∧ w' = w := by
  obtain ⟨ms, h77⟩ := ifaceB_ok i77
  have h8 := @run_callFunc_extern P 73 _ Extern.ReflectliteType.typeOf fn73 (by kernel_rfl) (by kernel_rfl) (by kernel_rfl) (by kernel_rfl)
  have h32 := @run_callFunc_extern P 111 _ ext111 fn111 (by kernel_rfl) (by kernel_rfl) (by kernel_rfl) (by kernel_rfl)
  have tT := isTypeOf
  have cT := isComparable
  have mR := isMethodComparable
  go_enter fn59, nt59
  go_wp2_with (go_at_call 74; refine (in_same a w).mono ?_; rintro e w' ⟨rfl, hx⟩)
  go_ret
  first | exact ⟨rfl, hx⟩ | exact ⟨rfl, rfl⟩
set_option maxHeartbeats 4000000 in
theorem is_other (a b : Addr) (ca cb : Array Value) (ta tb : TypeId) (w : World) (hne : a ≠ b) (ha : w.heap[a.block]? = some (.cells ca ta (0, 0))) (hb : w.heap[b.block]? = some (.cells cb tb (0, 0))) :
    Calls P 59 #[.iface 130 (.pointer (some a)), .iface 130 (.pointer (some b))] w fun e w' => e = .returned (.bool false) ∧ w' = w := by
  obtain ⟨ms, h77⟩ := ifaceB_ok i77
  have h8 := @run_callFunc_extern P 73 _ Extern.ReflectliteType.typeOf fn73 (by kernel_rfl) (by kernel_rfl) (by kernel_rfl) (by kernel_rfl)
  have h32 := @run_callFunc_extern P 111 _ ext111 fn111 (by kernel_rfl) (by kernel_rfl) (by kernel_rfl) (by kernel_rfl)
  have tT := isTypeOf
  have cT := isComparable
  have mR := isMethodComparable
  go_enter fn59, nt59
  go_wp2_with (go_at_call 74; refine (in_other a b ca cb ta tb w hne ha hb).mono ?_; rintro e w' ⟨rfl, hx⟩)
  go_ret
  first | exact ⟨rfl, hx⟩ | exact ⟨rfl, rfl⟩
set_option maxHeartbeats 4000000 in
theorem is_wsame (s : ByteArray) (b : Addr) (w : World) (_ : ∃ ca ta, w.heap[b.block]? = some (.cells ca ta (0, 0))) :
    Calls P 59 #[.iface 99 (.agg #[.string s, .iface 130 (.pointer (some b))]), .iface 130 (.pointer (some b))] w fun e w' => e = .returned (.bool true) ∧ Below w.heap.size w w' := by
  obtain ⟨ms, h77⟩ := ifaceB_ok i77
  have h8 := @run_callFunc_extern P 73 _ Extern.ReflectliteType.typeOf fn73 (by kernel_rfl) (by kernel_rfl) (by kernel_rfl) (by kernel_rfl)
  have h32 := @run_callFunc_extern P 111 _ ext111 fn111 (by kernel_rfl) (by kernel_rfl) (by kernel_rfl) (by kernel_rfl)
  have tT := isTypeOf
  have cT := isComparable
  have mR := isMethodComparable
  go_enter fn59, nt59
  go_wp2_with (go_at_call 74; refine (in_wsame s b w).mono ?_; rintro e w' ⟨rfl, hx⟩)
  go_ret
  first | exact ⟨rfl, hx⟩ | exact ⟨rfl, rfl⟩
set_option maxHeartbeats 4000000 in
theorem is_wother (s : ByteArray) (a b : Addr) (ca cb : Array Value) (ta tb : TypeId) (w : World) (hne : a ≠ b) (ha : w.heap[a.block]? = some (.cells ca ta (0, 0))) (hb : w.heap[b.block]? = some (.cells cb tb (0, 0))) :
    Calls P 59 #[.iface 99 (.agg #[.string s, .iface 130 (.pointer (some a))]), .iface 130 (.pointer (some b))] w fun e w' => e = .returned (.bool false) ∧ Below w.heap.size w w' := by
  obtain ⟨ms, h77⟩ := ifaceB_ok i77
  have h8 := @run_callFunc_extern P 73 _ Extern.ReflectliteType.typeOf fn73 (by kernel_rfl) (by kernel_rfl) (by kernel_rfl) (by kernel_rfl)
  have h32 := @run_callFunc_extern P 111 _ ext111 fn111 (by kernel_rfl) (by kernel_rfl) (by kernel_rfl) (by kernel_rfl)
  have tT := isTypeOf
  have cT := isComparable
  have mR := isMethodComparable
  go_enter fn59, nt59
  go_wp2_with (go_at_call 74; refine (in_wother s a b ca cb ta tb w hne (lt_of_cells ha) (lt_of_cells hb) ha hb).mono ?_; rintro e w' ⟨rfl, hx⟩)
  go_ret
  first | exact ⟨rfl, hx⟩ | exact ⟨rfl, rfl⟩
theorem S59 (A : Amb) (hA : HA A) (n : Nat) : Sound A P cH 59 s59 (F59 n) :=
  is_sound hA is_nil is_same is_other is_wsame is_wother
def s36 : Sig := ⟨[.val .err], [.val tI]⟩
/-- rabbet/schema.code -/
def F36 (n : Nat) (x : UV × Unit) : Option ((Int × Unit) × (Unit)) :=
  (if (decide (x.1 = UV.nil)) = true then (some (((0:Int), ()), ())) else ((F59 n (x.1, (UV.sent 0), ())).bind fun (y1 : (Bool × Unit) × (Unit)) => (if y1.1.1 = true then (some (((3:Int), ()), ())) else ((F59 n (x.1, (UV.sent 1), ())).bind fun (y2 : (Bool × Unit) × (Unit)) => (if y2.1.1 = true then (some (((4:Int), ()), ())) else ((F59 n (x.1, (UV.sent 2), ())).bind fun (y3 : (Bool × Unit) × (Unit)) => (if y3.1.1 = true then (some (((9:Int), ()), ())) else ((F59 n (x.1, (UV.sent 3), ())).bind fun (y4 : (Bool × Unit) × (Unit)) => (if y4.1.1 = true then (some (((6:Int), ()), ())) else (some (((1:Int), ()), ())))))))))))
def h36 : Hints := ⟨[], []⟩
def ft36 (n : Nat) : List (Nat × FEnt) := [(59, ⟨s59, F59 n⟩)]
def c36 (n : Nat) : Ctx := ⟨22, find? tys, find? (ft36 n), gls, [], [], []⟩
theorem e36 (n x) : execFn (c36 n) h36 n Go.Proofs.Tryd.f36 s36 x = F36 n x := by kernel_rfl
theorem fn36 : P.funcs[36]? = some Go.Proofs.Tryd.f36 := by kernel_rfl
theorem call36 : Callable P 36 := callB_ok (by kernel_rfl)
theorem S36 (A : Amb) (hA : HA A) (n : Nat) : Sound A P (c36 n) 36 s36 (F36 n) :=
  execFn_sound mixed (tab rfl) (ft_all (C := c36 n) (l := ft36 n) rfl ⟨⟨call59, (S59 A hA n).of rfl⟩, trivial⟩) fn36 fun x y h => (e36 n x).trans h
def s69 : Sig := ⟨[.val (.st (.pair tI (.pair tI (.pair .str .unit))))], [.val .bool]⟩
/-- rabbet/value.May -/
def F69 (n : Nat) (x : (Int × Int × List Int × Unit) × Unit) : Option ((Bool × Unit) × (Unit)) :=
  (if (decide (x.1.1 = (1:Int))) = true then (if (decide (x.1.2.1 < (-32768:Int))) = true then (some ((false, ()), ())) else (if (decide ((32767:Int) < x.1.2.1)) = true then (some ((false, ()), ())) else (some (((decide (x.1.2.2.1 = [])), ()), ())))) else (if (decide (x.1.1 = (2:Int))) = true then (some (((decide (x.1.2.2.1 = [])), ()), ())) else (if (decide (x.1.1 = (0:Int))) = true then (if (decide (x.1.2.1 = (0:Int))) = true then (some (((decide (x.1.2.2.1 = [])), ()), ())) else (some ((false, ()), ()))) else (if (decide (x.1.1 = (3:Int))) = true then (if (decide (x.1.2.1 = (0:Int))) = true then (some (((decide (x.1.2.2.1 = [])), ()), ())) else (if (decide (x.1.2.1 = (1:Int))) = true then (some (((decide (x.1.2.2.1 = [])), ()), ())) else (some ((false, ()), ())))) else (if (decide (x.1.1 = (4:Int))) = true then (if (decide (x.1.2.1 = (0:Int))) = true then (some (((decide ((x.1.2.2.1.length : Int) ≤ (20:Int))), ()), ())) else (some ((false, ()), ()))) else (some ((false, ()), ())))))))
def h69 : Hints := ⟨[], []⟩
def ft69 (n : Nat) : List (Nat × FEnt) := []
def c69 (n : Nat) : Ctx := ⟨56, find? tys, find? (ft69 n), gls, [], [1], []⟩
theorem e69 (n x) : execFn (c69 n) h69 n Go.Proofs.Tryd.f69 s69 x = F69 n x := by kernel_rfl
theorem fn69 : P.funcs[69]? = some Go.Proofs.Tryd.f69 := by kernel_rfl
theorem call69 : Callable P 69 := callB_ok (by kernel_rfl)
theorem S69 (A : Amb) (n : Nat) : Sound A P (c69 n) 69 s69 (F69 n) :=
  execFn_sound mixed (tab rfl) (ft_all (C := c69 n) (l := ft69 n) rfl trivial) fn69 fun x y h => (e69 n x).trans h
def s55 : Sig := ⟨[.val tI, .val (.st (.pair tI (.pair tI (.pair .str .unit))))], [.val .bool]⟩
/-- rabbet/value.Fits -/
def F55 (n : Nat) (x : Int × (Int × Int × List Int × Unit) × Unit) : Option ((Bool × Unit) × (Unit)) :=
  ((F69 n (x.2.1, ())).bind fun (y1 : (Bool × Unit) × (Unit)) => (if y1.1.1 = true then (if (decide ((1:Int) ≤ x.1)) = true then (if (decide (x.1 ≤ (4:Int))) = true then (if (decide (x.2.1.1 = (0:Int))) = true then (some ((true, ()), ())) else (some (((decide (x.2.1.1 = x.1)), ()), ()))) else (some ((false, ()), ()))) else (some ((false, ()), ()))) else (some ((false, ()), ()))))
def h55 : Hints := ⟨[], []⟩
def ft55 (n : Nat) : List (Nat × FEnt) := [(69, ⟨s69, F69 n⟩)]
def c55 (n : Nat) : Ctx := ⟨26, find? tys, find? (ft55 n), gls, [], [3], []⟩
theorem e55 (n x) : execFn (c55 n) h55 n Go.Proofs.Tryd.f55 s55 x = F55 n x := by kernel_rfl
theorem fn55 : P.funcs[55]? = some Go.Proofs.Tryd.f55 := by kernel_rfl
theorem call55 : Callable P 55 := callB_ok (by kernel_rfl)
theorem S55 (A : Amb) (n : Nat) : Sound A P (c55 n) 55 s55 (F55 n) :=
  execFn_sound mixed (tab rfl) (ft_all (C := c55 n) (l := ft55 n) rfl ⟨⟨call69, (S69 A n).of rfl⟩, trivial⟩) fn55 fun x y h => (e55 n x).trans h
def s51 : Sig := ⟨[.val (.st (.pair tI (.pair .str (.pair tI .unit)))), .val (.ptr .str)], [.val .bool]⟩
/-- rabbet/schema.Find$1 -/
def F51 (n : Nat) (x : (Int × List Int × Int × Unit) × List Int × Unit) : Option ((Bool × Unit) × (Unit)) :=
  (some (((decide (x.1.2.1 = x.2.1)), ()), ()))
def h51 : Hints := ⟨[], []⟩
def ft51 (n : Nat) : List (Nat × FEnt) := []
def c51 (n : Nat) : Ctx := ⟨8, find? tys, find? (ft51 n), gls, [], [2], []⟩
theorem e51 (n x) : execFn (c51 n) h51 n Go.Proofs.Tryd.f51 s51 x = F51 n x := by kernel_rfl
theorem fn51 : P.funcs[51]? = some Go.Proofs.Tryd.f51 := by kernel_rfl
theorem call51 : Callable P 51 := callB_ok (by kernel_rfl)
theorem S51 (A : Amb) (n : Nat) : Sound A P (c51 n) 51 s51 (F51 n) :=
  execFn_sound mixed (tab rfl) (ft_all (C := c51 n) (l := ft51 n) rfl trivial) fn51 fun x y h => (e51 n x).trans h
def s21 : Sig := ⟨[.val (.st (.pair (.sl .imm 32 (.st (.pair tI (.pair .str (.pair tI .unit))))) (.pair tI .unit))), .val .str], [.val tI, .val .bool]⟩
/-- rabbet/schema.Find -/
def F21 (n : Nat) (x : (List (Int × List Int × Int × Unit) × Int × Unit) × List Int × Unit) : Option ((Int × Bool × Unit) × (Unit)) :=
  ((F50 n (x.1.1, (fun c => (F51 n (c, x.2.1, ())).bind fun r => some r.1.1), ())).bind fun (y1 : (Int × Unit) × (Unit)) => (some (((if (0:Int) ≤ y1.1.1 then y1.1.1 else (0:Int)), (decide ((0:Int) ≤ y1.1.1)), ()), ())))
def h21 : Hints := ⟨[], []⟩
def ft21 (n : Nat) : List (Nat × FEnt) := [(50, ⟨s50, F50 n⟩), (51, ⟨s51, F51 n⟩)]
def c21 (n : Nat) : Ctx := ⟨15, find? tys, find? (ft21 n), gls, [], [2, 3], []⟩
theorem e21 (n x) : execFn (c21 n) h21 n Go.Proofs.Tryd.f21 s21 x = F21 n x := by kernel_rfl
theorem fn21 : P.funcs[21]? = some Go.Proofs.Tryd.f21 := by kernel_rfl
theorem call21 : Callable P 21 := callB_ok (by kernel_rfl)
theorem S21 (A : Amb) (n : Nat) : Sound A P (c21 n) 21 s21 (F21 n) :=
  execFn_sound mixed (tab rfl) (ft_all (C := c21 n) (l := ft21 n) rfl ⟨⟨call50, (S50 A n).of rfl⟩, ⟨call51, (S51 A n).of rfl⟩, trivial⟩) fn21 fun x y h => (e21 n x).trans h
def s75 : Sig := ⟨[.io (.st (.pair (.st (.pair (.sl .own 32 (.st (.pair tI (.pair .str (.pair tI .unit))))) (.pair tI .unit))) (.pair (.st (.pair tI (.pair tI (.pair tI (.pair (.sl .own 8 tI) .unit))))) (.pair (.st (.pair tI (.pair tI (.pair .str (.pair tI (.pair (.st (.pair tI (.pair tI (.pair .str .unit)))) (.pair tB (.pair tI .unit)))))))) (.pair tI .unit))))), .val tI], [.val .err]⟩
/-- (*rabbet/schema.work).name -/
def F75 (n : Nat) (x : ((List (Int × List Int × Int × Unit) × Int × Unit) × (Int × Int × Int × List Int × Unit) × (Int × Int × List Int × Int × (Int × Int × List Int × Unit) × Int × Int × Unit) × Int × Unit) × Int × Unit) : Option ((UV × Unit) × (((List (Int × List Int × Int × Unit) × Int × Unit) × (Int × Int × Int × List Int × Unit) × (Int × Int × List Int × Int × (Int × Int × List Int × Unit) × Int × Int × Unit) × Int × Unit) × Unit)) :=
  ((F27 n (x.1.2.2.1.2.2.1, ())).bind fun (y1 : (Bool × Unit) × (Unit)) => (if (!y1.1.1) = true then (some (((UV.node 99 (.pair (.str [116, 104, 101, 32, 110, 97, 109, 101]) (.pair (UV.sent 4) .unit))), ()), (x.1, ()))) else ((F21 n (x.1.1, x.1.2.2.1.2.2.1, ())).bind fun (y2 : (Int × Bool × Unit) × (Unit)) => (if y2.1.2.1 = true then (if (!decide (y2.1.1 = x.2.1)) = true then (some (((UV.node 99 (.pair (.str [116, 104, 101, 32, 110, 97, 109, 101]) (.pair (UV.sent 2) .unit))), ()), (x.1, ()))) else (some ((UV.nil, ()), (x.1, ())))) else (some ((UV.nil, ()), (x.1, ())))))))
def h75 : Hints := ⟨[], []⟩
def ft75 (n : Nat) : List (Nat × FEnt) := [(21, ⟨s21, F21 n⟩), (27, ⟨s27, F27 n⟩)]
def c75 (n : Nat) : Ctx := ⟨39, find? tys, find? (ft75 n), gls, [], [], []⟩
theorem e75 (n x) : execFn (c75 n) h75 n Go.Proofs.Tryd.f75 s75 x = F75 n x := by kernel_rfl
theorem fn75 : P.funcs[75]? = some Go.Proofs.Tryd.f75 := by kernel_rfl
theorem call75 : Callable P 75 := callB_ok (by kernel_rfl)
theorem S75 (A : Amb) (n : Nat) : Sound A P (c75 n) 75 s75 (F75 n) :=
  execFn_sound mixed (tab rfl) (ft_all (C := c75 n) (l := ft75 n) rfl ⟨⟨call21, (S21 A n).of rfl⟩, ⟨call27, (S27 A n).of rfl⟩, trivial⟩) fn75 fun x y h => (e75 n x).trans h
def s81 : Sig := ⟨[.val (.sl .own 32 (.st (.pair tI (.pair .str (.pair tI .unit))))), .val tI, .val (.sl .imm 32 (.st (.pair tI (.pair .str (.pair tI .unit)))))], [.val (.sl .own 32 (.st (.pair tI (.pair .str (.pair tI .unit)))))]⟩
/-- slices.Insert[[]rabbet/api.Column,rabbet/api.Column] -/
def F81 (_n : Nat) (x : (List (Int × List Int × Int × Unit)) × Int × (List (Int × List Int × Int × Unit)) × Unit) : Option (((List (Int × List Int × Int × Unit)) × Unit) × (Unit)) := insF 32 (.st (.pair tI (.pair .str (.pair tI .unit)))) x
theorem nt81 : Go.Proofs.Tryd.f81.ntmps = 95 := by kernel_rfl
theorem fn81 : P.funcs[81]? = some Go.Proofs.Tryd.f81 := by kernel_rfl
theorem call81 : Callable P 81 := callB_ok (by kernel_rfl)
theorem uT81 : P.underlying 22 = some (.slice 59) := by kernel_rfl
theorem inf81 : ∃ I, P.info? 59 = some I ∧ I.size = 3 := by
  obtain ⟨i, d, h1, _, h3, _⟩ := ((tab (C := cH) rfl) 59 _ rfl).ex
  exact ⟨i, h1, h3⟩
theorem fn83 : P.funcs[83]? = some Go.Proofs.Tryd.f83 := by kernel_rfl
theorem ov81 (x y : Value) (w w' : World) (b : Bool) (h : (Extern.SlicesOverlaps.overlaps #[22, 22] #[4] #[x, y]).run P w = .ok (.bool b) w') : (callFunc 83 #[x, y]).run P w = .ok (.value (.bool b)) w' := by
  rw [run_callFunc_extern fn83 (by kernel_rfl) (by kernel_rfl) (by kernel_rfl) (e := Extern.SlicesOverlaps.overlaps #[22, 22] #[4]) (by kernel_rfl), h]
  rfl
set_option maxHeartbeats 4000000 in
set_option maxRecDepth 1000000 in
theorem ins_none81 (w : World) (a a2 : Option Addr) (n cap cap2 i : Nat) (hin : i ≤ n) (hn : n ≤ cap) : Calls P 81 #[.slice a n cap, .int .i64 i, .slice a2 0 cap2] w fun e w' => e = .returned (.slice a n cap) ∧ w' = w := by
  go_enter fn81, nt81
  go_wp2
  all_goals (go_ret; exact ⟨rfl, rfl⟩)
set_option maxHeartbeats 4000000 in
set_option maxRecDepth 1000000 in
theorem ins_end81 (w W1 : World) (a a2 : Option Addr) (n cap cap2 m : Nat) (v' : Value) (hn : n ≤ cap) (hm : 0 < m) (happ : (Builtin.append_ #[22, 22] 22 #[.slice a n cap, .slice a2 m cap2]).run P w = .ok v' W1) :
    Calls P 81 #[.slice a n cap, .int .i64 n, .slice a2 m cap2] w fun e w' => e = .returned v' ∧ w' = W1 := by
  have hm0 : ¬ (m = 0) := by omega
  go_enter fn81, nt81
  go_upto_region 7 with fail
  refine wp_region_lit ?_
  refine wl rfl (.slice a n cap) (w1 := w) rfl ?_
  refine wl rfl (.slice a2 m cap2) (w1 := w) rfl ?_
  refine wl_append rfl (.tmp 23) (.tmp 24) 22 22 rfl (by simp [Act.eval, Act.put]) (by simp [Act.eval, Act.put]) _ happ ?_
  refine wl rfl v' (w1 := W1) rfl (wpList_nil ?_)
  go_wp2
  all_goals (go_ret; exact ⟨rfl, rfl⟩)
set_option maxHeartbeats 4000000 in
set_option maxRecDepth 1000000 in
theorem ins_grow81 (I : TypeInfo) (hI : P.info? 59 = some I) (hIs : I.size = 3) (w W1 W2 W3 : World) (b b1 n cap cap1 cap2 i m : Nat) (a2 : Option Addr) (v2 v3 : Value) (hin : i < n) (hn : n ≤ cap) (hm : 0 < m) (hcap : cap < n + m) (hr : n + m ≤ 140737488355328) (hc1 : n + m ≤ cap1)
    (h1 : (Builtin.append_ #[22, 3] 22 #[.slice (some ⟨b, 0, none⟩) i cap, .int .i64 ((n + m - i : Nat) : Int)]).run P w = .ok (.slice (some ⟨b1, 0, none⟩) (n + m) cap1) W1)
    (h2 : (Builtin.copy_ #[22, 22] 3 #[.slice (some ⟨b1, i * 3, none⟩) (n + m - i) (cap1 - i), .slice a2 m cap2]).run P W1 = .ok v2 W2)
    (h3 : (Builtin.copy_ #[22, 22] 3 #[.slice (some ⟨b1, (i + m) * 3, none⟩) (n + m - (i + m)) (cap1 - (i + m)), .slice (some ⟨b, i * 3, none⟩) (n - i) (cap - i)]).run P W2.drew = .ok v3 W3) :
    Calls P 81 #[.slice (some ⟨b, 0, none⟩) n cap, .int .i64 i, .slice a2 m cap2] w fun e w' => e = .returned (.slice (some ⟨b1, 0, none⟩) (n + m) cap1) ∧ w' = W3 := by
  have hm0 : ¬ (m = 0) := by omega
  have hin0 : ¬ (i = n) := by omega
  have hic : i ≤ cap := by omega
  go_enter fn81, nt81
  go_upto_region 9 with fail
  · refine wp_region_lit ?_
    refine wl rfl (.slice (some ⟨b, 0, none⟩) n cap) (w1 := w) (by kernel_rfl) ?_
    refine wl rfl (.int .i64 i) (w1 := w) (by kernel_rfl) ?_
    refine wl_slice uT81 hI rfl (.tmp 32) none (some (.tmp 33)) rfl (b := b) (off := 0) (n := n) (cap := cap) (l := 0) (h := i) (by kernel_rfl) (.inl ⟨rfl, rfl⟩) (.inr (by kernel_rfl)) (Nat.zero_le _) hic (.inr rfl) (off' := 0) (n' := i) ⟨by simp, rfl⟩ ?_
    refine wl rfl (.int .i64 n) (w1 := w) (by kernel_rfl) ?_
    refine wl rfl (.int .i64 m) (w1 := w) (by kernel_rfl) ?_
    refine wl_add rfl (.tmp 35) (.tmp 36) 3 3 rfl (p := n) (q := m) ((n + m : Nat) : Int) (by kernel_rfl) (by kernel_rfl) (by omega) ?_
    refine wl rfl (.int .i64 i) (w1 := w) (by kernel_rfl) ?_
    refine wl_sub rfl (.tmp 37) (.tmp 38) 3 3 rfl (p := ((n + m : Nat) : Int)) (q := i) ((n + m - i : Nat) : Int) (by kernel_rfl) (by kernel_rfl) (by omega) ?_
    refine wl_append rfl (.tmp 34) (.tmp 39) 22 3 rfl (by kernel_rfl) (by kernel_rfl) _ h1 ?_
    refine wl rfl (.slice (some ⟨b1, 0, none⟩) (n + m) cap1) (w1 := W1) (by kernel_rfl) (wpList_nil ?_)
    try simp only [Act.put, List.setIfInBounds_toArray, List.set_cons_succ, List.set_cons_zero]
    go_upto_region 10 with fail
    refine wp_region_lit ?_
    refine wl rfl (.slice (some ⟨b1, 0, none⟩) (n + m) cap1) (w1 := W1) (by kernel_rfl) ?_
    refine wl rfl (.int .i64 i) (w1 := W1) (by kernel_rfl) ?_
    refine wl_slice uT81 hI rfl (.tmp 41) (some (.tmp 42)) none rfl (b := b1) (off := 0) (n := n + m) (cap := cap1) (l := i) (h := n + m) (by kernel_rfl) (.inr (by kernel_rfl)) (.inl ⟨rfl, rfl⟩) (by omega) hc1 (.inl (by omega)) (off' := i * 3) (n' := n + m - i) ⟨by simp [hIs], rfl⟩ ?_
    refine wl rfl (.slice a2 m cap2) (w1 := W1) (by kernel_rfl) ?_
    refine wl_copy rfl (.tmp 43) (.tmp 44) 22 22 rfl (by kernel_rfl) (by kernel_rfl) _ h2 (wpList_nil ?_)
    try simp only [Act.put, List.setIfInBounds_toArray, List.set_cons_succ, List.set_cons_zero]
    go_upto_region 11 with fail
    have hic1 : i + m ≤ cap1 := by omega
    have hic2 : ¬ (cap1 = i + m) := by omega
    have hic3 : i + m ≤ n + m := by omega
    have hic4 : ¬ (cap = i) := by omega
    have hii : i ≤ n := by omega
    have hw : IntKind.i64.wrap ((i : Int) + (m : Int)) = (i : Int) + (m : Int) := by
      simp only [IntKind.wrap, IntKind.bits, IntKind.signed, if_true]
      simp
      split <;> omega
    have ht : ((i : Int) + (m : Int)).toNat = i + m := by omega
    have hle : (i : Int) + (m : Int) ≤ (n : Int) + (m : Int) := by omega
    have hle0 : 0 ≤ (i : Int) + (m : Int) := by omega
    go_region_law (refine st_copy rfl (.tmp 50) (.tmp 53) 22 22 rfl (by simp [Act.eval, Act.put]) (by simp [Act.eval, Act.put]) _ h3 ?_)
    try simp only [Act.put, List.setIfInBounds_toArray, List.set_cons_succ, List.set_cons_zero]
    go_wp2
    all_goals (go_ret; exact ⟨rfl, rfl⟩)
  all_goals (exfalso; omega)
set_option maxHeartbeats 4000000 in
set_option maxRecDepth 1000000 in
theorem ins_room81 (I : TypeInfo) (hI : P.info? 59 = some I) (hIs : I.size = 3) (w W1 W2 : World) (b n cap cap2 i m : Nat) (a2 : Option Addr) (v2 v3 : Value) (hin : i < n) (hm : 0 < m) (hroom : n + m ≤ cap) (hr : n + m ≤ 140737488355328)
    (hov : (callFunc 83 #[.slice a2 m cap2, .slice (some ⟨b, (i + m) * 3, none⟩) (n + m - (i + m)) (cap - (i + m))]).run P w = .ok (.value (.bool false)) w)
    (h1 : (Builtin.copy_ #[22, 22] 3 #[.slice (some ⟨b, (i + m) * 3, none⟩) (n + m - (i + m)) (cap - (i + m)), .slice (some ⟨b, i * 3, none⟩) (n + m - i) (cap - i)]).run P w.drew = .ok v2 W1)
    (h2 : (Builtin.copy_ #[22, 22] 3 #[.slice (some ⟨b, i * 3, none⟩) (n + m - i) (cap - i), .slice a2 m cap2]).run P W1 = .ok v3 W2) :
    Calls P 81 #[.slice (some ⟨b, 0, none⟩) n cap, .int .i64 i, .slice a2 m cap2] w fun e w' => e = .returned (.slice (some ⟨b, 0, none⟩) (n + m) cap) ∧ w' = W2 := by
  have hm0 : ¬ (m = 0) := by omega
  have hin0 : ¬ (i = n) := by omega
  have hic : i ≤ cap := by omega
  have hw1 : IntKind.i64.wrap ((i : Int) + (m : Int)) = (i : Int) + (m : Int) := by
    simp only [IntKind.wrap, IntKind.bits, IntKind.signed, if_true]
    simp
    split <;> omega
  have hb1 : (0 : Int) ≤ (i : Int) + (m : Int) := by omega
  have hii : i ≤ n := by omega
  have htn : ((i : Int) + (m : Int)).toNat = i + m := by omega
  have hb2 : ¬ (cap = i + m) := by omega
  have hb3 : (i : Int) ≤ (n : Int) + (m : Int) := by omega
  have hb4 : ¬ (cap = i) := by omega
  have hle : (i : Int) + (m : Int) ≤ (n : Int) + (m : Int) := by omega
  go_enter fn81, nt81
  go_upto_region 15 with (simp only [hov])
  go_region_law (refine st_copy rfl (.tmp 73) (.tmp 76) 22 22 rfl (by simp [Act.eval, Act.put]) (by simp [Act.eval, Act.put]) _ h1 ?_)
  try simp only [Act.put, List.setIfInBounds_toArray, List.set_cons_succ, List.set_cons_zero]
  go_upto_region 16 with fail
  refine wp_region_lit ?_
  refine wl rfl (.slice (some ⟨b, 0, none⟩) (n + m) cap) (w1 := W1) (by kernel_rfl) ?_
  refine wl rfl (.int .i64 i) (w1 := W1) (by kernel_rfl) ?_
  refine wl_slice uT81 hI rfl (.tmp 78) (some (.tmp 79)) none rfl (b := b) (off := 0) (n := n + m) (cap := cap) (l := i) (h := n + m) (by kernel_rfl) (.inr (by kernel_rfl)) (.inl ⟨rfl, rfl⟩) (by omega) hroom (.inl (by omega)) (off' := i * 3) (n' := n + m - i) ⟨by simp [hIs], rfl⟩ ?_
  refine wl rfl (.slice a2 m cap2) (w1 := W1) (by kernel_rfl) ?_
  refine wl_copy rfl (.tmp 80) (.tmp 81) 22 22 rfl (by kernel_rfl) (by kernel_rfl) _ h2 (wpList_nil ?_)
  try simp only [Act.put, List.setIfInBounds_toArray, List.set_cons_succ, List.set_cons_zero]
  go_wp2
  all_goals (go_ret; exact ⟨rfl, rfl⟩)
theorem S81 (A : Amb) (n : Nat) : Sound A P cH 81 s81 (F81 n) := by
  obtain ⟨I, hI, hIs⟩ := inf81
  refine insert_sound (fo := 83) (T := 22) (U := 22) (tb := 4) (tab rfl) rfl rfl (by kernel_rfl) (by decide) (z := (zeroCells (.st (.pair tI (.pair .str (.pair tI .unit))))).getD []) rfl ov81 ins_none81 ins_end81 ?_ ?_
  · intro w W1 W2 W3 b b1 n cap cap1 cap2 i m a2 v2 v3 h1 h2 h3 h4 h5 h6 h7 h8 h9
    exact ins_grow81 I hI hIs w W1 W2 W3 b b1 n cap cap1 cap2 i m a2 v2 v3 h1 h2 h3 h4 h5 h6 h7 h8 h9
  · intro w W1 W2 b n cap cap2 i m a2 v2 v3 h1 h2 h3 h4 h5 h6 h7
    exact ins_room81 I hI hIs w W1 W2 b n cap cap2 i m a2 v2 v3 h1 h2 h3 h4 h5 h6 h7
def s82 : Sig := ⟨[.val (.sl .own 8 tI), .val tI, .val (.sl .imm 8 tI)], [.val (.sl .own 8 tI)]⟩
/-- slices.Insert[[]int,int] -/
def F82 (_n : Nat) (x : List Int × Int × List Int × Unit) : Option ((List Int × Unit) × (Unit)) := insF 8 tI x
theorem nt82 : Go.Proofs.Tryd.f82.ntmps = 95 := by kernel_rfl
theorem fn82 : P.funcs[82]? = some Go.Proofs.Tryd.f82 := by kernel_rfl
theorem call82 : Callable P 82 := callB_ok (by kernel_rfl)
theorem uT82 : P.underlying 25 = some (.slice 3) := by kernel_rfl
theorem inf82 : ∃ I, P.info? 3 = some I ∧ I.size = 1 := by
  obtain ⟨i, d, h1, _, h3, _⟩ := ((tab (C := cH) rfl) 3 _ rfl).ex
  exact ⟨i, h1, h3⟩
theorem fn85 : P.funcs[85]? = some Go.Proofs.Tryd.f85 := by kernel_rfl
theorem ov82 (x y : Value) (w w' : World) (b : Bool) (h : (Extern.SlicesOverlaps.overlaps #[25, 25] #[4] #[x, y]).run P w = .ok (.bool b) w') : (callFunc 85 #[x, y]).run P w = .ok (.value (.bool b)) w' := by
  rw [run_callFunc_extern fn85 (by kernel_rfl) (by kernel_rfl) (by kernel_rfl) (e := Extern.SlicesOverlaps.overlaps #[25, 25] #[4]) (by kernel_rfl), h]
  rfl
set_option maxHeartbeats 4000000 in
set_option maxRecDepth 1000000 in
theorem ins_none82 (w : World) (a a2 : Option Addr) (n cap cap2 i : Nat) (hin : i ≤ n) (hn : n ≤ cap) : Calls P 82 #[.slice a n cap, .int .i64 i, .slice a2 0 cap2] w fun e w' => e = .returned (.slice a n cap) ∧ w' = w := by
  go_enter fn82, nt82
  go_wp2
  all_goals (go_ret; exact ⟨rfl, rfl⟩)
set_option maxHeartbeats 4000000 in
set_option maxRecDepth 1000000 in
theorem ins_end82 (w W1 : World) (a a2 : Option Addr) (n cap cap2 m : Nat) (v' : Value) (hn : n ≤ cap) (hm : 0 < m) (happ : (Builtin.append_ #[25, 25] 25 #[.slice a n cap, .slice a2 m cap2]).run P w = .ok v' W1) :
    Calls P 82 #[.slice a n cap, .int .i64 n, .slice a2 m cap2] w fun e w' => e = .returned v' ∧ w' = W1 := by
  have hm0 : ¬ (m = 0) := by omega
  go_enter fn82, nt82
  go_upto_region 7 with fail
  refine wp_region_lit ?_
  refine wl rfl (.slice a n cap) (w1 := w) rfl ?_
  refine wl rfl (.slice a2 m cap2) (w1 := w) rfl ?_
  refine wl_append rfl (.tmp 23) (.tmp 24) 25 25 rfl (by simp [Act.eval, Act.put]) (by simp [Act.eval, Act.put]) _ happ ?_
  refine wl rfl v' (w1 := W1) rfl (wpList_nil ?_)
  go_wp2
  all_goals (go_ret; exact ⟨rfl, rfl⟩)
set_option maxHeartbeats 4000000 in
set_option maxRecDepth 1000000 in
theorem ins_grow82 (I : TypeInfo) (hI : P.info? 3 = some I) (hIs : I.size = 1) (w W1 W2 W3 : World) (b b1 n cap cap1 cap2 i m : Nat) (a2 : Option Addr) (v2 v3 : Value) (hin : i < n) (hn : n ≤ cap) (hm : 0 < m) (hcap : cap < n + m) (hr : n + m ≤ 140737488355328) (hc1 : n + m ≤ cap1)
    (h1 : (Builtin.append_ #[25, 3] 25 #[.slice (some ⟨b, 0, none⟩) i cap, .int .i64 ((n + m - i : Nat) : Int)]).run P w = .ok (.slice (some ⟨b1, 0, none⟩) (n + m) cap1) W1)
    (h2 : (Builtin.copy_ #[25, 25] 3 #[.slice (some ⟨b1, i, none⟩) (n + m - i) (cap1 - i), .slice a2 m cap2]).run P W1 = .ok v2 W2)
    (h3 : (Builtin.copy_ #[25, 25] 3 #[.slice (some ⟨b1, (i + m), none⟩) (n + m - (i + m)) (cap1 - (i + m)), .slice (some ⟨b, i, none⟩) (n - i) (cap - i)]).run P W2.drew = .ok v3 W3) :
    Calls P 82 #[.slice (some ⟨b, 0, none⟩) n cap, .int .i64 i, .slice a2 m cap2] w fun e w' => e = .returned (.slice (some ⟨b1, 0, none⟩) (n + m) cap1) ∧ w' = W3 := by
  have hm0 : ¬ (m = 0) := by omega
  have hin0 : ¬ (i = n) := by omega
  have hic : i ≤ cap := by omega
  go_enter fn82, nt82
  go_upto_region 9 with fail
  · refine wp_region_lit ?_
    refine wl rfl (.slice (some ⟨b, 0, none⟩) n cap) (w1 := w) (by kernel_rfl) ?_
    refine wl rfl (.int .i64 i) (w1 := w) (by kernel_rfl) ?_
    refine wl_slice uT82 hI rfl (.tmp 32) none (some (.tmp 33)) rfl (b := b) (off := 0) (n := n) (cap := cap) (l := 0) (h := i) (by kernel_rfl) (.inl ⟨rfl, rfl⟩) (.inr (by kernel_rfl)) (Nat.zero_le _) hic (.inr rfl) (off' := 0) (n' := i) ⟨by simp, rfl⟩ ?_
    refine wl rfl (.int .i64 n) (w1 := w) (by kernel_rfl) ?_
    refine wl rfl (.int .i64 m) (w1 := w) (by kernel_rfl) ?_
    refine wl_add rfl (.tmp 35) (.tmp 36) 3 3 rfl (p := n) (q := m) ((n + m : Nat) : Int) (by kernel_rfl) (by kernel_rfl) (by omega) ?_
    refine wl rfl (.int .i64 i) (w1 := w) (by kernel_rfl) ?_
    refine wl_sub rfl (.tmp 37) (.tmp 38) 3 3 rfl (p := ((n + m : Nat) : Int)) (q := i) ((n + m - i : Nat) : Int) (by kernel_rfl) (by kernel_rfl) (by omega) ?_
    refine wl_append rfl (.tmp 34) (.tmp 39) 25 3 rfl (by kernel_rfl) (by kernel_rfl) _ h1 ?_
    refine wl rfl (.slice (some ⟨b1, 0, none⟩) (n + m) cap1) (w1 := W1) (by kernel_rfl) (wpList_nil ?_)
    try simp only [Act.put, List.setIfInBounds_toArray, List.set_cons_succ, List.set_cons_zero]
    go_upto_region 10 with fail
    refine wp_region_lit ?_
    refine wl rfl (.slice (some ⟨b1, 0, none⟩) (n + m) cap1) (w1 := W1) (by kernel_rfl) ?_
    refine wl rfl (.int .i64 i) (w1 := W1) (by kernel_rfl) ?_
    refine wl_slice uT82 hI rfl (.tmp 41) (some (.tmp 42)) none rfl (b := b1) (off := 0) (n := n + m) (cap := cap1) (l := i) (h := n + m) (by kernel_rfl) (.inr (by kernel_rfl)) (.inl ⟨rfl, rfl⟩) (by omega) hc1 (.inl (by omega)) (off' := i) (n' := n + m - i) ⟨by simp [hIs], rfl⟩ ?_
    refine wl rfl (.slice a2 m cap2) (w1 := W1) (by kernel_rfl) ?_
    refine wl_copy rfl (.tmp 43) (.tmp 44) 25 25 rfl (by kernel_rfl) (by kernel_rfl) _ h2 (wpList_nil ?_)
    try simp only [Act.put, List.setIfInBounds_toArray, List.set_cons_succ, List.set_cons_zero]
    go_upto_region 11 with fail
    have hic1 : i + m ≤ cap1 := by omega
    have hic2 : ¬ (cap1 = i + m) := by omega
    have hic3 : i + m ≤ n + m := by omega
    have hic4 : ¬ (cap = i) := by omega
    have hii : i ≤ n := by omega
    have hw : IntKind.i64.wrap ((i : Int) + (m : Int)) = (i : Int) + (m : Int) := by
      simp only [IntKind.wrap, IntKind.bits, IntKind.signed, if_true]
      simp
      split <;> omega
    have ht : ((i : Int) + (m : Int)).toNat = i + m := by omega
    have hle : (i : Int) + (m : Int) ≤ (n : Int) + (m : Int) := by omega
    have hle0 : 0 ≤ (i : Int) + (m : Int) := by omega
    go_region_law (refine st_copy rfl (.tmp 50) (.tmp 53) 25 25 rfl (by simp [Act.eval, Act.put]) (by simp [Act.eval, Act.put]) _ h3 ?_)
    try simp only [Act.put, List.setIfInBounds_toArray, List.set_cons_succ, List.set_cons_zero]
    go_wp2
    all_goals (go_ret; exact ⟨rfl, rfl⟩)
  all_goals (exfalso; omega)
set_option maxHeartbeats 4000000 in
set_option maxRecDepth 1000000 in
theorem ins_room82 (I : TypeInfo) (hI : P.info? 3 = some I) (hIs : I.size = 1) (w W1 W2 : World) (b n cap cap2 i m : Nat) (a2 : Option Addr) (v2 v3 : Value) (hin : i < n) (hm : 0 < m) (hroom : n + m ≤ cap) (hr : n + m ≤ 140737488355328)
    (hov : (callFunc 85 #[.slice a2 m cap2, .slice (some ⟨b, (i + m), none⟩) (n + m - (i + m)) (cap - (i + m))]).run P w = .ok (.value (.bool false)) w)
    (h1 : (Builtin.copy_ #[25, 25] 3 #[.slice (some ⟨b, (i + m), none⟩) (n + m - (i + m)) (cap - (i + m)), .slice (some ⟨b, i, none⟩) (n + m - i) (cap - i)]).run P w.drew = .ok v2 W1)
    (h2 : (Builtin.copy_ #[25, 25] 3 #[.slice (some ⟨b, i, none⟩) (n + m - i) (cap - i), .slice a2 m cap2]).run P W1 = .ok v3 W2) :
    Calls P 82 #[.slice (some ⟨b, 0, none⟩) n cap, .int .i64 i, .slice a2 m cap2] w fun e w' => e = .returned (.slice (some ⟨b, 0, none⟩) (n + m) cap) ∧ w' = W2 := by
  have hm0 : ¬ (m = 0) := by omega
  have hin0 : ¬ (i = n) := by omega
  have hic : i ≤ cap := by omega
  have hw1 : IntKind.i64.wrap ((i : Int) + (m : Int)) = (i : Int) + (m : Int) := by
    simp only [IntKind.wrap, IntKind.bits, IntKind.signed, if_true]
    simp
    split <;> omega
  have hb1 : (0 : Int) ≤ (i : Int) + (m : Int) := by omega
  have hii : i ≤ n := by omega
  have htn : ((i : Int) + (m : Int)).toNat = i + m := by omega
  have hb2 : ¬ (cap = i + m) := by omega
  have hb3 : (i : Int) ≤ (n : Int) + (m : Int) := by omega
  have hb4 : ¬ (cap = i) := by omega
  have hle : (i : Int) + (m : Int) ≤ (n : Int) + (m : Int) := by omega
  go_enter fn82, nt82
  go_upto_region 15 with (simp only [hov])
  go_region_law (refine st_copy rfl (.tmp 73) (.tmp 76) 25 25 rfl (by simp [Act.eval, Act.put]) (by simp [Act.eval, Act.put]) _ h1 ?_)
  try simp only [Act.put, List.setIfInBounds_toArray, List.set_cons_succ, List.set_cons_zero]
  go_upto_region 16 with fail
  refine wp_region_lit ?_
  refine wl rfl (.slice (some ⟨b, 0, none⟩) (n + m) cap) (w1 := W1) (by kernel_rfl) ?_
  refine wl rfl (.int .i64 i) (w1 := W1) (by kernel_rfl) ?_
  refine wl_slice uT82 hI rfl (.tmp 78) (some (.tmp 79)) none rfl (b := b) (off := 0) (n := n + m) (cap := cap) (l := i) (h := n + m) (by kernel_rfl) (.inr (by kernel_rfl)) (.inl ⟨rfl, rfl⟩) (by omega) hroom (.inl (by omega)) (off' := i) (n' := n + m - i) ⟨by simp [hIs], rfl⟩ ?_
  refine wl rfl (.slice a2 m cap2) (w1 := W1) (by kernel_rfl) ?_
  refine wl_copy rfl (.tmp 80) (.tmp 81) 25 25 rfl (by kernel_rfl) (by kernel_rfl) _ h2 (wpList_nil ?_)
  try simp only [Act.put, List.setIfInBounds_toArray, List.set_cons_succ, List.set_cons_zero]
  go_wp2
  all_goals (go_ret; exact ⟨rfl, rfl⟩)
theorem S82 (A : Amb) (n : Nat) : Sound A P cH 82 s82 (F82 n) := by
  obtain ⟨I, hI, hIs⟩ := inf82
  refine insert_sound (fo := 85) (T := 25) (U := 25) (tb := 4) (tab rfl) rfl rfl (by kernel_rfl) (by decide) (z := (zeroCells tI).getD []) rfl ov82 ins_none82 ins_end82 ?_ ?_
  · intro w W1 W2 W3 b b1 n cap cap1 cap2 i m a2 v2 v3 h1 h2 h3 h4 h5 h6 h7 h8 h9
    exact ins_grow82 I hI hIs w W1 W2 W3 b b1 n cap cap1 cap2 i m a2 v2 v3 h1 h2 h3 h4 h5 h6 h7 (by simpa [Ty.size] using h8) (by simpa [Ty.size] using h9)
  · intro w W1 W2 b n cap cap2 i m a2 v2 v3 h1 h2 h3 h4 h5 h6 h7
    exact ins_room82 I hI hIs w W1 W2 b n cap cap2 i m a2 v2 v3 h1 h2 h3 h4 (by simpa [Ty.size] using h5) (by simpa [Ty.size] using h6) (by simpa [Ty.size] using h7)
def s76 : Sig := ⟨[.io (.st (.pair (.st (.pair (.sl .own 32 (.st (.pair tI (.pair .str (.pair tI .unit))))) (.pair tI .unit))) (.pair (.st (.pair tI (.pair tI (.pair tI (.pair (.sl .own 8 tI) .unit))))) (.pair (.st (.pair tI (.pair tI (.pair .str (.pair tI (.pair (.st (.pair tI (.pair tI (.pair .str .unit)))) (.pair tB (.pair tI .unit)))))))) (.pair tI .unit))))), .val tI, .val tI], [.val .err]⟩
/-- (*rabbet/schema.work).put -/
def F76 (n : Nat) (x : ((List (Int × List Int × Int × Unit) × Int × Unit) × (Int × Int × Int × List Int × Unit) × (Int × Int × List Int × Int × (Int × Int × List Int × Unit) × Int × Int × Unit) × Int × Unit) × Int × Int × Unit) : Option ((UV × Unit) × (((List (Int × List Int × Int × Unit) × Int × Unit) × (Int × Int × Int × List Int × Unit) × (Int × Int × List Int × Int × (Int × Int × List Int × Unit) × Int × Int × Unit) × Int × Unit) × Unit)) :=
  (if (decide ((6:Int) ≤ (x.1.1.1.length : Int))) = true then (some (((UV.node 99 (.pair (.str [111, 110, 101, 32, 109, 111, 114, 101]) (.pair (UV.sent 3) .unit))), ()), (x.1, ()))) else (if (decide ((10000:Int) ≤ x.1.1.2.1)) = true then (some (((UV.node 99 (.pair (.str [111, 110, 101, 32, 109, 111, 114, 101]) (.pair (UV.sent 3) .unit))), ()), (x.1, ()))) else ((F81 n (x.1.1.1, x.2.1, ([((IntKind.i64.wrap (x.1.1.2.1 + (1:Int))), x.1.2.2.1.2.2.1, x.2.2.1, ())] : List (Int × List Int × Int × Unit)), ())).bind fun (y1 : ((List (Int × List Int × Int × Unit)) × Unit) × (Unit)) => ((F82 n (x.1.2.1.2.2.2.1, x.2.1, [(1:Int)], ())).bind fun (y2 : (List Int × Unit) × (Unit)) => (some ((UV.nil, ()), (((y1.1.1, (IntKind.i64.wrap (x.1.1.2.1 + (1:Int))), x.1.1.2.2), (x.1.2.1.1, x.1.2.1.2.1, x.1.2.1.2.2.1, y2.1.1, x.1.2.1.2.2.2.2), x.1.2.2), ())))))))
def h76 : Hints := ⟨[], []⟩
def ft76 (n : Nat) : List (Nat × FEnt) := [(81, ⟨s81, F81 n⟩), (82, ⟨s82, F82 n⟩)]
def c76 (n : Nat) : Ctx := ⟨70, find? tys, find? (ft76 n), gls, [], [], []⟩
theorem e76 (n x) : execFn (c76 n) h76 n Go.Proofs.Tryd.f76 s76 x = F76 n x := by kernel_rfl
theorem fn76 : P.funcs[76]? = some Go.Proofs.Tryd.f76 := by kernel_rfl
theorem call76 : Callable P 76 := callB_ok (by kernel_rfl)
theorem S76 (A : Amb) (n : Nat) : Sound A P (c76 n) 76 s76 (F76 n) :=
  execFn_sound mixed (tab rfl) (ft_all (C := c76 n) (l := ft76 n) rfl ⟨⟨call81, (S81 A n).of rfl⟩, ⟨call82, (S82 A n).of rfl⟩, trivial⟩) fn76 fun x y h => (e76 n x).trans h
def s60 : Sig := ⟨[.io (.st (.pair (.st (.pair (.sl .own 32 (.st (.pair tI (.pair .str (.pair tI .unit))))) (.pair tI .unit))) (.pair (.st (.pair tI (.pair tI (.pair tI (.pair (.sl .own 8 tI) .unit))))) (.pair (.st (.pair tI (.pair tI (.pair .str (.pair tI (.pair (.st (.pair tI (.pair tI (.pair .str .unit)))) (.pair tB (.pair tI .unit)))))))) (.pair tI .unit)))))], [.val .err]⟩
/-- (*rabbet/schema.work).add -/
def F60 (n : Nat) (x : ((List (Int × List Int × Int × Unit) × Int × Unit) × (Int × Int × Int × List Int × Unit) × (Int × Int × List Int × Int × (Int × Int × List Int × Unit) × Int × Int × Unit) × Int × Unit) × Unit) : Option ((UV × Unit) × (((List (Int × List Int × Int × Unit) × Int × Unit) × (Int × Int × Int × List Int × Unit) × (Int × Int × List Int × Int × (Int × Int × List Int × Unit) × Int × Int × Unit) × Int × Unit) × Unit)) :=
  (joinF (fun (s1 : (List (Int × List Int × Int × Unit) × Int × Unit) × (Int × Int × Int × List Int × Unit) × (Int × Int × List Int × Int × (Int × Int × List Int × Unit) × Int × Int × Unit) × Int × Unit) => ((F75 n (s1, (-1:Int), ())).bind fun (y3 : (UV × Unit) × (((List (Int × List Int × Int × Unit) × Int × Unit) × (Int × Int × Int × List Int × Unit) × (Int × Int × List Int × Int × (Int × Int × List Int × Unit) × Int × Int × Unit) × Int × Unit) × Unit)) => (if (!decide (y3.1.1 = UV.nil)) = true then (some ((y3.1.1, ()), (y3.2.1, ()))) else ((F55 n (y3.2.1.2.2.1.2.2.2.1, y3.2.1.2.2.1.2.2.2.2.1, ())).bind fun (y4 : (Bool × Unit) × (Unit)) => (if (!y4.1.1) = true then (some (((UV.node 99 (.pair (.str [116, 104, 101, 32, 118, 97, 108, 117, 101]) (.pair (UV.sent 1) .unit))), ()), (y3.2.1, ()))) else ((F76 n (y3.2.1, (y3.2.1.1.1.length : Int), y3.2.1.2.2.1.2.2.2.1, ())).bind fun (y5 : (UV × Unit) × (((List (Int × List Int × Int × Unit) × Int × Unit) × (Int × Int × Int × List Int × Unit) × (Int × Int × List Int × Int × (Int × Int × List Int × Unit) × Int × Int × Unit) × Int × Unit) × Unit)) => (some ((y5.1.1, ()), (y5.2.1, ()))))))))) fun J2 => ((F27 n (x.1.2.2.1.2.2.1, ())).bind fun (y6 : (Bool × Unit) × (Unit)) => (if y6.1.1 = true then ((F42 n (x.1.2.2.1.2.2.2.1, ())).bind fun (y7 : (Bool × Unit) × (Unit)) => (if (!y7.1.1) = true then (some (((UV.node 99 (.pair (.str [116, 104, 101, 32, 116, 121, 112, 101]) (.pair (UV.sent 4) .unit))), ()), (x.1, ()))) else (J2 x.1))) else (J2 x.1))))
def h60 : Hints := ⟨[], [(6, ⟨[(0, .box (.st (.pair (.st (.pair (.sl .own 32 (.st (.pair tI (.pair .str (.pair tI .unit))))) (.pair tI .unit))) (.pair (.st (.pair tI (.pair tI (.pair tI (.pair (.sl .own 8 tI) .unit))))) (.pair (.st (.pair tI (.pair tI (.pair .str (.pair tI (.pair (.st (.pair tI (.pair tI (.pair .str .unit)))) (.pair tB (.pair tI .unit)))))))) (.pair tI .unit))))))], [], []⟩)]⟩
def ft60 (n : Nat) : List (Nat × FEnt) := [(27, ⟨s27, F27 n⟩), (42, ⟨s42, F42 n⟩), (55, ⟨s55, F55 n⟩), (75, ⟨s75, F75 n⟩), (76, ⟨s76, F76 n⟩)]
def c60 (n : Nat) : Ctx := ⟨55, find? tys, find? (ft60 n), gls, [], [], []⟩
theorem e60 (n x) : execFn (c60 n) h60 n Go.Proofs.Tryd.f60 s60 x = F60 n x := by kernel_rfl
theorem fn60 : P.funcs[60]? = some Go.Proofs.Tryd.f60 := by kernel_rfl
theorem call60 : Callable P 60 := callB_ok (by kernel_rfl)
theorem S60 (A : Amb) (n : Nat) : Sound A P (c60 n) 60 s60 (F60 n) :=
  execFn_sound mixed (tab rfl) (ft_all (C := c60 n) (l := ft60 n) rfl ⟨⟨call27, (S27 A n).of rfl⟩, ⟨call42, (S42 A n).of rfl⟩, ⟨call55, (S55 A n).of rfl⟩, ⟨call75, (S75 A n).of rfl⟩, ⟨call76, (S76 A n).of rfl⟩, trivial⟩) fn60 fun x y h => (e60 n x).trans h
def s61 : Sig := ⟨[.io (.st (.pair (.st (.pair (.sl .own 32 (.st (.pair tI (.pair .str (.pair tI .unit))))) (.pair tI .unit))) (.pair (.st (.pair tI (.pair tI (.pair tI (.pair (.sl .own 8 tI) .unit))))) (.pair (.st (.pair tI (.pair tI (.pair .str (.pair tI (.pair (.st (.pair tI (.pair tI (.pair .str .unit)))) (.pair tB (.pair tI .unit)))))))) (.pair tI .unit)))))], [.val .err]⟩
/-- (*rabbet/schema.work).repart -/
def F61 (n : Nat) (x : ((List (Int × List Int × Int × Unit) × Int × Unit) × (Int × Int × Int × List Int × Unit) × (Int × Int × List Int × Int × (Int × Int × List Int × Unit) × Int × Int × Unit) × Int × Unit) × Unit) : Option ((UV × Unit) × (((List (Int × List Int × Int × Unit) × Int × Unit) × (Int × Int × Int × List Int × Unit) × (Int × Int × List Int × Int × (Int × Int × List Int × Unit) × Int × Int × Unit) × Int × Unit) × Unit)) :=
  (if (decide (x.1.2.2.1.2.2.2.2.2.2.1 < (1:Int))) = true then (some (((UV.node 99 (.pair (.str [104, 111, 119, 32, 109, 97, 110, 121]) (.pair (UV.sent 4) .unit))), ()), (x.1, ()))) else (if (decide ((4:Int) < x.1.2.2.1.2.2.2.2.2.2.1)) = true then (some (((UV.node 99 (.pair (.str [104, 111, 119, 32, 109, 97, 110, 121]) (.pair (UV.sent 4) .unit))), ()), (x.1, ()))) else ((F46 n (x.1.1, x.1.2.2.1.2.1, (decide (x.1.2.2.1.2.2.2.2.2.2.1 = (1:Int))), ())).bind fun (y1 : (Bool × Unit) × (Unit)) => (if (!y1.1.1) = true then (some (((UV.node 99 (.pair (.str [116, 104, 101, 32, 99, 111, 108, 117, 109, 110]) (.pair (UV.sent 0) .unit))), ()), (x.1, ()))) else (some ((UV.nil, ()), ((x.1.1, (x.1.2.1.1, x.1.2.2.1.2.1, x.1.2.2.1.2.2.2.2.2.2.1, x.1.2.1.2.2.2), x.1.2.2), ())))))))
def h61 : Hints := ⟨[], []⟩
def ft61 (n : Nat) : List (Nat × FEnt) := [(46, ⟨s46, F46 n⟩)]
def c61 (n : Nat) : Ctx := ⟨60, find? tys, find? (ft61 n), gls, [], [], []⟩
theorem e61 (n x) : execFn (c61 n) h61 n Go.Proofs.Tryd.f61 s61 x = F61 n x := by kernel_rfl
theorem fn61 : P.funcs[61]? = some Go.Proofs.Tryd.f61 := by kernel_rfl
theorem call61 : Callable P 61 := callB_ok (by kernel_rfl)
theorem S61 (A : Amb) (n : Nat) : Sound A P (c61 n) 61 s61 (F61 n) :=
  execFn_sound mixed (tab rfl) (ft_all (C := c61 n) (l := ft61 n) rfl ⟨⟨call46, (S46 A n).of rfl⟩, trivial⟩) fn61 fun x y h => (e61 n x).trans h
def s62 : Sig := ⟨[.io (.st (.pair (.st (.pair (.sl .own 32 (.st (.pair tI (.pair .str (.pair tI .unit))))) (.pair tI .unit))) (.pair (.st (.pair tI (.pair tI (.pair tI (.pair (.sl .own 8 tI) .unit))))) (.pair (.st (.pair tI (.pair tI (.pair .str (.pair tI (.pair (.st (.pair tI (.pair tI (.pair .str .unit)))) (.pair tB (.pair tI .unit)))))))) (.pair tI .unit)))))], [.val .err]⟩
/-- (*rabbet/schema.work).find -/
def F62 (n : Nat) (x : ((List (Int × List Int × Int × Unit) × Int × Unit) × (Int × Int × Int × List Int × Unit) × (Int × Int × List Int × Int × (Int × Int × List Int × Unit) × Int × Int × Unit) × Int × Unit) × Unit) : Option ((UV × Unit) × (((List (Int × List Int × Int × Unit) × Int × Unit) × (Int × Int × Int × List Int × Unit) × (Int × Int × List Int × Int × (Int × Int × List Int × Unit) × Int × Int × Unit) × Int × Unit) × Unit)) :=
  ((F23 n (x.1.1, x.1.2.2.1.2.1, ())).bind fun (y1 : (Int × Bool × Unit) × (Unit)) => (if (!y1.1.2.1) = true then (some (((UV.node 99 (.pair (.str [116, 104, 101, 32, 99, 111, 108, 117, 109, 110]) (.pair (UV.sent 0) .unit))), ()), (x.1, ()))) else (some ((UV.nil, ()), ((x.1.1, x.1.2.1, x.1.2.2.1, y1.1.1, x.1.2.2.2.2), ())))))
def h62 : Hints := ⟨[], []⟩
def ft62 (n : Nat) : List (Nat × FEnt) := [(23, ⟨s23, F23 n⟩)]
def c62 (n : Nat) : Ctx := ⟨27, find? tys, find? (ft62 n), gls, [], [], []⟩
theorem e62 (n x) : execFn (c62 n) h62 n Go.Proofs.Tryd.f62 s62 x = F62 n x := by kernel_rfl
theorem fn62 : P.funcs[62]? = some Go.Proofs.Tryd.f62 := by kernel_rfl
theorem call62 : Callable P 62 := callB_ok (by kernel_rfl)
theorem S62 (A : Amb) (n : Nat) : Sound A P (c62 n) 62 s62 (F62 n) :=
  execFn_sound mixed (tab rfl) (ft_all (C := c62 n) (l := ft62 n) rfl ⟨⟨call23, (S23 A n).of rfl⟩, trivial⟩) fn62 fun x y h => (e62 n x).trans h
def s77 : Sig := ⟨[.io (.st (.pair (.st (.pair (.sl .own 32 (.st (.pair tI (.pair .str (.pair tI .unit))))) (.pair tI .unit))) (.pair (.st (.pair tI (.pair tI (.pair tI (.pair (.sl .own 8 tI) .unit))))) (.pair (.st (.pair tI (.pair tI (.pair .str (.pair tI (.pair (.st (.pair tI (.pair tI (.pair .str .unit)))) (.pair tB (.pair tI .unit)))))))) (.pair tI .unit)))))], [.val .bool]⟩
/-- (*rabbet/schema.work).held -/
def F77 (n : Nat) (x : ((List (Int × List Int × Int × Unit) × Int × Unit) × (Int × Int × Int × List Int × Unit) × (Int × Int × List Int × Int × (Int × Int × List Int × Unit) × Int × Int × Unit) × Int × Unit) × Unit) : Option ((Bool × Unit) × (((List (Int × List Int × Int × Unit) × Int × Unit) × (Int × Int × Int × List Int × Unit) × (Int × Int × List Int × Int × (Int × Int × List Int × Unit) × Int × Int × Unit) × Int × Unit) × Unit)) :=
  (if (decide (x.1.2.2.1.2.1 = x.1.2.1.1)) = true then (some ((true, ()), (x.1, ()))) else (some (((decide (x.1.2.2.1.2.1 = x.1.2.1.2.1)), ()), (x.1, ()))))
def h77 : Hints := ⟨[], []⟩
def ft77 (n : Nat) : List (Nat × FEnt) := []
def c77 (n : Nat) : Ctx := ⟨27, find? tys, find? (ft77 n), gls, [], [], []⟩
theorem e77 (n x) : execFn (c77 n) h77 n Go.Proofs.Tryd.f77 s77 x = F77 n x := by kernel_rfl
theorem fn77 : P.funcs[77]? = some Go.Proofs.Tryd.f77 := by kernel_rfl
theorem call77 : Callable P 77 := callB_ok (by kernel_rfl)
theorem S77 (A : Amb) (n : Nat) : Sound A P (c77 n) 77 s77 (F77 n) :=
  execFn_sound mixed (tab rfl) (ft_all (C := c77 n) (l := ft77 n) rfl trivial) fn77 fun x y h => (e77 n x).trans h
def s78 : Sig := ⟨[.val (.sl .own 32 (.st (.pair tI (.pair .str (.pair tI .unit))))), .val tI, .val tI], [.val (.sl .own 32 (.st (.pair tI (.pair .str (.pair tI .unit)))))]⟩
/-- slices.Delete[[]rabbet/api.Column,rabbet/api.Column] -/
def F78 (_n : Nat) (x : (List (Int × List Int × Int × Unit)) × Int × Int × Unit) : Option (((List (Int × List Int × Int × Unit)) × Unit) × (Unit)) := delF (.st (.pair tI (.pair .str (.pair tI .unit)))) x
theorem nt78 : Go.Proofs.Tryd.f78.ntmps = 33 := by kernel_rfl
theorem fn78 : P.funcs[78]? = some Go.Proofs.Tryd.f78 := by kernel_rfl
theorem call78 : Callable P 78 := callB_ok (by kernel_rfl)
set_option maxHeartbeats 4000000 in
set_option maxRecDepth 1000000 in
theorem del_eq78 (w : World) (a : Option Addr) (n cap i : Nat) (hin : i ≤ n) (hn : n ≤ cap) : Calls P 78 #[.slice a n cap, .int .i64 i, .int .i64 i] w fun e w' => e = .returned (.slice a n cap) ∧ w' = w := by
  go_enter fn78, nt78
  go_wp2
  all_goals (go_ret; exact ⟨rfl, rfl⟩)
set_option maxHeartbeats 4000000 in
set_option maxRecDepth 1000000 in
theorem del_lt78 (w W1 W2 : World) (b n cap i j k : Nat) (hij : i < j) (hjn : j ≤ n) (hn : n ≤ cap) (hk : k < n)
    (happ : (Builtin.append_ #[22, 22] 22 #[.slice (some ⟨b, 0, none⟩) i cap, .slice (if cap = j then some ⟨b, 0, none⟩ else some ⟨b, j * 3, none⟩) (n - j) (cap - j)]).run P w.drew = .ok (.slice (some ⟨b, 0, none⟩) k cap) W1)
    (hcl : (Builtin.clear_ #[22] 0 #[.slice (some ⟨b, k * 3, none⟩) (n - k) (cap - k)]).run P W1 = .ok (.tuple #[]) W2) :
    Calls P 78 #[.slice (some ⟨b, 0, none⟩) n cap, .int .i64 i, .int .i64 j] w fun e w' => e = .returned (.slice (some ⟨b, 0, none⟩) k cap) ∧ w' = W2 := by
  go_enter fn78, nt78
  have hic : i ≤ cap := by omega
  have hjc : j ≤ cap := by omega
  go_upto_region 5 with fail
  go_region_law (refine st_append rfl (.tmp 22) (.tmp 25) 22 22 rfl (by simp [Act.eval, Act.put]) (by simp [Act.eval, Act.put]) _ happ ?_)
  go_upto_region 6 with fail
  have h1 : k ≤ n := by omega
  have h3 : ¬ (cap = k) := by omega
  refine wp_region_lit ?_
  refine wl rfl (.slice (some ⟨b, 0, none⟩) k cap) (w1 := W1) rfl ?_
  refine wl rfl (.slice (some ⟨b, 0, none⟩) k cap) (w1 := W1) rfl ?_
  refine wl rfl (.int .i64 (k : Int)) (w1 := W1) (by go_simp) ?_
  refine wl rfl (.int .i64 (n : Int)) (w1 := W1) rfl ?_
  refine wl rfl (.slice (some ⟨b, k * 3, none⟩) (n - k) (cap - k)) (w1 := W1) (by go_simp) ?_
  refine wl_clear rfl (.tmp 31) 22 rfl (by simp [Act.eval, Act.put]) _ hcl (wpList_nil ?_)
  go_wp2
  all_goals (go_ret; exact ⟨rfl, rfl⟩)
theorem S78 (A : Amb) (n : Nat) : Sound A P cH 78 s78 (F78 n) :=
  delete_sound (T := 22) (tab rfl) rfl (z := (zeroCells (.st (.pair tI (.pair .str (.pair tI .unit))))).getD []) rfl del_eq78 fun w W1 W2 b n cap i j k h1 h2 h3 h4 h5 h6 => del_lt78 w W1 W2 b n cap i j k h1 h2 h3 h4 h5 h6
def s79 : Sig := ⟨[.val (.sl .own 8 tI), .val tI, .val tI], [.val (.sl .own 8 tI)]⟩
/-- slices.Delete[[]int,int] -/
def F79 (_n : Nat) (x : List Int × Int × Int × Unit) : Option ((List Int × Unit) × (Unit)) := delF tI x
theorem nt79 : Go.Proofs.Tryd.f79.ntmps = 33 := by kernel_rfl
theorem fn79 : P.funcs[79]? = some Go.Proofs.Tryd.f79 := by kernel_rfl
theorem call79 : Callable P 79 := callB_ok (by kernel_rfl)
set_option maxHeartbeats 4000000 in
set_option maxRecDepth 1000000 in
theorem del_eq79 (w : World) (a : Option Addr) (n cap i : Nat) (hin : i ≤ n) (hn : n ≤ cap) : Calls P 79 #[.slice a n cap, .int .i64 i, .int .i64 i] w fun e w' => e = .returned (.slice a n cap) ∧ w' = w := by
  go_enter fn79, nt79
  go_wp2
  all_goals (go_ret; exact ⟨rfl, rfl⟩)
set_option maxHeartbeats 4000000 in
set_option maxRecDepth 1000000 in
theorem del_lt79 (w W1 W2 : World) (b n cap i j k : Nat) (hij : i < j) (hjn : j ≤ n) (hn : n ≤ cap) (hk : k < n)
    (happ : (Builtin.append_ #[25, 25] 25 #[.slice (some ⟨b, 0, none⟩) i cap, .slice (if cap = j then some ⟨b, 0, none⟩ else some ⟨b, j, none⟩) (n - j) (cap - j)]).run P w.drew = .ok (.slice (some ⟨b, 0, none⟩) k cap) W1)
    (hcl : (Builtin.clear_ #[25] 0 #[.slice (some ⟨b, k, none⟩) (n - k) (cap - k)]).run P W1 = .ok (.tuple #[]) W2) :
    Calls P 79 #[.slice (some ⟨b, 0, none⟩) n cap, .int .i64 i, .int .i64 j] w fun e w' => e = .returned (.slice (some ⟨b, 0, none⟩) k cap) ∧ w' = W2 := by
  go_enter fn79, nt79
  have hic : i ≤ cap := by omega
  have hjc : j ≤ cap := by omega
  go_upto_region 5 with fail
  go_region_law (refine st_append rfl (.tmp 22) (.tmp 25) 25 25 rfl (by simp [Act.eval, Act.put]) (by simp [Act.eval, Act.put]) _ happ ?_)
  go_upto_region 6 with fail
  have h1 : k ≤ n := by omega
  have h3 : ¬ (cap = k) := by omega
  refine wp_region_lit ?_
  refine wl rfl (.slice (some ⟨b, 0, none⟩) k cap) (w1 := W1) rfl ?_
  refine wl rfl (.slice (some ⟨b, 0, none⟩) k cap) (w1 := W1) rfl ?_
  refine wl rfl (.int .i64 (k : Int)) (w1 := W1) (by go_simp) ?_
  refine wl rfl (.int .i64 (n : Int)) (w1 := W1) rfl ?_
  refine wl rfl (.slice (some ⟨b, k, none⟩) (n - k) (cap - k)) (w1 := W1) (by go_simp) ?_
  refine wl_clear rfl (.tmp 31) 25 rfl (by simp [Act.eval, Act.put]) _ hcl (wpList_nil ?_)
  go_wp2
  all_goals (go_ret; exact ⟨rfl, rfl⟩)
theorem S79 (A : Amb) (n : Nat) : Sound A P cH 79 s79 (F79 n) :=
  delete_sound (T := 25) (tab rfl) rfl (z := (zeroCells tI).getD []) rfl del_eq79 fun w W1 W2 b n cap i j k h1 h2 h3 h4 h5 h6 => del_lt79 w W1 W2 b n cap i j k h1 h2 h3 h4 (by simpa [Ty.size] using h5) (by simpa [Ty.size] using h6)
def s63 : Sig := ⟨[.io (.st (.pair (.st (.pair (.sl .own 32 (.st (.pair tI (.pair .str (.pair tI .unit))))) (.pair tI .unit))) (.pair (.st (.pair tI (.pair tI (.pair tI (.pair (.sl .own 8 tI) .unit))))) (.pair (.st (.pair tI (.pair tI (.pair .str (.pair tI (.pair (.st (.pair tI (.pair tI (.pair .str .unit)))) (.pair tB (.pair tI .unit)))))))) (.pair tI .unit)))))], [.val .err]⟩
/-- (*rabbet/schema.work).drop -/
def F63 (n : Nat) (x : ((List (Int × List Int × Int × Unit) × Int × Unit) × (Int × Int × Int × List Int × Unit) × (Int × Int × List Int × Int × (Int × Int × List Int × Unit) × Int × Int × Unit) × Int × Unit) × Unit) : Option ((UV × Unit) × (((List (Int × List Int × Int × Unit) × Int × Unit) × (Int × Int × Int × List Int × Unit) × (Int × Int × List Int × Int × (Int × Int × List Int × Unit) × Int × Int × Unit) × Int × Unit) × Unit)) :=
  (if (decide ((x.1.1.1.length : Int) = (1:Int))) = true then (some (((UV.node 99 (.pair (.str [116, 104, 101, 32, 99, 111, 108, 117, 109, 110]) (.pair (UV.sent 4) .unit))), ()), (x.1, ()))) else ((F77 n (x.1, ())).bind fun (y1 : (Bool × Unit) × (((List (Int × List Int × Int × Unit) × Int × Unit) × (Int × Int × Int × List Int × Unit) × (Int × Int × List Int × Int × (Int × Int × List Int × Unit) × Int × Int × Unit) × Int × Unit) × Unit)) => (if y1.1.1 = true then (some (((UV.node 99 (.pair (.str [116, 104, 101, 32, 99, 111, 108, 117, 109, 110]) (.pair (UV.sent 4) .unit))), ()), (y1.2.1, ()))) else ((F78 n (y1.2.1.1.1, y1.2.1.2.2.2.1, (IntKind.i64.wrap (y1.2.1.2.2.2.1 + (1:Int))), ())).bind fun (y2 : ((List (Int × List Int × Int × Unit)) × Unit) × (Unit)) => ((F79 n (y1.2.1.2.1.2.2.2.1, y1.2.1.2.2.2.1, (IntKind.i64.wrap (y1.2.1.2.2.2.1 + (1:Int))), ())).bind fun (y3 : (List Int × Unit) × (Unit)) => (some ((UV.nil, ()), (((y2.1.1, y1.2.1.1.2), (y1.2.1.2.1.1, y1.2.1.2.1.2.1, y1.2.1.2.1.2.2.1, y3.1.1, y1.2.1.2.1.2.2.2.2), y1.2.1.2.2), ()))))))))
def h63 : Hints := ⟨[], []⟩
def ft63 (n : Nat) : List (Nat × FEnt) := [(77, ⟨s77, F77 n⟩), (78, ⟨s78, F78 n⟩), (79, ⟨s79, F79 n⟩)]
def c63 (n : Nat) : Ctx := ⟨55, find? tys, find? (ft63 n), gls, [], [], []⟩
theorem e63 (n x) : execFn (c63 n) h63 n Go.Proofs.Tryd.f63 s63 x = F63 n x := by kernel_rfl
theorem fn63 : P.funcs[63]? = some Go.Proofs.Tryd.f63 := by kernel_rfl
theorem call63 : Callable P 63 := callB_ok (by kernel_rfl)
theorem S63 (A : Amb) (n : Nat) : Sound A P (c63 n) 63 s63 (F63 n) :=
  execFn_sound mixed (tab rfl) (ft_all (C := c63 n) (l := ft63 n) rfl ⟨⟨call77, (S77 A n).of rfl⟩, ⟨call78, (S78 A n).of rfl⟩, ⟨call79, (S79 A n).of rfl⟩, trivial⟩) fn63 fun x y h => (e63 n x).trans h
def s64 : Sig := ⟨[.io (.st (.pair (.st (.pair (.sl .own 32 (.st (.pair tI (.pair .str (.pair tI .unit))))) (.pair tI .unit))) (.pair (.st (.pair tI (.pair tI (.pair tI (.pair (.sl .own 8 tI) .unit))))) (.pair (.st (.pair tI (.pair tI (.pair .str (.pair tI (.pair (.st (.pair tI (.pair tI (.pair .str .unit)))) (.pair tB (.pair tI .unit)))))))) (.pair tI .unit)))))], [.val .err]⟩
/-- (*rabbet/schema.work).rename -/
def F64 (n : Nat) (x : ((List (Int × List Int × Int × Unit) × Int × Unit) × (Int × Int × Int × List Int × Unit) × (Int × Int × List Int × Int × (Int × Int × List Int × Unit) × Int × Int × Unit) × Int × Unit) × Unit) : Option ((UV × Unit) × (((List (Int × List Int × Int × Unit) × Int × Unit) × (Int × Int × Int × List Int × Unit) × (Int × Int × List Int × Int × (Int × Int × List Int × Unit) × Int × Int × Unit) × Int × Unit) × Unit)) :=
  ((F75 n (x.1, x.1.2.2.2.1, ())).bind fun (y1 : (UV × Unit) × (((List (Int × List Int × Int × Unit) × Int × Unit) × (Int × Int × Int × List Int × Unit) × (Int × Int × List Int × Int × (Int × Int × List Int × Unit) × Int × Int × Unit) × Int × Unit) × Unit)) => (if (!decide (y1.1.1 = UV.nil)) = true then (some ((y1.1.1, ()), (y1.2.1, ()))) else (atI y1.2.1.2.2.2.1 y1.2.1.1.1.length (some ((UV.nil, ()), ((((y1.2.1.1.1.set y1.2.1.2.2.2.1.toNat ((y1.2.1.1.1.getD y1.2.1.2.2.2.1.toNat ((0:Int), [], (0:Int), ())).1, y1.2.1.2.2.1.2.2.1, ((y1.2.1.1.1.getD y1.2.1.2.2.2.1.toNat ((0:Int), [], (0:Int), ())).2).2)), y1.2.1.1.2), y1.2.1.2), ()))))))
def h64 : Hints := ⟨[], []⟩
def ft64 (n : Nat) : List (Nat × FEnt) := [(75, ⟨s75, F75 n⟩)]
def c64 (n : Nat) : Ctx := ⟨29, find? tys, find? (ft64 n), gls, [], [], []⟩
theorem e64 (n x) : execFn (c64 n) h64 n Go.Proofs.Tryd.f64 s64 x = F64 n x := by kernel_rfl
theorem fn64 : P.funcs[64]? = some Go.Proofs.Tryd.f64 := by kernel_rfl
theorem call64 : Callable P 64 := callB_ok (by kernel_rfl)
theorem S64 (A : Amb) (n : Nat) : Sound A P (c64 n) 64 s64 (F64 n) :=
  execFn_sound mixed (tab rfl) (ft_all (C := c64 n) (l := ft64 n) rfl ⟨⟨call75, (S75 A n).of rfl⟩, trivial⟩) fn64 fun x y h => (e64 n x).trans h
def s65 : Sig := ⟨[.io (.st (.pair (.st (.pair (.sl .own 32 (.st (.pair tI (.pair .str (.pair tI .unit))))) (.pair tI .unit))) (.pair (.st (.pair tI (.pair tI (.pair tI (.pair (.sl .own 8 tI) .unit))))) (.pair (.st (.pair tI (.pair tI (.pair .str (.pair tI (.pair (.st (.pair tI (.pair tI (.pair .str .unit)))) (.pair tB (.pair tI .unit)))))))) (.pair tI .unit)))))], [.val .err]⟩
/-- (*rabbet/schema.work).widen -/
def F65 (n : Nat) (x : ((List (Int × List Int × Int × Unit) × Int × Unit) × (Int × Int × Int × List Int × Unit) × (Int × Int × List Int × Int × (Int × Int × List Int × Unit) × Int × Int × Unit) × Int × Unit) × Unit) : Option ((UV × Unit) × (((List (Int × List Int × Int × Unit) × Int × Unit) × (Int × Int × Int × List Int × Unit) × (Int × Int × List Int × Int × (Int × Int × List Int × Unit) × Int × Int × Unit) × Int × Unit) × Unit)) :=
  (atI x.1.2.2.2.1 x.1.1.1.length (if (decide ((((x.1.1.1.getD x.1.2.2.2.1.toNat ((0:Int), [], (0:Int), ())).2).2).1 = (3:Int))) = true then (some ((UV.nil, ()), ((((x.1.1.1.set x.1.2.2.2.1.toNat ((x.1.1.1.getD x.1.2.2.2.1.toNat ((0:Int), [], (0:Int), ())).1, ((x.1.1.1.getD x.1.2.2.2.1.toNat ((0:Int), [], (0:Int), ())).2).1, (1:Int), (((x.1.1.1.getD x.1.2.2.2.1.toNat ((0:Int), [], (0:Int), ())).2).2).2)), x.1.1.2), x.1.2), ()))) else (if (decide ((((x.1.1.1.getD x.1.2.2.2.1.toNat ((0:Int), [], (0:Int), ())).2).2).1 = (1:Int))) = true then (some ((UV.nil, ()), ((((x.1.1.1.set x.1.2.2.2.1.toNat ((x.1.1.1.getD x.1.2.2.2.1.toNat ((0:Int), [], (0:Int), ())).1, ((x.1.1.1.getD x.1.2.2.2.1.toNat ((0:Int), [], (0:Int), ())).2).1, (2:Int), (((x.1.1.1.getD x.1.2.2.2.1.toNat ((0:Int), [], (0:Int), ())).2).2).2)), x.1.1.2), x.1.2), ()))) else (some (((UV.node 99 (.pair (.str [116, 104, 101, 32, 99, 111, 108, 117, 109, 110]) (.pair (UV.sent 1) .unit))), ()), (x.1, ()))))))
def h65 : Hints := ⟨[], []⟩
def ft65 (n : Nat) : List (Nat × FEnt) := []
def c65 (n : Nat) : Ctx := ⟨29, find? tys, find? (ft65 n), gls, [], [], []⟩
theorem e65 (n x) : execFn (c65 n) h65 n Go.Proofs.Tryd.f65 s65 x = F65 n x := by kernel_rfl
theorem fn65 : P.funcs[65]? = some Go.Proofs.Tryd.f65 := by kernel_rfl
theorem call65 : Callable P 65 := callB_ok (by kernel_rfl)
theorem S65 (A : Amb) (n : Nat) : Sound A P (c65 n) 65 s65 (F65 n) :=
  execFn_sound mixed (tab rfl) (ft_all (C := c65 n) (l := ft65 n) rfl trivial) fn65 fun x y h => (e65 n x).trans h
def s66 : Sig := ⟨[.io (.st (.pair (.st (.pair (.sl .own 32 (.st (.pair tI (.pair .str (.pair tI .unit))))) (.pair tI .unit))) (.pair (.st (.pair tI (.pair tI (.pair tI (.pair (.sl .own 8 tI) .unit))))) (.pair (.st (.pair tI (.pair tI (.pair .str (.pair tI (.pair (.st (.pair tI (.pair tI (.pair .str .unit)))) (.pair tB (.pair tI .unit)))))))) (.pair tI .unit)))))], [.val .err]⟩
/-- (*rabbet/schema.work).split -/
def F66 (n : Nat) (x : ((List (Int × List Int × Int × Unit) × Int × Unit) × (Int × Int × Int × List Int × Unit) × (Int × Int × List Int × Int × (Int × Int × List Int × Unit) × Int × Int × Unit) × Int × Unit) × Unit) : Option ((UV × Unit) × (((List (Int × List Int × Int × Unit) × Int × Unit) × (Int × Int × Int × List Int × Unit) × (Int × Int × List Int × Int × (Int × Int × List Int × Unit) × Int × Int × Unit) × Int × Unit) × Unit)) :=
  (atI x.1.2.2.2.1 x.1.1.1.length (if (!decide ((((x.1.1.1.getD x.1.2.2.2.1.toNat ((0:Int), [], (0:Int), ())).2).2).1 = (4:Int))) = true then (some (((UV.node 99 (.pair (.str [116, 104, 101, 32, 99, 111, 108, 117, 109, 110]) (.pair (UV.sent 1) .unit))), ()), (x.1, ()))) else ((F77 n (x.1, ())).bind fun (y1 : (Bool × Unit) × (((List (Int × List Int × Int × Unit) × Int × Unit) × (Int × Int × Int × List Int × Unit) × (Int × Int × List Int × Int × (Int × Int × List Int × Unit) × Int × Int × Unit) × Int × Unit) × Unit)) => (if y1.1.1 = true then (some (((UV.node 99 (.pair (.str [116, 104, 101, 32, 99, 111, 108, 117, 109, 110]) (.pair (UV.sent 4) .unit))), ()), (y1.2.1, ()))) else ((F75 n (y1.2.1, (-1:Int), ())).bind fun (y2 : (UV × Unit) × (((List (Int × List Int × Int × Unit) × Int × Unit) × (Int × Int × Int × List Int × Unit) × (Int × Int × List Int × Int × (Int × Int × List Int × Unit) × Int × Int × Unit) × Int × Unit) × Unit)) => (if (!decide (y2.1.1 = UV.nil)) = true then (some ((y2.1.1, ()), (y2.2.1, ()))) else ((F76 n (y2.2.1, (IntKind.i64.wrap (y2.2.1.2.2.2.1 + (1:Int))), (4:Int), ())).bind fun (y3 : (UV × Unit) × (((List (Int × List Int × Int × Unit) × Int × Unit) × (Int × Int × Int × List Int × Unit) × (Int × Int × List Int × Int × (Int × Int × List Int × Unit) × Int × Int × Unit) × Int × Unit) × Unit)) => (some ((y3.1.1, ()), (y3.2.1, ()))))))))))
def h66 : Hints := ⟨[], []⟩
def ft66 (n : Nat) : List (Nat × FEnt) := [(75, ⟨s75, F75 n⟩), (76, ⟨s76, F76 n⟩), (77, ⟨s77, F77 n⟩)]
def c66 (n : Nat) : Ctx := ⟨39, find? tys, find? (ft66 n), gls, [], [], []⟩
theorem e66 (n x) : execFn (c66 n) h66 n Go.Proofs.Tryd.f66 s66 x = F66 n x := by kernel_rfl
theorem fn66 : P.funcs[66]? = some Go.Proofs.Tryd.f66 := by kernel_rfl
theorem call66 : Callable P 66 := callB_ok (by kernel_rfl)
theorem S66 (A : Amb) (n : Nat) : Sound A P (c66 n) 66 s66 (F66 n) :=
  execFn_sound mixed (tab rfl) (ft_all (C := c66 n) (l := ft66 n) rfl ⟨⟨call75, (S75 A n).of rfl⟩, ⟨call76, (S76 A n).of rfl⟩, ⟨call77, (S77 A n).of rfl⟩, trivial⟩) fn66 fun x y h => (e66 n x).trans h
def s67 : Sig := ⟨[.io (.st (.pair (.st (.pair (.sl .own 32 (.st (.pair tI (.pair .str (.pair tI .unit))))) (.pair tI .unit))) (.pair (.st (.pair tI (.pair tI (.pair tI (.pair (.sl .own 8 tI) .unit))))) (.pair (.st (.pair tI (.pair tI (.pair .str (.pair tI (.pair (.st (.pair tI (.pair tI (.pair .str .unit)))) (.pair tB (.pair tI .unit)))))))) (.pair tI .unit)))))], [.val .err]⟩
/-- (*rabbet/schema.work).recode -/
def F67 (n : Nat) (x : ((List (Int × List Int × Int × Unit) × Int × Unit) × (Int × Int × Int × List Int × Unit) × (Int × Int × List Int × Int × (Int × Int × List Int × Unit) × Int × Int × Unit) × Int × Unit) × Unit) : Option ((UV × Unit) × (((List (Int × List Int × Int × Unit) × Int × Unit) × (Int × Int × Int × List Int × Unit) × (Int × Int × List Int × Int × (Int × Int × List Int × Unit) × Int × Int × Unit) × Int × Unit) × Unit)) :=
  ((F49 n (x.1.2.2.1.2.2.2.2.2.2.1, ())).bind fun (y1 : (Bool × Unit) × (Unit)) => (if (!y1.1.1) = true then (some (((UV.node 99 (.pair (.str [116, 104, 101, 32, 101, 110, 99, 111, 100, 105, 110, 103]) (.pair (UV.sent 4) .unit))), ()), (x.1, ()))) else (atI x.1.2.2.2.1 x.1.2.1.2.2.2.1.length (some ((UV.nil, ()), ((x.1.1, (x.1.2.1.1, x.1.2.1.2.1, x.1.2.1.2.2.1, (x.1.2.1.2.2.2.1.set x.1.2.2.2.1.toNat x.1.2.2.1.2.2.2.2.2.2.1), x.1.2.1.2.2.2.2), x.1.2.2), ()))))))
def h67 : Hints := ⟨[], []⟩
def ft67 (n : Nat) : List (Nat × FEnt) := [(49, ⟨s49, F49 n⟩)]
def c67 (n : Nat) : Ctx := ⟨28, find? tys, find? (ft67 n), gls, [], [], []⟩
theorem e67 (n x) : execFn (c67 n) h67 n Go.Proofs.Tryd.f67 s67 x = F67 n x := by kernel_rfl
theorem fn67 : P.funcs[67]? = some Go.Proofs.Tryd.f67 := by kernel_rfl
theorem call67 : Callable P 67 := callB_ok (by kernel_rfl)
theorem S67 (A : Amb) (n : Nat) : Sound A P (c67 n) 67 s67 (F67 n) :=
  execFn_sound mixed (tab rfl) (ft_all (C := c67 n) (l := ft67 n) rfl ⟨⟨call49, (S49 A n).of rfl⟩, trivial⟩) fn67 fun x y h => (e67 n x).trans h
def s37 : Sig := ⟨[.io (.st (.pair (.st (.pair (.sl .own 32 (.st (.pair tI (.pair .str (.pair tI .unit))))) (.pair tI .unit))) (.pair (.st (.pair tI (.pair tI (.pair tI (.pair (.sl .own 8 tI) .unit))))) (.pair (.st (.pair tI (.pair tI (.pair .str (.pair tI (.pair (.st (.pair tI (.pair tI (.pair .str .unit)))) (.pair tB (.pair tI .unit)))))))) (.pair tI .unit)))))], [.val .err]⟩
/-- (*rabbet/schema.work).does -/
def F37 (n : Nat) (x : ((List (Int × List Int × Int × Unit) × Int × Unit) × (Int × Int × Int × List Int × Unit) × (Int × Int × List Int × Int × (Int × Int × List Int × Unit) × Int × Int × Unit) × Int × Unit) × Unit) : Option ((UV × Unit) × (((List (Int × List Int × Int × Unit) × Int × Unit) × (Int × Int × Int × List Int × Unit) × (Int × Int × List Int × Int × (Int × Int × List Int × Unit) × Int × Int × Unit) × Int × Unit) × Unit)) :=
  (joinF (fun (s1 : (List (Int × List Int × Int × Unit) × Int × Unit) × (Int × Int × Int × List Int × Unit) × (Int × Int × List Int × Int × (Int × Int × List Int × Unit) × Int × Int × Unit) × Int × Unit) => ((F62 n (s1, ())).bind fun (y3 : (UV × Unit) × (((List (Int × List Int × Int × Unit) × Int × Unit) × (Int × Int × Int × List Int × Unit) × (Int × Int × List Int × Int × (Int × Int × List Int × Unit) × Int × Int × Unit) × Int × Unit) × Unit)) => (if (!decide (y3.1.1 = UV.nil)) = true then (some ((y3.1.1, ()), (y3.2.1, ()))) else (if (decide (y3.2.1.2.2.1.1 = (2:Int))) = true then ((F63 n (y3.2.1, ())).bind fun (y4 : (UV × Unit) × (((List (Int × List Int × Int × Unit) × Int × Unit) × (Int × Int × Int × List Int × Unit) × (Int × Int × List Int × Int × (Int × Int × List Int × Unit) × Int × Int × Unit) × Int × Unit) × Unit)) => (some ((y4.1.1, ()), (y4.2.1, ())))) else (if (decide (y3.2.1.2.2.1.1 = (3:Int))) = true then ((F64 n (y3.2.1, ())).bind fun (y5 : (UV × Unit) × (((List (Int × List Int × Int × Unit) × Int × Unit) × (Int × Int × Int × List Int × Unit) × (Int × Int × List Int × Int × (Int × Int × List Int × Unit) × Int × Int × Unit) × Int × Unit) × Unit)) => (some ((y5.1.1, ()), (y5.2.1, ())))) else (if (decide (y3.2.1.2.2.1.1 = (4:Int))) = true then ((F65 n (y3.2.1, ())).bind fun (y6 : (UV × Unit) × (((List (Int × List Int × Int × Unit) × Int × Unit) × (Int × Int × Int × List Int × Unit) × (Int × Int × List Int × Int × (Int × Int × List Int × Unit) × Int × Int × Unit) × Int × Unit) × Unit)) => (some ((y6.1.1, ()), (y6.2.1, ())))) else (if (decide (y3.2.1.2.2.1.1 = (5:Int))) = true then ((F66 n (y3.2.1, ())).bind fun (y7 : (UV × Unit) × (((List (Int × List Int × Int × Unit) × Int × Unit) × (Int × Int × Int × List Int × Unit) × (Int × Int × List Int × Int × (Int × Int × List Int × Unit) × Int × Int × Unit) × Int × Unit) × Unit)) => (some ((y7.1.1, ()), (y7.2.1, ())))) else ((F67 n (y3.2.1, ())).bind fun (y8 : (UV × Unit) × (((List (Int × List Int × Int × Unit) × Int × Unit) × (Int × Int × Int × List Int × Unit) × (Int × Int × List Int × Int × (Int × Int × List Int × Unit) × Int × Int × Unit) × Int × Unit) × Unit)) => (some ((y8.1.1, ()), (y8.2.1, ()))))))))))) fun J2 => (if (decide (x.1.2.2.1.1 = (1:Int))) = true then ((F60 n (x.1, ())).bind fun (y9 : (UV × Unit) × (((List (Int × List Int × Int × Unit) × Int × Unit) × (Int × Int × Int × List Int × Unit) × (Int × Int × List Int × Int × (Int × Int × List Int × Unit) × Int × Int × Unit) × Int × Unit) × Unit)) => (some ((y9.1.1, ()), (y9.2.1, ())))) else (if (decide (x.1.2.2.1.1 = (6:Int))) = true then ((F46 n (x.1.1, x.1.2.2.1.2.1, true, ())).bind fun (y10 : (Bool × Unit) × (Unit)) => (if (!y10.1.1) = true then (some (((UV.node 99 (.pair (.str [116, 104, 101, 32, 99, 111, 108, 117, 109, 110]) (.pair (UV.sent 0) .unit))), ()), (x.1, ()))) else (some ((UV.nil, ()), ((x.1.1, (x.1.2.2.1.2.1, x.1.2.1.2), x.1.2.2), ()))))) else (if (decide (x.1.2.2.1.1 = (8:Int))) = true then (some ((UV.nil, ()), (x.1, ()))) else (if (decide (x.1.2.2.1.1 = (7:Int))) = true then ((F61 n (x.1, ())).bind fun (y11 : (UV × Unit) × (((List (Int × List Int × Int × Unit) × Int × Unit) × (Int × Int × Int × List Int × Unit) × (Int × Int × List Int × Int × (Int × Int × List Int × Unit) × Int × Int × Unit) × Int × Unit) × Unit)) => (some ((y11.1.1, ()), (y11.2.1, ())))) else (if (decide (x.1.2.2.1.1 = (2:Int))) = true then (J2 x.1) else (if (decide (x.1.2.2.1.1 = (3:Int))) = true then (J2 x.1) else (if (decide (x.1.2.2.1.1 = (4:Int))) = true then (J2 x.1) else (if (decide (x.1.2.2.1.1 = (5:Int))) = true then (J2 x.1) else (if (decide (x.1.2.2.1.1 = (9:Int))) = true then (J2 x.1) else (some (((UV.node 99 (.pair (.str [116, 104, 101, 32, 107, 105, 110, 100]) (.pair (UV.sent 4) .unit))), ()), (x.1, ())))))))))))))
def h37 : Hints := ⟨[], [(36, ⟨[(0, .box (.st (.pair (.st (.pair (.sl .own 32 (.st (.pair tI (.pair .str (.pair tI .unit))))) (.pair tI .unit))) (.pair (.st (.pair tI (.pair tI (.pair tI (.pair (.sl .own 8 tI) .unit))))) (.pair (.st (.pair tI (.pair tI (.pair .str (.pair tI (.pair (.st (.pair tI (.pair tI (.pair .str .unit)))) (.pair tB (.pair tI .unit)))))))) (.pair tI .unit))))))], [], []⟩)]⟩
def ft37 (n : Nat) : List (Nat × FEnt) := [(46, ⟨s46, F46 n⟩), (60, ⟨s60, F60 n⟩), (61, ⟨s61, F61 n⟩), (62, ⟨s62, F62 n⟩), (63, ⟨s63, F63 n⟩), (64, ⟨s64, F64 n⟩), (65, ⟨s65, F65 n⟩), (66, ⟨s66, F66 n⟩), (67, ⟨s67, F67 n⟩)]
def c37 (n : Nat) : Ctx := ⟨81, find? tys, find? (ft37 n), gls, [], [], []⟩
theorem e37 (n x) : execFn (c37 n) h37 n Go.Proofs.Tryd.f37 s37 x = F37 n x := by kernel_rfl
theorem fn37 : P.funcs[37]? = some Go.Proofs.Tryd.f37 := by kernel_rfl
theorem call37 : Callable P 37 := callB_ok (by kernel_rfl)
theorem S37 (A : Amb) (n : Nat) : Sound A P (c37 n) 37 s37 (F37 n) :=
  execFn_sound mixed (tab rfl) (ft_all (C := c37 n) (l := ft37 n) rfl ⟨⟨call46, (S46 A n).of rfl⟩, ⟨call60, (S60 A n).of rfl⟩, ⟨call61, (S61 A n).of rfl⟩, ⟨call62, (S62 A n).of rfl⟩, ⟨call63, (S63 A n).of rfl⟩, ⟨call64, (S64 A n).of rfl⟩, ⟨call65, (S65 A n).of rfl⟩, ⟨call66, (S66 A n).of rfl⟩, ⟨call67, (S67 A n).of rfl⟩, trivial⟩) fn37 fun x y h => (e37 n x).trans h
def s13 : Sig := ⟨[.val (.st (.pair (.sl .imm 32 (.st (.pair tI (.pair .str (.pair tI .unit))))) (.pair tI .unit))), .val (.st (.pair tI (.pair tI (.pair tI (.pair (.sl .imm 8 tI) .unit))))), .val (.st (.pair tI (.pair tI (.pair .str (.pair tI (.pair (.st (.pair tI (.pair tI (.pair .str .unit)))) (.pair tB (.pair tI .unit))))))))], [.val (.st (.pair (.sl .imm 32 (.st (.pair tI (.pair .str (.pair tI .unit))))) (.pair tI .unit))), .val (.st (.pair tI (.pair tI (.pair tI (.pair (.sl .imm 8 tI) .unit))))), .val tI]⟩
/-- rabbet/schema.Apply -/
def F13 (n : Nat) (x : (List (Int × List Int × Int × Unit) × Int × Unit) × (Int × Int × Int × List Int × Unit) × (Int × Int × List Int × Int × (Int × Int × List Int × Unit) × Int × Int × Unit) × Unit) : Option (((List (Int × List Int × Int × Unit) × Int × Unit) × (Int × Int × Int × List Int × Unit) × Int × Unit) × (Unit)) :=
  ((F17 n (x.1, ())).bind fun (y1 : (Bool × Unit) × (Unit)) => (if (!y1.1.1) = true then (some ((([], (0:Int), ()), ((0:Int), (0:Int), (0:Int), [], ()), (1:Int), ()), ())) else ((F19 n (x.1, x.2.1, ())).bind fun (y2 : (Bool × Unit) × (Unit)) => (if (!y2.1.1) = true then (some ((([], (0:Int), ()), ((0:Int), (0:Int), (0:Int), [], ()), (1:Int), ()), ())) else ((F34 n (x.1.1, ())).bind fun (y3 : ((List (Int × List Int × Int × Unit)) × Unit) × (Unit)) => ((F35 n (x.2.1.2.2.2.1, ())).bind fun (y4 : (List Int × Unit) × (Unit)) => (joinF (fun (s5 : (List (Int × List Int × Int × Unit) × Int × Unit) × (Int × Int × Int × List Int × Unit) × (List (Int × List Int × Int × Unit) × Int × Unit) × (Int × Int × Int × List Int × Unit) × (Int × Int × List Int × Int × (Int × Int × List Int × Unit) × Int × Int × Unit) × Int × Unit) => (some ((s5.2.2.1, s5.2.2.2.1, (0:Int), ()), ()))) fun J6 => ((F37 n (((y3.1.1, x.1.2), (x.2.1.1, x.2.1.2.1, x.2.1.2.2.1, y4.1.1, x.2.1.2.2.2.2), x.2.2.1, (0:Int), ()), ())).bind fun (y7 : (UV × Unit) × (((List (Int × List Int × Int × Unit) × Int × Unit) × (Int × Int × Int × List Int × Unit) × (Int × Int × List Int × Int × (Int × Int × List Int × Unit) × Int × Int × Unit) × Int × Unit) × Unit)) => ((F36 n (y7.1.1, ())).bind fun (y8 : (Int × Unit) × (Unit)) => (if (!decide (y8.1.1 = (0:Int))) = true then (some ((([], (0:Int), ()), ((0:Int), (0:Int), (0:Int), [], ()), y8.1.1, ()), ())) else (J6 (([], (0:Int), ()), ((0:Int), (0:Int), (0:Int), [], ()), y7.2.1))))))))))))
def h13 : Hints := ⟨[], [(16, ⟨[(6, .box (.st (.pair (.sl .own 32 (.st (.pair tI (.pair .str (.pair tI .unit))))) (.pair tI .unit)))), (7, .box (.st (.pair tI (.pair tI (.pair tI (.pair (.sl .own 8 tI) .unit)))))), (9, .pv (.st (.pair (.st (.pair (.sl .imm 32 (.st (.pair tI (.pair .str (.pair tI .unit))))) (.pair tI .unit))) (.pair (.st (.pair tI (.pair tI (.pair tI (.pair (.sl .imm 8 tI) .unit))))) (.pair (.st (.pair tI (.pair tI (.pair .str (.pair tI (.pair (.st (.pair tI (.pair tI (.pair .str .unit)))) (.pair tB (.pair tI .unit)))))))) (.pair tI .unit))))))], [], []⟩)]⟩
def ft13 (n : Nat) : List (Nat × FEnt) := [(17, ⟨s17, F17 n⟩), (19, ⟨s19, F19 n⟩), (34, ⟨s34, F34 n⟩), (35, ⟨s35, F35 n⟩), (36, ⟨s36, F36 n⟩), (37, ⟨s37, F37 n⟩)]
def c13 (n : Nat) : Ctx := ⟨51, find? tys, find? (ft13 n), gls, [], [5], []⟩
theorem e13 (n x) : execFn (c13 n) h13 n Go.Proofs.Tryd.f13 s13 x = F13 n x := by kernel_rfl
theorem fn13 : P.funcs[13]? = some Go.Proofs.Tryd.f13 := by kernel_rfl
theorem call13 : Callable P 13 := callB_ok (by kernel_rfl)
theorem S13 (A : Amb) (hA : HA A) (n : Nat) : Sound A P (c13 n) 13 s13 (F13 n) :=
  execFn_sound mixed (tab rfl) (ft_all (C := c13 n) (l := ft13 n) rfl ⟨⟨call17, (S17 A n).of rfl⟩, ⟨call19, (S19 A n).of rfl⟩, ⟨call34, (S34 A n).of rfl⟩, ⟨call35, (S35 A n).of rfl⟩, ⟨call36, (S36 A hA n).of rfl⟩, ⟨call37, (S37 A n).of rfl⟩, trivial⟩) fn13 fun x y h => (e13 n x).trans h
def s53 : Sig := ⟨[.val (.sl .imm 32 (.st (.pair tI (.pair .str (.pair tI .unit))))), .val (.sl .imm 32 (.st (.pair tI (.pair tI (.pair .str .unit))))), .val (.fn2 (.st (.pair tI (.pair .str (.pair tI .unit)))) (.st (.pair tI (.pair tI (.pair .str .unit)))) .bool)], [.val .bool]⟩
/-- slices.EqualFunc[[]rabbet/api.Column,rabbet/api.Row,rabbet/api.Column,rabbet/api.Value] -/
def F53 (n : Nat) (x : (List (Int × List Int × Int × Unit)) × (List (Int × Int × List Int × Unit)) × (((Int × List Int × Int × Unit) → (Int × Int × List Int × Unit) → Option (Bool))) × Unit) : Option ((Bool × Unit) × (Unit)) :=
  (if (!decide ((x.1.length : Int) = (x.2.1.length : Int))) = true then (some ((false, ()), ())) else (iterF (fun rec2 (s1 : Int) => (if (decide (s1 < (x.1.length : Int))) = true then (atI s1 x.1.length (atI s1 x.2.1.length ((x.2.2.1 (x.1.getD s1.toNat ((0:Int), [], (0:Int), ())) (x.2.1.getD s1.toNat ((0:Int), (0:Int), [], ()))).bind fun y3 => (if (!y3) = true then (some ((false, ()), ())) else (rec2 (IntKind.i64.wrap (s1 + (1:Int)))))))) else (some ((true, ()), ())))) n (0:Int)))
def h53 : Hints := ⟨[(0, ⟨[(17, .val tI)], [1, 2, 15, 16], []⟩)], []⟩
def ft53 (n : Nat) : List (Nat × FEnt) := []
def c53 (n : Nat) : Ctx := ⟨32, find? tys, find? (ft53 n), gls, [], [], []⟩
theorem e53 (n x) : execFn (c53 n) h53 n Go.Proofs.Tryd.f53 s53 x = F53 n x := by kernel_rfl
theorem fn53 : P.funcs[53]? = some Go.Proofs.Tryd.f53 := by kernel_rfl
theorem call53 : Callable P 53 := callB_ok (by kernel_rfl)
theorem S53 (A : Amb) (n : Nat) : Sound A P (c53 n) 53 s53 (F53 n) :=
  execFn_sound mixed (tab rfl) (ft_all (C := c53 n) (l := ft53 n) rfl trivial) fn53 fun x y h => (e53 n x).trans h
def s54 : Sig := ⟨[.val (.st (.pair tI (.pair .str (.pair tI .unit)))), .val (.st (.pair tI (.pair tI (.pair .str .unit))))], [.val .bool]⟩
/-- rabbet/schema.Fits$1 -/
def F54 (n : Nat) (x : (Int × List Int × Int × Unit) × (Int × Int × List Int × Unit) × Unit) : Option ((Bool × Unit) × (Unit)) :=
  ((F55 n (x.1.2.2.1, x.2.1, ())).bind fun (y1 : (Bool × Unit) × (Unit)) => (some ((y1.1.1, ()), ())))
def h54 : Hints := ⟨[], []⟩
def ft54 (n : Nat) : List (Nat × FEnt) := [(55, ⟨s55, F55 n⟩)]
def c54 (n : Nat) : Ctx := ⟨9, find? tys, find? (ft54 n), gls, [], [2, 3], []⟩
theorem e54 (n x) : execFn (c54 n) h54 n Go.Proofs.Tryd.f54 s54 x = F54 n x := by kernel_rfl
theorem fn54 : P.funcs[54]? = some Go.Proofs.Tryd.f54 := by kernel_rfl
theorem call54 : Callable P 54 := callB_ok (by kernel_rfl)
theorem S54 (A : Amb) (n : Nat) : Sound A P (c54 n) 54 s54 (F54 n) :=
  execFn_sound mixed (tab rfl) (ft_all (C := c54 n) (l := ft54 n) rfl ⟨⟨call55, (S55 A n).of rfl⟩, trivial⟩) fn54 fun x y h => (e54 n x).trans h
def s25 : Sig := ⟨[.val (.st (.pair (.sl .imm 32 (.st (.pair tI (.pair .str (.pair tI .unit))))) (.pair tI .unit))), .val (.sl .imm 32 (.st (.pair tI (.pair tI (.pair .str .unit)))))], [.val .bool]⟩
/-- rabbet/schema.Fits -/
def F25 (n : Nat) (x : (List (Int × List Int × Int × Unit) × Int × Unit) × (List (Int × Int × List Int × Unit)) × Unit) : Option ((Bool × Unit) × (Unit)) :=
  ((F53 n (x.1.1, x.2.1, (fun c d => (F54 n (c, d, ())).bind fun r => some r.1.1), ())).bind fun (y1 : (Bool × Unit) × (Unit)) => (some ((y1.1.1, ()), ())))
def h25 : Hints := ⟨[], []⟩
def ft25 (n : Nat) : List (Nat × FEnt) := [(53, ⟨s53, F53 n⟩), (54, ⟨s54, F54 n⟩)]
def c25 (n : Nat) : Ctx := ⟨9, find? tys, find? (ft25 n), gls, [], [2], []⟩
theorem e25 (n x) : execFn (c25 n) h25 n Go.Proofs.Tryd.f25 s25 x = F25 n x := by kernel_rfl
theorem fn25 : P.funcs[25]? = some Go.Proofs.Tryd.f25 := by kernel_rfl
theorem call25 : Callable P 25 := callB_ok (by kernel_rfl)
theorem S25 (A : Amb) (n : Nat) : Sound A P (c25 n) 25 s25 (F25 n) :=
  execFn_sound mixed (tab rfl) (ft_all (C := c25 n) (l := ft25 n) rfl ⟨⟨call53, (S53 A n).of rfl⟩, ⟨call54, (S54 A n).of rfl⟩, trivial⟩) fn25 fun x y h => (e25 n x).trans h
def s8 : Sig := ⟨[], [.val .bool]⟩
/-- rabbet/rabbetlaw15.begun -/
def F8 (n : Nat) (x : Unit) : Option ((Bool × Unit) × (Unit)) :=
  ((F13 n ((([((1:Int), [97], (2:Int), ())] : List (Int × List Int × Int × Unit)), (1:Int), ()), ((0:Int), (0:Int), (1:Int), [(1:Int)], ()), ((1:Int), (0:Int), [98], (4:Int), ((0:Int), (0:Int), [], ()), (0:Int), (0:Int), ()), ())).bind fun (y1 : ((List (Int × List Int × Int × Unit) × Int × Unit) × (Int × Int × Int × List Int × Unit) × Int × Unit) × (Unit)) => ((F21 n (y1.1.1, [98], ())).bind fun (y2 : (Int × Bool × Unit) × (Unit)) => ((F23 n (y1.1.1, (2:Int), ())).bind fun (y3 : (Int × Bool × Unit) × (Unit)) => ((F13 n ((([((1:Int), [97], (2:Int), ())] : List (Int × List Int × Int × Unit)), (1:Int), ()), ((0:Int), (0:Int), (1:Int), [(1:Int)], ()), ((2:Int), (1:Int), [], (0:Int), ((0:Int), (0:Int), [], ()), (0:Int), (0:Int), ()), ())).bind fun (y4 : ((List (Int × List Int × Int × Unit) × Int × Unit) × (Int × Int × Int × List Int × Unit) × Int × Unit) × (Unit)) => ((F17 n ((([((1:Int), [97], (2:Int), ())] : List (Int × List Int × Int × Unit)), (1:Int), ()), ())).bind fun (y5 : (Bool × Unit) × (Unit)) => (if y5.1.1 = true then ((F19 n ((([((1:Int), [97], (2:Int), ())] : List (Int × List Int × Int × Unit)), (1:Int), ()), ((0:Int), (0:Int), (1:Int), [(1:Int)], ()), ())).bind fun (y6 : (Bool × Unit) × (Unit)) => (if y6.1.1 = true then ((F27 n ([97], ())).bind fun (y7 : (Bool × Unit) × (Unit)) => (if y7.1.1 = true then (if (decide (y1.1.2.2.1 = (0:Int))) = true then (if (decide ((y1.1.2.1.2.2.2.1.length : Int) = (2:Int))) = true then (if y2.1.2.1 = true then (if (decide (y2.1.1 = (1:Int))) = true then (if y3.1.2.1 = true then (if (decide (y3.1.1 = (1:Int))) = true then (if (decide (y4.1.2.2.1 = (1:Int))) = true then ((F25 n ((([((1:Int), [97], (2:Int), ())] : List (Int × List Int × Int × Unit)), (1:Int), ()), ([((0:Int), (0:Int), [], ())] : List (Int × Int × List Int × Unit)), ())).bind fun (y8 : (Bool × Unit) × (Unit)) => (if y8.1.1 = true then ((F25 n ((([((1:Int), [97], (2:Int), ())] : List (Int × List Int × Int × Unit)), (1:Int), ()), [], ())).bind fun (y9 : (Bool × Unit) × (Unit)) => (some (((!y9.1.1), ()), ()))) else (some ((false, ()), ())))) else (some ((false, ()), ()))) else (some ((false, ()), ()))) else (some ((false, ()), ()))) else (some ((false, ()), ()))) else (some ((false, ()), ()))) else (some ((false, ()), ()))) else (some ((false, ()), ()))) else (some ((false, ()), ())))) else (some ((false, ()), ())))) else (some ((false, ()), ()))))))))
def h8 : Hints := ⟨[], []⟩
def ft8 (n : Nat) : List (Nat × FEnt) := [(13, ⟨s13, F13 n⟩), (17, ⟨s17, F17 n⟩), (19, ⟨s19, F19 n⟩), (21, ⟨s21, F21 n⟩), (23, ⟨s23, F23 n⟩), (25, ⟨s25, F25 n⟩), (27, ⟨s27, F27 n⟩)]
def c8 (n : Nat) : Ctx := ⟨93, find? tys, find? (ft8 n), gls, [], [], []⟩
theorem e8 (n x) : execFn (c8 n) h8 n Go.Proofs.Tryd.f8 s8 x = F8 n x := by kernel_rfl
theorem fn8 : P.funcs[8]? = some Go.Proofs.Tryd.f8 := by kernel_rfl
theorem call8 : Callable P 8 := callB_ok (by kernel_rfl)
theorem S8 (A : Amb) (hA : HA A) (n : Nat) : Sound A P (c8 n) 8 s8 (F8 n) :=
  execFn_sound mixed (tab rfl) (ft_all (C := c8 n) (l := ft8 n) rfl ⟨⟨call13, (S13 A hA n).of rfl⟩, ⟨call17, (S17 A n).of rfl⟩, ⟨call19, (S19 A n).of rfl⟩, ⟨call21, (S21 A n).of rfl⟩, ⟨call23, (S23 A n).of rfl⟩, ⟨call25, (S25 A n).of rfl⟩, ⟨call27, (S27 A n).of rfl⟩, trivial⟩) fn8 fun x y h => (e8 n x).trans h
def s9 : Sig := ⟨[.val (.st (.pair (.sl .imm 32 (.st (.pair tI (.pair .str (.pair tI .unit))))) (.pair tI .unit))), .val (.st (.pair tI (.pair tI (.pair tI (.pair (.sl .imm 8 tI) .unit)))))], [.val .bool]⟩
/-- rabbet/rabbetlaw15.Light -/
def F9 (n : Nat) (x : (List (Int × List Int × Int × Unit) × Int × Unit) × (Int × Int × Int × List Int × Unit) × Unit) : Option ((Bool × Unit) × (Unit)) :=
  (iterF (fun rec2 (s1 : Int) => (if (decide (s1 < (x.1.1.length : Int))) = true then (atI s1 x.1.1.length (if (decide ((30:Int) < ((((x.1.1.getD s1.toNat ((0:Int), [], (0:Int), ())).2).1).length : Int))) = true then (some ((false, ()), ())) else (rec2 (IntKind.i64.wrap (s1 + (1:Int)))))) else (if (decide ((x.1.1.length : Int) ≤ (9:Int))) = true then (some (((decide ((x.2.1.2.2.2.1.length : Int) ≤ (9:Int))), ()), ())) else (some ((false, ()), ()))))) n (0:Int))
def h9 : Hints := ⟨[(0, ⟨[(5, .val tI)], [2, 3], []⟩)], []⟩
def ft9 (n : Nat) : List (Nat × FEnt) := []
def c9 (n : Nat) : Ctx := ⟨31, find? tys, find? (ft9 n), gls, [], [2, 3], []⟩
theorem e9 (n x) : execFn (c9 n) h9 n Go.Proofs.Tryd.f9 s9 x = F9 n x := by kernel_rfl
theorem fn9 : P.funcs[9]? = some Go.Proofs.Tryd.f9 := by kernel_rfl
theorem call9 : Callable P 9 := callB_ok (by kernel_rfl)
theorem S9 (A : Amb) (n : Nat) : Sound A P (c9 n) 9 s9 (F9 n) :=
  execFn_sound mixed (tab rfl) (ft_all (C := c9 n) (l := ft9 n) rfl trivial) fn9 fun x y h => (e9 n x).trans h
def s10 : Sig := ⟨[.val (.sl .imm 1 tB)], [.box (.st (.pair (.sl .imm 1 tB) (.pair tI .unit)))]⟩
/-- rabbet/rabbetplay.Made -/
def F10 (n : Nat) (x : List Int × Unit) : Option (((List Int × Int × Unit) × Unit) × (Unit)) :=
  (some (((x.1, (0:Int), ()), ()), ()))
def h10 : Hints := ⟨[], []⟩
def ft10 (n : Nat) : List (Nat × FEnt) := []
def c10 (n : Nat) : Ctx := ⟨6, find? tys, find? (ft10 n), gls, [], [], []⟩
theorem e10 (n x) : execFn (c10 n) h10 n Go.Proofs.Tryd.f10 s10 x = F10 n x := by kernel_rfl
theorem fn10 : P.funcs[10]? = some Go.Proofs.Tryd.f10 := by kernel_rfl
theorem call10 : Callable P 10 := callB_ok (by kernel_rfl)
theorem S10 (A : Amb) (n : Nat) : Sound A P (c10 n) 10 s10 (F10 n) :=
  execFn_sound mixed (tab rfl) (ft_all (C := c10 n) (l := ft10 n) rfl trivial) fn10 fun x y h => (e10 n x).trans h
def s31 : Sig := ⟨[.io (.st (.pair (.sl .imm 1 tB) (.pair tI .unit))), .val tI], [.val tI]⟩
/-- (*rabbet/rabbetplay.Picks).Num -/
def F31 (n : Nat) (x : (List Int × Int × Unit) × Int × Unit) : Option ((Int × Unit) × ((List Int × Int × Unit) × Unit)) :=
  (if (decide ((x.1.1.length : Int) ≤ x.1.2.1)) = true then (some (((0:Int), ()), (x.1, ()))) else (atI (IntKind.i64.wrap ((IntKind.i64.wrap (x.1.2.1 + (1:Int))) - (1:Int))) x.1.1.length (if x.2.1 = 0 then none else (some ((((IntKind.i64.wrap (x.1.1.getD (IntKind.i64.wrap ((IntKind.i64.wrap (x.1.2.1 + (1:Int))) - (1:Int))).toNat (0:Int))).tmod x.2.1), ()), ((x.1.1, (IntKind.i64.wrap (x.1.2.1 + (1:Int))), x.1.2.2), ()))))))
def h31 : Hints := ⟨[], []⟩
def ft31 (n : Nat) : List (Nat × FEnt) := []
def c31 (n : Nat) : Ctx := ⟨36, find? tys, find? (ft31 n), gls, [], [], []⟩
theorem e31 (n x) : execFn (c31 n) h31 n Go.Proofs.Tryd.f31 s31 x = F31 n x := by kernel_rfl
theorem fn31 : P.funcs[31]? = some Go.Proofs.Tryd.f31 := by kernel_rfl
theorem call31 : Callable P 31 := callB_ok (by kernel_rfl)
theorem S31 (A : Amb) (n : Nat) : Sound A P (c31 n) 31 s31 (F31 n) :=
  execFn_sound mixed (tab rfl) (ft_all (C := c31 n) (l := ft31 n) rfl trivial) fn31 fun x y h => (e31 n x).trans h
def s11 : Sig := ⟨[.io (.st (.pair (.sl .imm 1 tB) (.pair tI .unit)))], [.val (.st (.pair (.sl .imm 32 (.st (.pair tI (.pair .str (.pair tI .unit))))) (.pair tI .unit))), .val (.st (.pair tI (.pair tI (.pair tI (.pair (.sl .imm 8 tI) .unit)))))]⟩
/-- (*rabbet/rabbetplay.Picks).Schema -/
def F11 (n : Nat) (x : (List Int × Int × Unit) × Unit) : Option (((List (Int × List Int × Int × Unit) × Int × Unit) × (Int × Int × Int × List Int × Unit) × Unit) × ((List Int × Int × Unit) × Unit)) :=
  ((F31 n (x.1, (4:Int), ())).bind fun (y1 : (Int × Unit) × ((List Int × Int × Unit) × Unit)) => ((F31 n (y1.2.1, (3:Int), ())).bind fun (y2 : (Int × Unit) × ((List Int × Int × Unit) × Unit)) => (iterF (fun rec4 (s3 : (List Int × Int × Unit) × (List (Int × List Int × Int × Unit) × Int × Unit) × Int) => (if (decide ((0:Int) < s3.2.2)) = true then (if [99].length + [(IntKind.u8.wrap (IntKind.i64.wrap ((97:Int) + s3.2.2)))].length ≤ 140737488355328 then ((F31 n (s3.1, (4:Int), ())).bind fun (y5 : (Int × Unit) × ((List Int × Int × Unit) × Unit)) => (if (s3.2.1.1.length + ([((IntKind.i64.wrap (s3.2.1.2.1 + (1:Int))), ([99] ++ [(IntKind.u8.wrap (IntKind.i64.wrap ((97:Int) + s3.2.2)))]), (IntKind.i64.wrap ((1:Int) + y5.1.1)), ())] : List (Int × List Int × Int × Unit)).length) * 32 ≤ room then (rec4 (y5.2.1, ((s3.2.1.1 ++ ([((IntKind.i64.wrap (s3.2.1.2.1 + (1:Int))), ([99] ++ [(IntKind.u8.wrap (IntKind.i64.wrap ((97:Int) + s3.2.2)))]), (IntKind.i64.wrap ((1:Int) + y5.1.1)), ())] : List (Int × List Int × Int × Unit))), (IntKind.i64.wrap (s3.2.1.2.1 + (1:Int))), s3.2.1.2.2), (IntKind.i64.wrap (s3.2.2 - (1:Int))))) else none)) else none) else (iterF (fun rec7 (s6 : (List Int × Int × Unit) × (List (Int × List Int × Int × Unit) × Int × Unit) × (Int × Int × Int × List Int × Unit) × Int) => (if (decide (s6.2.2.2 < (s6.2.1.1.length : Int))) = true then ((F31 n (s6.1, (5:Int), ())).bind fun (y8 : (Int × Unit) × ((List Int × Int × Unit) × Unit)) => (if (s6.2.2.1.2.2.2.1.length + [(IntKind.i64.wrap ((1:Int) + y8.1.1))].length) * 8 ≤ room then (rec7 (y8.2.1, s6.2.1, (s6.2.2.1.1, s6.2.2.1.2.1, s6.2.2.1.2.2.1, (s6.2.2.1.2.2.2.1 ++ [(IntKind.i64.wrap ((1:Int) + y8.1.1))]), s6.2.2.1.2.2.2.2), (IntKind.i64.wrap (s6.2.2.2 + (1:Int))))) else none)) else (joinF (fun (s9 : (List Int × Int × Unit) × (List (Int × List Int × Int × Unit) × Int × Unit) × Int × Int × Int × List Int × Unit) => ((F31 n (s9.1, (2:Int), ())).bind fun (y11 : (Int × Unit) × ((List Int × Int × Unit) × Unit)) => (if (decide (y11.1.1 = (1:Int))) = true then ((F31 n (y11.2.1, (s9.2.1.1.length : Int), ())).bind fun (y12 : (Int × Unit) × ((List Int × Int × Unit) × Unit)) => ((F31 n (y12.2.1, (4:Int), ())).bind fun (y13 : (Int × Unit) × ((List Int × Int × Unit) × Unit)) => (some ((s9.2.1, (s9.2.2.1, (IntKind.i64.wrap ((1:Int) + y12.1.1)), (IntKind.i64.wrap ((1:Int) + y13.1.1)), s9.2.2.2.2.2), ()), (y13.2.1, ()))))) else (some ((s9.2.1, s9.2.2, ()), (y11.2.1, ())))))) fun J10 => ((F31 n (s6.1, (2:Int), ())).bind fun (y14 : (Int × Unit) × ((List Int × Int × Unit) × Unit)) => (if (decide (y14.1.1 = (1:Int))) = true then ((F31 n (y14.2.1, (s6.2.1.1.length : Int), ())).bind fun (y15 : (Int × Unit) × ((List Int × Int × Unit) × Unit)) => (J10 (y15.2.1, s6.2.1, (IntKind.i64.wrap ((1:Int) + y15.1.1)), s6.2.2.1.2))) else (J10 (y14.2.1, s6.2.1, s6.2.2.1))))))) n (s3.1, s3.2.1, ((0:Int), (0:Int), (1:Int), [], ()), (0:Int))))) n (y2.2.1, (([((1:Int), [105, 100], (IntKind.i64.wrap ((1:Int) + y1.1.1)), ()), ((2:Int), [116], (4:Int), ())] : List (Int × List Int × Int × Unit)), (2:Int), ()), y2.1.1))))
def h11 : Hints := ⟨[(0, ⟨[(0, .box (.st (.pair (.sl .imm 1 tB) (.pair tI .unit)))), (4, .box (.st (.pair (.sl .own 32 (.st (.pair tI (.pair .str (.pair tI .unit))))) (.pair tI .unit)))), (5, .val tI)], [], [2, 3]⟩), (2, ⟨[(0, .box (.st (.pair (.sl .imm 1 tB) (.pair tI .unit)))), (4, .box (.st (.pair (.sl .own 32 (.st (.pair tI (.pair .str (.pair tI .unit))))) (.pair tI .unit)))), (6, .box (.st (.pair tI (.pair tI (.pair tI (.pair (.sl .own 8 tI) .unit)))))), (7, .val tI)], [], [2, 3]⟩)], [(28, ⟨[(0, .box (.st (.pair (.sl .imm 1 tB) (.pair tI .unit)))), (4, .box (.st (.pair (.sl .own 32 (.st (.pair tI (.pair .str (.pair tI .unit))))) (.pair tI .unit)))), (6, .box (.st (.pair tI (.pair tI (.pair tI (.pair (.sl .own 8 tI) .unit))))))], [], [2, 3]⟩)]⟩
def ft11 (n : Nat) : List (Nat × FEnt) := [(31, ⟨s31, F31 n⟩)]
def c11 (n : Nat) : Ctx := ⟨84, find? tys, find? (ft11 n), gls, [], [], []⟩
theorem e11 (n x) : execFn (c11 n) h11 n Go.Proofs.Tryd.f11 s11 x = F11 n x := by kernel_rfl
theorem fn11 : P.funcs[11]? = some Go.Proofs.Tryd.f11 := by kernel_rfl
theorem call11 : Callable P 11 := callB_ok (by kernel_rfl)
theorem S11 (A : Amb) (n : Nat) : Sound A P (c11 n) 11 s11 (F11 n) :=
  execFn_sound mixed (tab rfl) (ft_all (C := c11 n) (l := ft11 n) rfl ⟨⟨call31, (S31 A n).of rfl⟩, trivial⟩) fn11 fun x y h => (e11 n x).trans h
def s32 : Sig := ⟨[.io (.st (.pair (.sl .imm 1 tB) (.pair tI .unit))), .val (.st (.pair (.sl .imm 32 (.st (.pair tI (.pair .str (.pair tI .unit))))) (.pair tI .unit)))], [.val tI]⟩
/-- (*rabbet/rabbetplay.Picks).col -/
def F32 (n : Nat) (x : (List Int × Int × Unit) × (List (Int × List Int × Int × Unit) × Int × Unit) × Unit) : Option ((Int × Unit) × ((List Int × Int × Unit) × Unit)) :=
  ((F31 n (x.1, (x.2.1.1.length : Int), ())).bind fun (y1 : (Int × Unit) × ((List Int × Int × Unit) × Unit)) => (atI y1.1.1 x.2.1.1.length (some (((x.2.1.1.getD y1.1.1.toNat ((0:Int), [], (0:Int), ())).1, ()), (y1.2.1, ())))))
def h32 : Hints := ⟨[], []⟩
def ft32 (n : Nat) : List (Nat × FEnt) := [(31, ⟨s31, F31 n⟩)]
def c32 (n : Nat) : Ctx := ⟨15, find? tys, find? (ft32 n), gls, [], [3], []⟩
theorem e32 (n x) : execFn (c32 n) h32 n Go.Proofs.Tryd.f32 s32 x = F32 n x := by kernel_rfl
theorem fn32 : P.funcs[32]? = some Go.Proofs.Tryd.f32 := by kernel_rfl
theorem call32 : Callable P 32 := callB_ok (by kernel_rfl)
theorem S32 (A : Amb) (n : Nat) : Sound A P (c32 n) 32 s32 (F32 n) :=
  execFn_sound mixed (tab rfl) (ft_all (C := c32 n) (l := ft32 n) rfl ⟨⟨call31, (S31 A n).of rfl⟩, trivial⟩) fn32 fun x y h => (e32 n x).trans h
def s30 : Sig := ⟨[.io (.st (.pair (.sl .imm 1 tB) (.pair tI .unit)))], [.val .bool]⟩
/-- (*rabbet/rabbetplay.Picks).Over -/
def F30 (n : Nat) (x : (List Int × Int × Unit) × Unit) : Option ((Bool × Unit) × ((List Int × Int × Unit) × Unit)) :=
  (some (((decide ((x.1.1.length : Int) ≤ x.1.2.1)), ()), (x.1, ())))
def h30 : Hints := ⟨[], []⟩
def ft30 (n : Nat) : List (Nat × FEnt) := []
def c30 (n : Nat) : Ctx := ⟨13, find? tys, find? (ft30 n), gls, [], [], []⟩
theorem e30 (n x) : execFn (c30 n) h30 n Go.Proofs.Tryd.f30 s30 x = F30 n x := by kernel_rfl
theorem fn30 : P.funcs[30]? = some Go.Proofs.Tryd.f30 := by kernel_rfl
theorem call30 : Callable P 30 := callB_ok (by kernel_rfl)
theorem S30 (A : Amb) (n : Nat) : Sound A P (c30 n) 30 s30 (F30 n) :=
  execFn_sound mixed (tab rfl) (ft_all (C := c30 n) (l := ft30 n) rfl trivial) fn30 fun x y h => (e30 n x).trans h
def s33 : Sig := ⟨[.io (.st (.pair (.sl .imm 1 tB) (.pair tI .unit))), .val tI], [.val (.st (.pair tI (.pair tI (.pair .str .unit))))]⟩
/-- (*rabbet/rabbetplay.Picks).Value -/
def F33 (n : Nat) (x : (List Int × Int × Unit) × Int × Unit) : Option (((Int × Int × List Int × Unit) × Unit) × ((List Int × Int × Unit) × Unit)) :=
  ((F31 n (x.1, (9:Int), ())).bind fun (y1 : (Int × Unit) × ((List Int × Int × Unit) × Unit)) => (joinF (fun (s2 : (List Int × Int × Unit) × Int × Int × List Int × Unit) => (if (decide (x.2.1 = (1:Int))) = true then (atI y1.1.1 ([(0:Int), (1:Int), (2:Int), (3:Int), (-1:Int), (100:Int), (-32768:Int), (32767:Int), (5:Int)].length) (some (((x.2.1, ([(0:Int), (1:Int), (2:Int), (3:Int), (-1:Int), (100:Int), (-32768:Int), (32767:Int), (5:Int)].getD y1.1.1.toNat (0:Int)), [], ()), ()), (s2.1, ())))) else (if (decide (x.2.1 = (2:Int))) = true then (atI y1.1.1 ([(0:Int), (1:Int), (2:Int), (3:Int), (-1:Int), (1000000:Int), (-9223372036854775808:Int), (9223372036854775807:Int), (4611686018427387904:Int)].length) (some (((x.2.1, ([(0:Int), (1:Int), (2:Int), (3:Int), (-1:Int), (1000000:Int), (-9223372036854775808:Int), (9223372036854775807:Int), (4611686018427387904:Int)].getD y1.1.1.toNat (0:Int)), [], ()), ()), (s2.1, ())))) else (if (decide (x.2.1 = (3:Int))) = true then (some (((x.2.1, (y1.1.1.tmod (2:Int)), [], ()), ()), (s2.1, ()))) else (atI y1.1.1 (([[], [97], [98], [97, 58, 98], [97, 98], [120, 58, 121, 58, 122], [58], [116, 119, 101, 110, 116, 121, 45, 98, 121, 116, 101, 115, 45, 111, 102, 45, 116, 101, 120, 116], [99]] : List (List Int)).length) (some ((((4:Int), (0:Int), (([[], [97], [98], [97, 58, 98], [97, 98], [120, 58, 121, 58, 122], [58], [116, 119, 101, 110, 116, 121, 45, 98, 121, 116, 101, 115, 45, 111, 102, 45, 116, 101, 120, 116], [99]] : List (List Int)).getD y1.1.1.toNat []), ()), ()), (s2.1, ())))))))) fun J3 => (if (decide (y1.1.1 = (0:Int))) = true then ((F30 n (y1.2.1, ())).bind fun (y4 : (Bool × Unit) × ((List Int × Int × Unit) × Unit)) => (if (!y4.1.1) = true then (some ((((0:Int), (0:Int), [], ()), ()), (y4.2.1, ()))) else (J3 (y4.2.1, (0:Int), (0:Int), [], ())))) else (J3 (y1.2.1, (0:Int), (0:Int), [], ())))))
def h33 : Hints := ⟨[], [(8, ⟨[(0, .box (.st (.pair (.sl .imm 1 tB) (.pair tI .unit)))), (4, .box (.st (.pair tI (.pair tI (.pair .str .unit)))))], [1, 5], []⟩)]⟩
def ft33 (n : Nat) : List (Nat × FEnt) := [(30, ⟨s30, F30 n⟩), (31, ⟨s31, F31 n⟩)]
def c33 (n : Nat) : Ctx := ⟨44, find? tys, find? (ft33 n), gls, [], [], []⟩
theorem e33 (n x) : execFn (c33 n) h33 n Go.Proofs.Tryd.f33 s33 x = F33 n x := by kernel_rfl
theorem fn33 : P.funcs[33]? = some Go.Proofs.Tryd.f33 := by kernel_rfl
theorem call33 : Callable P 33 := callB_ok (by kernel_rfl)
theorem S33 (A : Amb) (n : Nat) : Sound A P (c33 n) 33 s33 (F33 n) :=
  execFn_sound mixed (tab rfl) (ft_all (C := c33 n) (l := ft33 n) rfl ⟨⟨call30, (S30 A n).of rfl⟩, ⟨call31, (S31 A n).of rfl⟩, trivial⟩) fn33 fun x y h => (e33 n x).trans h
def s12 : Sig := ⟨[.io (.st (.pair (.sl .imm 1 tB) (.pair tI .unit))), .val (.st (.pair (.sl .imm 32 (.st (.pair tI (.pair .str (.pair tI .unit))))) (.pair tI .unit)))], [.val (.st (.pair tI (.pair tI (.pair .str (.pair tI (.pair (.st (.pair tI (.pair tI (.pair .str .unit)))) (.pair tB (.pair tI .unit))))))))]⟩
/-- (*rabbet/rabbetplay.Picks).Change -/
def F12 (n : Nat) (x : (List Int × Int × Unit) × (List (Int × List Int × Int × Unit) × Int × Unit) × Unit) : Option (((Int × Int × List Int × Int × (Int × Int × List Int × Unit) × Int × Int × Unit) × Unit) × ((List Int × Int × Unit) × Unit)) :=
  ((F31 n (x.1, (9:Int), ())).bind fun (y1 : (Int × Unit) × ((List Int × Int × Unit) × Unit)) => ((F32 n (y1.2.1, x.2.1, ())).bind fun (y2 : (Int × Unit) × ((List Int × Int × Unit) × Unit)) => (if (decide ((IntKind.i64.wrap ((1:Int) + y1.1.1)) = (1:Int))) = true then ((F31 n (y2.2.1, (4:Int), ())).bind fun (y3 : (Int × Unit) × ((List Int × Int × Unit) × Unit)) => ((F31 n (y3.2.1, (9:Int), ())).bind fun (y4 : (Int × Unit) × ((List Int × Int × Unit) × Unit)) => (if [110].length + [(IntKind.u8.wrap (IntKind.i64.wrap ((97:Int) + y4.1.1)))].length ≤ 140737488355328 then ((F33 n (y4.2.1, (IntKind.i64.wrap ((1:Int) + y3.1.1)), ())).bind fun (y5 : ((Int × Int × List Int × Unit) × Unit) × ((List Int × Int × Unit) × Unit)) => (some ((((IntKind.i64.wrap ((1:Int) + y1.1.1)), (0:Int), ([110] ++ [(IntKind.u8.wrap (IntKind.i64.wrap ((97:Int) + y4.1.1)))]), (IntKind.i64.wrap ((1:Int) + y3.1.1)), y5.1.1, (0:Int), (0:Int), ()), ()), (y5.2.1, ())))) else none))) else (if (decide ((IntKind.i64.wrap ((1:Int) + y1.1.1)) = (3:Int))) = true then ((F31 n (y2.2.1, (9:Int), ())).bind fun (y6 : (Int × Unit) × ((List Int × Int × Unit) × Unit)) => (if [114].length + [(IntKind.u8.wrap (IntKind.i64.wrap ((97:Int) + y6.1.1)))].length ≤ 140737488355328 then (some ((((IntKind.i64.wrap ((1:Int) + y1.1.1)), y2.1.1, ([114] ++ [(IntKind.u8.wrap (IntKind.i64.wrap ((97:Int) + y6.1.1)))]), (0:Int), ((0:Int), (0:Int), [], ()), (0:Int), (0:Int), ()), ()), (y6.2.1, ()))) else none)) else (if (decide ((IntKind.i64.wrap ((1:Int) + y1.1.1)) = (5:Int))) = true then ((F31 n (y2.2.1, (9:Int), ())).bind fun (y7 : (Int × Unit) × ((List Int × Int × Unit) × Unit)) => (if [115].length + [(IntKind.u8.wrap (IntKind.i64.wrap ((97:Int) + y7.1.1)))].length ≤ 140737488355328 then ((F31 n (y7.2.1, (2:Int), ())).bind fun (y8 : (Int × Unit) × ((List Int × Int × Unit) × Unit)) => (if (decide (y8.1.1 = (0:Int))) = true then (some ((((IntKind.i64.wrap ((1:Int) + y1.1.1)), (2:Int), ([115] ++ [(IntKind.u8.wrap (IntKind.i64.wrap ((97:Int) + y7.1.1)))]), (0:Int), ((0:Int), (0:Int), [], ()), (58:Int), (0:Int), ()), ()), (y8.2.1, ()))) else (some ((((IntKind.i64.wrap ((1:Int) + y1.1.1)), y2.1.1, ([115] ++ [(IntKind.u8.wrap (IntKind.i64.wrap ((97:Int) + y7.1.1)))]), (0:Int), ((0:Int), (0:Int), [], ()), (58:Int), (0:Int), ()), ()), (y8.2.1, ()))))) else none)) else (if (decide ((IntKind.i64.wrap ((1:Int) + y1.1.1)) = (6:Int))) = true then ((F31 n (y2.2.1, (4:Int), ())).bind fun (y9 : (Int × Unit) × ((List Int × Int × Unit) × Unit)) => (if (decide (y9.1.1 = (0:Int))) = true then (some ((((IntKind.i64.wrap ((1:Int) + y1.1.1)), (0:Int), [], (0:Int), ((0:Int), (0:Int), [], ()), (0:Int), (0:Int), ()), ()), (y9.2.1, ()))) else (some ((((IntKind.i64.wrap ((1:Int) + y1.1.1)), y2.1.1, [], (0:Int), ((0:Int), (0:Int), [], ()), (0:Int), (0:Int), ()), ()), (y9.2.1, ()))))) else (if (decide ((IntKind.i64.wrap ((1:Int) + y1.1.1)) = (7:Int))) = true then ((F31 n (y2.2.1, (4:Int), ())).bind fun (y10 : (Int × Unit) × ((List Int × Int × Unit) × Unit)) => (some ((((IntKind.i64.wrap ((1:Int) + y1.1.1)), y2.1.1, [], (0:Int), ((0:Int), (0:Int), [], ()), (0:Int), (IntKind.i64.wrap ((1:Int) + y10.1.1)), ()), ()), (y10.2.1, ())))) else (if (decide ((IntKind.i64.wrap ((1:Int) + y1.1.1)) = (8:Int))) = true then (some ((((IntKind.i64.wrap ((1:Int) + y1.1.1)), (0:Int), [], (0:Int), ((0:Int), (0:Int), [], ()), (0:Int), (0:Int), ()), ()), (y2.2.1, ()))) else (if (decide ((IntKind.i64.wrap ((1:Int) + y1.1.1)) = (9:Int))) = true then ((F31 n (y2.2.1, (5:Int), ())).bind fun (y11 : (Int × Unit) × ((List Int × Int × Unit) × Unit)) => (some ((((IntKind.i64.wrap ((1:Int) + y1.1.1)), y2.1.1, [], (0:Int), ((0:Int), (0:Int), [], ()), (0:Int), (IntKind.i64.wrap ((1:Int) + y11.1.1)), ()), ()), (y11.2.1, ())))) else (some ((((IntKind.i64.wrap ((1:Int) + y1.1.1)), y2.1.1, [], (0:Int), ((0:Int), (0:Int), [], ()), (0:Int), (0:Int), ()), ()), (y2.2.1, ()))))))))))))
def h12 : Hints := ⟨[], []⟩
def ft12 (n : Nat) : List (Nat × FEnt) := [(31, ⟨s31, F31 n⟩), (32, ⟨s32, F32 n⟩), (33, ⟨s33, F33 n⟩)]
def c12 (n : Nat) : Ctx := ⟨82, find? tys, find? (ft12 n), gls, [], [3], []⟩
theorem e12 (n x) : execFn (c12 n) h12 n Go.Proofs.Tryd.f12 s12 x = F12 n x := by kernel_rfl
theorem fn12 : P.funcs[12]? = some Go.Proofs.Tryd.f12 := by kernel_rfl
theorem call12 : Callable P 12 := callB_ok (by kernel_rfl)
theorem S12 (A : Amb) (n : Nat) : Sound A P (c12 n) 12 s12 (F12 n) :=
  execFn_sound mixed (tab rfl) (ft_all (C := c12 n) (l := ft12 n) rfl ⟨⟨call31, (S31 A n).of rfl⟩, ⟨call32, (S32 A n).of rfl⟩, ⟨call33, (S33 A n).of rfl⟩, trivial⟩) fn12 fun x y h => (e12 n x).trans h
def s28 : Sig := ⟨[.val .str], [.val .bool]⟩
/-- rabbet/rabbetref12.MayName -/
def F28 (n : Nat) (x : List Int × Unit) : Option ((Bool × Unit) × (Unit)) :=
  (iterF (fun rec2 (s1 : Int) => (if (decide (s1 < (x.1.length : Int))) = true then (atI s1 x.1.length (if (decide ((x.1.getD s1.toNat (0:Int)) < (33:Int))) = true then (some ((false, ()), ())) else (atI s1 x.1.length (if (decide ((126:Int) < (x.1.getD s1.toNat (0:Int)))) = true then (some ((false, ()), ())) else (rec2 (IntKind.i64.wrap (s1 + (1:Int)))))))) else (if (decide ((1:Int) ≤ (x.1.length : Int))) = true then (some (((decide ((x.1.length : Int) ≤ (12:Int))), ()), ())) else (some ((false, ()), ()))))) n (0:Int))
def h28 : Hints := ⟨[(0, ⟨[(3, .val tI)], [0], []⟩)], []⟩
def ft28 (n : Nat) : List (Nat × FEnt) := []
def c28 (n : Nat) : Ctx := ⟨28, find? tys, find? (ft28 n), gls, [], [], []⟩
theorem e28 (n x) : execFn (c28 n) h28 n Go.Proofs.Tryd.f28 s28 x = F28 n x := by kernel_rfl
theorem fn28 : P.funcs[28]? = some Go.Proofs.Tryd.f28 := by kernel_rfl
theorem call28 : Callable P 28 := callB_ok (by kernel_rfl)
theorem S28 (A : Amb) (n : Nat) : Sound A P (c28 n) 28 s28 (F28 n) :=
  execFn_sound mixed (tab rfl) (ft_all (C := c28 n) (l := ft28 n) rfl trivial) fn28 fun x y h => (e28 n x).trans h
def s45 : Sig := ⟨[.val tI], [.val .bool]⟩
/-- rabbet/rabbetref12.isType -/
def F45 (n : Nat) (x : Int × Unit) : Option ((Bool × Unit) × (Unit)) :=
  (if (decide ((1:Int) ≤ x.1)) = true then (some (((decide (x.1 ≤ (4:Int))), ()), ())) else (some ((false, ()), ())))
def h45 : Hints := ⟨[], []⟩
def ft45 (n : Nat) : List (Nat × FEnt) := []
def c45 (n : Nat) : Ctx := ⟨9, find? tys, find? (ft45 n), gls, [], [], []⟩
theorem e45 (n x) : execFn (c45 n) h45 n Go.Proofs.Tryd.f45 s45 x = F45 n x := by kernel_rfl
theorem fn45 : P.funcs[45]? = some Go.Proofs.Tryd.f45 := by kernel_rfl
theorem call45 : Callable P 45 := callB_ok (by kernel_rfl)
theorem S45 (A : Amb) (n : Nat) : Sound A P (c45 n) 45 s45 (F45 n) :=
  execFn_sound mixed (tab rfl) (ft_all (C := c45 n) (l := ft45 n) rfl trivial) fn45 fun x y h => (e45 n x).trans h
def s18 : Sig := ⟨[.val (.st (.pair (.sl .imm 32 (.st (.pair tI (.pair .str (.pair tI .unit))))) (.pair tI .unit)))], [.val .bool]⟩
/-- rabbet/rabbetref12.May -/
def F18 (n : Nat) (x : (List (Int × List Int × Int × Unit) × Int × Unit) × Unit) : Option ((Bool × Unit) × (Unit)) :=
  (iterF (fun rec2 (s1 : Int) => (if (decide (s1 < (x.1.1.length : Int))) = true then (atI s1 x.1.1.length (if (decide ((x.1.1.getD s1.toNat ((0:Int), [], (0:Int), ())).1 < (1:Int))) = true then (some ((false, ()), ())) else (if (decide (x.1.2.1 < (x.1.1.getD s1.toNat ((0:Int), [], (0:Int), ())).1)) = true then (some ((false, ()), ())) else ((F28 n (((x.1.1.getD s1.toNat ((0:Int), [], (0:Int), ())).2).1, ())).bind fun (y3 : (Bool × Unit) × (Unit)) => (if (!y3.1.1) = true then (some ((false, ()), ())) else ((F45 n ((((x.1.1.getD s1.toNat ((0:Int), [], (0:Int), ())).2).2).1, ())).bind fun (y4 : (Bool × Unit) × (Unit)) => (if (!y4.1.1) = true then (some ((false, ()), ())) else (iterF (fun rec6 (s5 : Int) => (if (decide (s5 < s1)) = true then (atI s5 x.1.1.length (if (decide ((x.1.1.getD s5.toNat ((0:Int), [], (0:Int), ())).1 = (x.1.1.getD s1.toNat ((0:Int), [], (0:Int), ())).1)) = true then (some ((false, ()), ())) else (atI s5 x.1.1.length (if (decide ((((x.1.1.getD s5.toNat ((0:Int), [], (0:Int), ())).2).1) = (((x.1.1.getD s1.toNat ((0:Int), [], (0:Int), ())).2).1))) = true then (some ((false, ()), ())) else (rec6 (IntKind.i64.wrap (s5 + (1:Int)))))))) else (rec2 (IntKind.i64.wrap (s1 + (1:Int)))))) n (0:Int))))))))) else (if (decide ((1:Int) ≤ (x.1.1.length : Int))) = true then (if (decide ((x.1.1.length : Int) ≤ (6:Int))) = true then (some (((decide (x.1.2.1 ≤ (10000:Int))), ()), ())) else (some ((false, ()), ()))) else (some ((false, ()), ()))))) n (0:Int))
def h18 : Hints := ⟨[(2, ⟨[(5, .val tI)], [1, 3, 4], []⟩), (0, ⟨[(3, .val tI)], [1], []⟩)], []⟩
def ft18 (n : Nat) : List (Nat × FEnt) := [(28, ⟨s28, F28 n⟩), (45, ⟨s45, F45 n⟩)]
def c18 (n : Nat) : Ctx := ⟨80, find? tys, find? (ft18 n), gls, [], [1], []⟩
theorem e18 (n x) : execFn (c18 n) h18 n Go.Proofs.Tryd.f18 s18 x = F18 n x := by kernel_rfl
theorem fn18 : P.funcs[18]? = some Go.Proofs.Tryd.f18 := by kernel_rfl
theorem call18 : Callable P 18 := callB_ok (by kernel_rfl)
theorem S18 (A : Amb) (n : Nat) : Sound A P (c18 n) 18 s18 (F18 n) :=
  execFn_sound mixed (tab rfl) (ft_all (C := c18 n) (l := ft18 n) rfl ⟨⟨call28, (S28 A n).of rfl⟩, ⟨call45, (S45 A n).of rfl⟩, trivial⟩) fn18 fun x y h => (e18 n x).trans h
def s24 : Sig := ⟨[.val (.st (.pair (.sl .imm 32 (.st (.pair tI (.pair .str (.pair tI .unit))))) (.pair tI .unit))), .val tI], [.val tI, .val .bool]⟩
/-- rabbet/rabbetref12.ByID -/
def F24 (n : Nat) (x : (List (Int × List Int × Int × Unit) × Int × Unit) × Int × Unit) : Option ((Int × Bool × Unit) × (Unit)) :=
  (iterF (fun rec2 (s1 : Int) => (if (decide (s1 < (x.1.1.length : Int))) = true then (atI s1 x.1.1.length (if (decide ((x.1.1.getD s1.toNat ((0:Int), [], (0:Int), ())).1 = x.2.1)) = true then (some ((s1, true, ()), ())) else (rec2 (IntKind.i64.wrap (s1 + (1:Int)))))) else (some (((0:Int), false, ()), ())))) n (0:Int))
def h24 : Hints := ⟨[(0, ⟨[(6, .val tI)], [1, 2], []⟩)], []⟩
def ft24 (n : Nat) : List (Nat × FEnt) := []
def c24 (n : Nat) : Ctx := ⟨23, find? tys, find? (ft24 n), gls, [], [2], []⟩
theorem e24 (n x) : execFn (c24 n) h24 n Go.Proofs.Tryd.f24 s24 x = F24 n x := by kernel_rfl
theorem fn24 : P.funcs[24]? = some Go.Proofs.Tryd.f24 := by kernel_rfl
theorem call24 : Callable P 24 := callB_ok (by kernel_rfl)
theorem S24 (A : Amb) (n : Nat) : Sound A P (c24 n) 24 s24 (F24 n) :=
  execFn_sound mixed (tab rfl) (ft_all (C := c24 n) (l := ft24 n) rfl trivial) fn24 fun x y h => (e24 n x).trans h
def s20 : Sig := ⟨[.val (.st (.pair (.sl .imm 32 (.st (.pair tI (.pair .str (.pair tI .unit))))) (.pair tI .unit))), .val (.st (.pair tI (.pair tI (.pair tI (.pair (.sl .imm 8 tI) .unit)))))], [.val .bool]⟩
/-- rabbet/rabbetref12.MayLayout -/
def F20 (n : Nat) (x : (List (Int × List Int × Int × Unit) × Int × Unit) × (Int × Int × Int × List Int × Unit) × Unit) : Option ((Bool × Unit) × (Unit)) :=
  ((F24 n (x.1, x.2.1.1, ())).bind fun (y1 : (Int × Bool × Unit) × (Unit)) => ((F24 n (x.1, x.2.1.2.1, ())).bind fun (y2 : (Int × Bool × Unit) × (Unit)) => (iterF (fun rec4 (s3 : Int) => (if (decide (s3 < (x.2.1.2.2.2.1.length : Int))) = true then (atI s3 x.2.1.2.2.2.1.length (if (decide ((x.2.1.2.2.2.1.getD s3.toNat (0:Int)) < (1:Int))) = true then (some ((false, ()), ())) else (atI s3 x.2.1.2.2.2.1.length (if (decide ((5:Int) < (x.2.1.2.2.2.1.getD s3.toNat (0:Int)))) = true then (some ((false, ()), ())) else (rec4 (IntKind.i64.wrap (s3 + (1:Int)))))))) else (if (decide (x.2.1.1 = (0:Int))) = true then (if (decide ((1:Int) ≤ x.2.1.2.2.1)) = true then (if (decide (x.2.1.2.2.1 ≤ (4:Int))) = true then (if y2.1.2.1 = true then (some (((decide ((x.2.1.2.2.2.1.length : Int) = (x.1.1.length : Int))), ()), ())) else (if (decide (x.2.1.2.1 = (0:Int))) = true then (if (decide (x.2.1.2.2.1 = (1:Int))) = true then (some (((decide ((x.2.1.2.2.2.1.length : Int) = (x.1.1.length : Int))), ()), ())) else (some ((false, ()), ()))) else (some ((false, ()), ())))) else (some ((false, ()), ()))) else (some ((false, ()), ()))) else (if y1.1.2.1 = true then (if (decide ((1:Int) ≤ x.2.1.2.2.1)) = true then (if (decide (x.2.1.2.2.1 ≤ (4:Int))) = true then (if y2.1.2.1 = true then (some (((decide ((x.2.1.2.2.2.1.length : Int) = (x.1.1.length : Int))), ()), ())) else (if (decide (x.2.1.2.1 = (0:Int))) = true then (if (decide (x.2.1.2.2.1 = (1:Int))) = true then (some (((decide ((x.2.1.2.2.2.1.length : Int) = (x.1.1.length : Int))), ()), ())) else (some ((false, ()), ()))) else (some ((false, ()), ())))) else (some ((false, ()), ()))) else (some ((false, ()), ()))) else (some ((false, ()), ())))))) n (0:Int))))
def h20 : Hints := ⟨[(0, ⟨[(9, .val tI)], [2, 3, 6, 8], []⟩)], []⟩
def ft20 (n : Nat) : List (Nat × FEnt) := [(24, ⟨s24, F24 n⟩)]
def c20 (n : Nat) : Ctx := ⟨83, find? tys, find? (ft20 n), gls, [], [2, 3], []⟩
theorem e20 (n x) : execFn (c20 n) h20 n Go.Proofs.Tryd.f20 s20 x = F20 n x := by kernel_rfl
theorem fn20 : P.funcs[20]? = some Go.Proofs.Tryd.f20 := by kernel_rfl
theorem call20 : Callable P 20 := callB_ok (by kernel_rfl)
theorem S20 (A : Amb) (n : Nat) : Sound A P (c20 n) 20 s20 (F20 n) :=
  execFn_sound mixed (tab rfl) (ft_all (C := c20 n) (l := ft20 n) rfl ⟨⟨call24, (S24 A n).of rfl⟩, trivial⟩) fn20 fun x y h => (e20 n x).trans h
def s22 : Sig := ⟨[.val (.st (.pair (.sl .imm 32 (.st (.pair tI (.pair .str (.pair tI .unit))))) (.pair tI .unit))), .val .str], [.val tI, .val .bool]⟩
/-- rabbet/rabbetref12.Find -/
def F22 (n : Nat) (x : (List (Int × List Int × Int × Unit) × Int × Unit) × List Int × Unit) : Option ((Int × Bool × Unit) × (Unit)) :=
  (iterF (fun rec2 (s1 : Int) => (if (decide (s1 < (x.1.1.length : Int))) = true then (atI s1 x.1.1.length (if (decide ((((x.1.1.getD s1.toNat ((0:Int), [], (0:Int), ())).2).1) = x.2.1)) = true then (some ((s1, true, ()), ())) else (rec2 (IntKind.i64.wrap (s1 + (1:Int)))))) else (some (((0:Int), false, ()), ())))) n (0:Int))
def h22 : Hints := ⟨[(0, ⟨[(6, .val tI)], [1, 2], []⟩)], []⟩
def ft22 (n : Nat) : List (Nat × FEnt) := []
def c22 (n : Nat) : Ctx := ⟨23, find? tys, find? (ft22 n), gls, [], [2], []⟩
theorem e22 (n x) : execFn (c22 n) h22 n Go.Proofs.Tryd.f22 s22 x = F22 n x := by kernel_rfl
theorem fn22 : P.funcs[22]? = some Go.Proofs.Tryd.f22 := by kernel_rfl
theorem call22 : Callable P 22 := callB_ok (by kernel_rfl)
theorem S22 (A : Amb) (n : Nat) : Sound A P (c22 n) 22 s22 (F22 n) :=
  execFn_sound mixed (tab rfl) (ft_all (C := c22 n) (l := ft22 n) rfl trivial) fn22 fun x y h => (e22 n x).trans h
def s70 : Sig := ⟨[.val (.st (.pair tI (.pair tI (.pair .str .unit))))], [.val .bool]⟩
/-- rabbet/rabbetref1.May -/
def F70 (n : Nat) (x : (Int × Int × List Int × Unit) × Unit) : Option ((Bool × Unit) × (Unit)) :=
  (if (decide (x.1.1 = (0:Int))) = true then (if (decide (x.1.2.1 = (0:Int))) = true then (some (((decide (x.1.2.2.1 = [])), ()), ())) else (some ((false, ()), ()))) else (if (decide (x.1.1 = (1:Int))) = true then (if (decide ((-32768:Int) ≤ x.1.2.1)) = true then (if (decide (x.1.2.1 ≤ (32767:Int))) = true then (some (((decide (x.1.2.2.1 = [])), ()), ())) else (some ((false, ()), ()))) else (some ((false, ()), ()))) else (if (decide (x.1.1 = (2:Int))) = true then (some (((decide (x.1.2.2.1 = [])), ()), ())) else (if (decide (x.1.1 = (3:Int))) = true then (if (decide (x.1.2.1 = (0:Int))) = true then (some (((decide (x.1.2.2.1 = [])), ()), ())) else (if (decide (x.1.2.1 = (1:Int))) = true then (some (((decide (x.1.2.2.1 = [])), ()), ())) else (some ((false, ()), ())))) else (if (decide (x.1.1 = (4:Int))) = true then (if (decide (x.1.2.1 = (0:Int))) = true then (some (((decide ((x.1.2.2.1.length : Int) ≤ (20:Int))), ()), ())) else (some ((false, ()), ()))) else (some ((false, ()), ())))))))
def h70 : Hints := ⟨[], []⟩
def ft70 (n : Nat) : List (Nat × FEnt) := []
def c70 (n : Nat) : Ctx := ⟨61, find? tys, find? (ft70 n), gls, [], [1], []⟩
theorem e70 (n x) : execFn (c70 n) h70 n Go.Proofs.Tryd.f70 s70 x = F70 n x := by kernel_rfl
theorem fn70 : P.funcs[70]? = some Go.Proofs.Tryd.f70 := by kernel_rfl
theorem call70 : Callable P 70 := callB_ok (by kernel_rfl)
theorem S70 (A : Amb) (n : Nat) : Sound A P (c70 n) 70 s70 (F70 n) :=
  execFn_sound mixed (tab rfl) (ft_all (C := c70 n) (l := ft70 n) rfl trivial) fn70 fun x y h => (e70 n x).trans h
def s71 : Sig := ⟨[.val tI], [.val .bool]⟩
/-- rabbet/rabbetref1.isType -/
def F71 (n : Nat) (x : Int × Unit) : Option ((Bool × Unit) × (Unit)) :=
  (if (decide ((1:Int) ≤ x.1)) = true then (some (((decide (x.1 ≤ (4:Int))), ()), ())) else (some ((false, ()), ())))
def h71 : Hints := ⟨[], []⟩
def ft71 (n : Nat) : List (Nat × FEnt) := []
def c71 (n : Nat) : Ctx := ⟨9, find? tys, find? (ft71 n), gls, [], [], []⟩
theorem e71 (n x) : execFn (c71 n) h71 n Go.Proofs.Tryd.f71 s71 x = F71 n x := by kernel_rfl
theorem fn71 : P.funcs[71]? = some Go.Proofs.Tryd.f71 := by kernel_rfl
theorem call71 : Callable P 71 := callB_ok (by kernel_rfl)
theorem S71 (A : Amb) (n : Nat) : Sound A P (c71 n) 71 s71 (F71 n) :=
  execFn_sound mixed (tab rfl) (ft_all (C := c71 n) (l := ft71 n) rfl trivial) fn71 fun x y h => (e71 n x).trans h
def s56 : Sig := ⟨[.val tI, .val (.st (.pair tI (.pair tI (.pair .str .unit))))], [.val .bool]⟩
/-- rabbet/rabbetref1.Fits -/
def F56 (n : Nat) (x : Int × (Int × Int × List Int × Unit) × Unit) : Option ((Bool × Unit) × (Unit)) :=
  ((F70 n (x.2.1, ())).bind fun (y1 : (Bool × Unit) × (Unit)) => (if y1.1.1 = true then ((F71 n (x.1, ())).bind fun (y2 : (Bool × Unit) × (Unit)) => (if y2.1.1 = true then (if (decide (x.2.1.1 = (0:Int))) = true then (some ((true, ()), ())) else (some (((decide (x.2.1.1 = x.1)), ()), ()))) else (some ((false, ()), ())))) else (some ((false, ()), ()))))
def h56 : Hints := ⟨[], []⟩
def ft56 (n : Nat) : List (Nat × FEnt) := [(70, ⟨s70, F70 n⟩), (71, ⟨s71, F71 n⟩)]
def c56 (n : Nat) : Ctx := ⟨22, find? tys, find? (ft56 n), gls, [], [3], []⟩
theorem e56 (n x) : execFn (c56 n) h56 n Go.Proofs.Tryd.f56 s56 x = F56 n x := by kernel_rfl
theorem fn56 : P.funcs[56]? = some Go.Proofs.Tryd.f56 := by kernel_rfl
theorem call56 : Callable P 56 := callB_ok (by kernel_rfl)
theorem S56 (A : Amb) (n : Nat) : Sound A P (c56 n) 56 s56 (F56 n) :=
  execFn_sound mixed (tab rfl) (ft_all (C := c56 n) (l := ft56 n) rfl ⟨⟨call70, (S70 A n).of rfl⟩, ⟨call71, (S71 A n).of rfl⟩, trivial⟩) fn56 fun x y h => (e56 n x).trans h
def s38 : Sig := ⟨[.io (.st (.pair (.sl .own 32 (.st (.pair tI (.pair .str (.pair tI .unit))))) (.pair tI .unit))), .io (.st (.pair tI (.pair tI (.pair tI (.pair (.sl .own 8 tI) .unit))))), .val (.st (.pair tI (.pair tI (.pair .str (.pair tI (.pair (.st (.pair tI (.pair tI (.pair .str .unit)))) (.pair tB (.pair tI .unit))))))))], [.val tI]⟩
/-- rabbet/rabbetref12.add -/
def F38 (n : Nat) (x : (List (Int × List Int × Int × Unit) × Int × Unit) × (Int × Int × Int × List Int × Unit) × (Int × Int × List Int × Int × (Int × Int × List Int × Unit) × Int × Int × Unit) × Unit) : Option ((Int × Unit) × ((List (Int × List Int × Int × Unit) × Int × Unit) × (Int × Int × Int × List Int × Unit) × Unit)) :=
  ((F22 n (x.1, x.2.2.1.2.2.1, ())).bind fun (y1 : (Int × Bool × Unit) × (Unit)) => ((F28 n (x.2.2.1.2.2.1, ())).bind fun (y2 : (Bool × Unit) × (Unit)) => (if (!y2.1.1) = true then (some (((1:Int), ()), (x.1, x.2.1, ()))) else ((F45 n (x.2.2.1.2.2.2.1, ())).bind fun (y3 : (Bool × Unit) × (Unit)) => (if (!y3.1.1) = true then (some (((1:Int), ()), (x.1, x.2.1, ()))) else (if y1.1.2.1 = true then (some (((9:Int), ()), (x.1, x.2.1, ()))) else ((F56 n (x.2.2.1.2.2.2.1, x.2.2.1.2.2.2.2.1, ())).bind fun (y4 : (Bool × Unit) × (Unit)) => (if (!y4.1.1) = true then (some (((4:Int), ()), (x.1, x.2.1, ()))) else (if (decide ((6:Int) ≤ (x.1.1.length : Int))) = true then (some (((6:Int), ()), (x.1, x.2.1, ()))) else (if (decide ((10000:Int) ≤ x.1.2.1)) = true then (some (((6:Int), ()), (x.1, x.2.1, ()))) else (if (x.1.1.length + ([((IntKind.i64.wrap (x.1.2.1 + (1:Int))), x.2.2.1.2.2.1, x.2.2.1.2.2.2.1, ())] : List (Int × List Int × Int × Unit)).length) * 32 ≤ room then (if (x.2.1.2.2.2.1.length + [(1:Int)].length) * 8 ≤ room then (some (((0:Int), ()), (((x.1.1 ++ ([((IntKind.i64.wrap (x.1.2.1 + (1:Int))), x.2.2.1.2.2.1, x.2.2.1.2.2.2.1, ())] : List (Int × List Int × Int × Unit))), (IntKind.i64.wrap (x.1.2.1 + (1:Int))), x.1.2.2), (x.2.1.1, x.2.1.2.1, x.2.1.2.2.1, (x.2.1.2.2.2.1 ++ [(1:Int)]), x.2.1.2.2.2.2), ()))) else none) else none)))))))))))
def h38 : Hints := ⟨[], []⟩
def ft38 (n : Nat) : List (Nat × FEnt) := [(22, ⟨s22, F22 n⟩), (28, ⟨s28, F28 n⟩), (45, ⟨s45, F45 n⟩), (56, ⟨s56, F56 n⟩)]
def c38 (n : Nat) : Ctx := ⟨86, find? tys, find? (ft38 n), gls, [], [5], []⟩
theorem e38 (n x) : execFn (c38 n) h38 n Go.Proofs.Tryd.f38 s38 x = F38 n x := by kernel_rfl
theorem fn38 : P.funcs[38]? = some Go.Proofs.Tryd.f38 := by kernel_rfl
theorem call38 : Callable P 38 := callB_ok (by kernel_rfl)
theorem S38 (A : Amb) (n : Nat) : Sound A P (c38 n) 38 s38 (F38 n) :=
  execFn_sound mixed (tab rfl) (ft_all (C := c38 n) (l := ft38 n) rfl ⟨⟨call22, (S22 A n).of rfl⟩, ⟨call28, (S28 A n).of rfl⟩, ⟨call45, (S45 A n).of rfl⟩, ⟨call56, (S56 A n).of rfl⟩, trivial⟩) fn38 fun x y h => (e38 n x).trans h
def s39 : Sig := ⟨[.io (.st (.pair (.sl .own 32 (.st (.pair tI (.pair .str (.pair tI .unit))))) (.pair tI .unit))), .io (.st (.pair tI (.pair tI (.pair tI (.pair (.sl .own 8 tI) .unit))))), .val (.st (.pair tI (.pair tI (.pair .str (.pair tI (.pair (.st (.pair tI (.pair tI (.pair .str .unit)))) (.pair tB (.pair tI .unit))))))))], [.val tI]⟩
/-- rabbet/rabbetref12.turn -/
def F39 (n : Nat) (x : (List (Int × List Int × Int × Unit) × Int × Unit) × (Int × Int × Int × List Int × Unit) × (Int × Int × List Int × Int × (Int × Int × List Int × Unit) × Int × Int × Unit) × Unit) : Option ((Int × Unit) × ((List (Int × List Int × Int × Unit) × Int × Unit) × (Int × Int × Int × List Int × Unit) × Unit)) :=
  ((F24 n (x.1, x.2.2.1.2.1, ())).bind fun (y1 : (Int × Bool × Unit) × (Unit)) => (if (!y1.1.2.1) = true then (some (((3:Int), ()), (x.1, x.2.1, ()))) else (joinF (fun (s2 : (Int × Int × Int × List Int × Unit) × Bool) => ((F22 n (x.1, x.2.2.1.2.2.1, ())).bind fun (y4 : (Int × Bool × Unit) × (Unit)) => (if (decide (x.2.2.1.1 = (2:Int))) = true then (if (decide ((x.1.1.length : Int) = (1:Int))) = true then (some (((1:Int), ()), (x.1, s2.1, ()))) else (if s2.2 = true then (some (((1:Int), ()), (x.1, s2.1, ()))) else (if 0 ≤ y1.1.1 ∧ y1.1.1 ≤ (x.1.1.length : Int) then (if 0 ≤ (IntKind.i64.wrap (y1.1.1 + (1:Int))) ∧ (IntKind.i64.wrap (y1.1.1 + (1:Int))) ≤ (x.1.1.length : Int) then (if ((x.1.1.take y1.1.1.toNat).length + ((x.1.1.take (x.1.1.length : Int).toNat).drop (IntKind.i64.wrap (y1.1.1 + (1:Int))).toNat).length) * 32 ≤ room then (if 0 ≤ y1.1.1 ∧ y1.1.1 ≤ (s2.1.2.2.2.1.length : Int) then (if 0 ≤ (IntKind.i64.wrap (y1.1.1 + (1:Int))) ∧ (IntKind.i64.wrap (y1.1.1 + (1:Int))) ≤ (s2.1.2.2.2.1.length : Int) then (if ((s2.1.2.2.2.1.take y1.1.1.toNat).length + ((s2.1.2.2.2.1.take (s2.1.2.2.2.1.length : Int).toNat).drop (IntKind.i64.wrap (y1.1.1 + (1:Int))).toNat).length) * 8 ≤ room then (some (((0:Int), ()), ((((x.1.1.take y1.1.1.toNat) ++ ((x.1.1.take (x.1.1.length : Int).toNat).drop (IntKind.i64.wrap (y1.1.1 + (1:Int))).toNat)), x.1.2), (s2.1.1, s2.1.2.1, s2.1.2.2.1, ((s2.1.2.2.2.1.take y1.1.1.toNat) ++ ((s2.1.2.2.2.1.take (s2.1.2.2.2.1.length : Int).toNat).drop (IntKind.i64.wrap (y1.1.1 + (1:Int))).toNat)), s2.1.2.2.2.2), ()))) else none) else none) else none) else none) else none) else none))) else (if (decide (x.2.2.1.1 = (3:Int))) = true then ((F28 n (x.2.2.1.2.2.1, ())).bind fun (y5 : (Bool × Unit) × (Unit)) => (if (!y5.1.1) = true then (some (((1:Int), ()), (x.1, s2.1, ()))) else (if y4.1.2.1 = true then (if (!decide (y4.1.1 = y1.1.1)) = true then (some (((9:Int), ()), (x.1, s2.1, ()))) else (atI y1.1.1 x.1.1.length (some (((0:Int), ()), (((x.1.1.set y1.1.1.toNat ((x.1.1.getD y1.1.1.toNat ((0:Int), [], (0:Int), ())).1, x.2.2.1.2.2.1, ((x.1.1.getD y1.1.1.toNat ((0:Int), [], (0:Int), ())).2).2)), x.1.2), s2.1, ()))))) else (atI y1.1.1 x.1.1.length (some (((0:Int), ()), (((x.1.1.set y1.1.1.toNat ((x.1.1.getD y1.1.1.toNat ((0:Int), [], (0:Int), ())).1, x.2.2.1.2.2.1, ((x.1.1.getD y1.1.1.toNat ((0:Int), [], (0:Int), ())).2).2)), x.1.2), s2.1, ()))))))) else (if (decide (x.2.2.1.1 = (4:Int))) = true then (atI y1.1.1 x.1.1.length (if (decide ((((x.1.1.getD y1.1.1.toNat ((0:Int), [], (0:Int), ())).2).2).1 = (3:Int))) = true then (atI y1.1.1 x.1.1.length (some (((0:Int), ()), (((x.1.1.set y1.1.1.toNat ((x.1.1.getD y1.1.1.toNat ((0:Int), [], (0:Int), ())).1, ((x.1.1.getD y1.1.1.toNat ((0:Int), [], (0:Int), ())).2).1, (1:Int), (((x.1.1.getD y1.1.1.toNat ((0:Int), [], (0:Int), ())).2).2).2)), x.1.2), s2.1, ())))) else (if (decide ((((x.1.1.getD y1.1.1.toNat ((0:Int), [], (0:Int), ())).2).2).1 = (1:Int))) = true then (atI y1.1.1 x.1.1.length (some (((0:Int), ()), (((x.1.1.set y1.1.1.toNat ((x.1.1.getD y1.1.1.toNat ((0:Int), [], (0:Int), ())).1, ((x.1.1.getD y1.1.1.toNat ((0:Int), [], (0:Int), ())).2).1, (2:Int), (((x.1.1.getD y1.1.1.toNat ((0:Int), [], (0:Int), ())).2).2).2)), x.1.2), s2.1, ())))) else (some (((4:Int), ()), (x.1, s2.1, ())))))) else (atI y1.1.1 x.1.1.length (if (!decide ((((x.1.1.getD y1.1.1.toNat ((0:Int), [], (0:Int), ())).2).2).1 = (4:Int))) = true then (some (((4:Int), ()), (x.1, s2.1, ()))) else (if s2.2 = true then (some (((1:Int), ()), (x.1, s2.1, ()))) else ((F28 n (x.2.2.1.2.2.1, ())).bind fun (y6 : (Bool × Unit) × (Unit)) => (if (!y6.1.1) = true then (some (((1:Int), ()), (x.1, s2.1, ()))) else (if y4.1.2.1 = true then (some (((9:Int), ()), (x.1, s2.1, ()))) else (if (decide ((6:Int) ≤ (x.1.1.length : Int))) = true then (some (((6:Int), ()), (x.1, s2.1, ()))) else (if (decide ((10000:Int) ≤ x.1.2.1)) = true then (some (((6:Int), ()), (x.1, s2.1, ()))) else (if 0 ≤ (IntKind.i64.wrap (y1.1.1 + (1:Int))) ∧ (IntKind.i64.wrap (y1.1.1 + (1:Int))) ≤ (x.1.1.length : Int) then (if (([] : List (Int × List Int × Int × Unit)).length + ((x.1.1.take (IntKind.i64.wrap (y1.1.1 + (1:Int))).toNat).drop (0:Int).toNat).length) * 32 ≤ room then (if ((([] : List (Int × List Int × Int × Unit)) ++ ((x.1.1.take (IntKind.i64.wrap (y1.1.1 + (1:Int))).toNat).drop (0:Int).toNat)).length + ([((IntKind.i64.wrap (x.1.2.1 + (1:Int))), x.2.2.1.2.2.1, (4:Int), ())] : List (Int × List Int × Int × Unit)).length) * 32 ≤ room then (if 0 ≤ (IntKind.i64.wrap (y1.1.1 + (1:Int))) ∧ (IntKind.i64.wrap (y1.1.1 + (1:Int))) ≤ (x.1.1.length : Int) then (if (((([] : List (Int × List Int × Int × Unit)) ++ ((x.1.1.take (IntKind.i64.wrap (y1.1.1 + (1:Int))).toNat).drop (0:Int).toNat)) ++ ([((IntKind.i64.wrap (x.1.2.1 + (1:Int))), x.2.2.1.2.2.1, (4:Int), ())] : List (Int × List Int × Int × Unit))).length + ((x.1.1.take (x.1.1.length : Int).toNat).drop (IntKind.i64.wrap (y1.1.1 + (1:Int))).toNat).length) * 32 ≤ room then (if 0 ≤ (IntKind.i64.wrap (y1.1.1 + (1:Int))) ∧ (IntKind.i64.wrap (y1.1.1 + (1:Int))) ≤ (s2.1.2.2.2.1.length : Int) then (if (([] : List (Int)).length + ((s2.1.2.2.2.1.take (IntKind.i64.wrap (y1.1.1 + (1:Int))).toNat).drop (0:Int).toNat).length) * 8 ≤ room then (if (([] ++ ((s2.1.2.2.2.1.take (IntKind.i64.wrap (y1.1.1 + (1:Int))).toNat).drop (0:Int).toNat)).length + [(1:Int)].length) * 8 ≤ room then (if 0 ≤ (IntKind.i64.wrap (y1.1.1 + (1:Int))) ∧ (IntKind.i64.wrap (y1.1.1 + (1:Int))) ≤ (s2.1.2.2.2.1.length : Int) then (if ((([] ++ ((s2.1.2.2.2.1.take (IntKind.i64.wrap (y1.1.1 + (1:Int))).toNat).drop (0:Int).toNat)) ++ [(1:Int)]).length + ((s2.1.2.2.2.1.take (s2.1.2.2.2.1.length : Int).toNat).drop (IntKind.i64.wrap (y1.1.1 + (1:Int))).toNat).length) * 8 ≤ room then (some (((0:Int), ()), (((((([] : List (Int × List Int × Int × Unit)) ++ ((x.1.1.take (IntKind.i64.wrap (y1.1.1 + (1:Int))).toNat).drop (0:Int).toNat)) ++ ([((IntKind.i64.wrap (x.1.2.1 + (1:Int))), x.2.2.1.2.2.1, (4:Int), ())] : List (Int × List Int × Int × Unit))) ++ ((x.1.1.take (x.1.1.length : Int).toNat).drop (IntKind.i64.wrap (y1.1.1 + (1:Int))).toNat)), (IntKind.i64.wrap (x.1.2.1 + (1:Int))), x.1.2.2), (s2.1.1, s2.1.2.1, s2.1.2.2.1, ((([] ++ ((s2.1.2.2.2.1.take (IntKind.i64.wrap (y1.1.1 + (1:Int))).toNat).drop (0:Int).toNat)) ++ [(1:Int)]) ++ ((s2.1.2.2.2.1.take (s2.1.2.2.2.1.length : Int).toNat).drop (IntKind.i64.wrap (y1.1.1 + (1:Int))).toNat)), s2.1.2.2.2.2), ()))) else none) else none) else none) else none) else none) else none) else none) else none) else none) else none)))))))))))))) fun J3 => (if (decide (x.2.1.1 = x.2.2.1.2.1)) = true then (J3 (x.2.1, true)) else (J3 (x.2.1, (decide (x.2.1.2.1 = x.2.2.1.2.1))))))))
def h39 : Hints := ⟨[], [(10, ⟨[(1, .box (.st (.pair tI (.pair tI (.pair tI (.pair (.sl .own 8 tI) .unit)))))), (9, .val .bool)], [5, 7], [0]⟩)]⟩
def ft39 (n : Nat) : List (Nat × FEnt) := [(22, ⟨s22, F22 n⟩), (24, ⟨s24, F24 n⟩), (28, ⟨s28, F28 n⟩)]
def c39 (n : Nat) : Ctx := ⟨238, find? tys, find? (ft39 n), gls, [], [5], []⟩
theorem e39 (n x) : execFn (c39 n) h39 n Go.Proofs.Tryd.f39 s39 x = F39 n x := by kernel_rfl
theorem fn39 : P.funcs[39]? = some Go.Proofs.Tryd.f39 := by kernel_rfl
theorem call39 : Callable P 39 := callB_ok (by kernel_rfl)
theorem S39 (A : Amb) (n : Nat) : Sound A P (c39 n) 39 s39 (F39 n) :=
  execFn_sound mixed (tab rfl) (ft_all (C := c39 n) (l := ft39 n) rfl ⟨⟨call22, (S22 A n).of rfl⟩, ⟨call24, (S24 A n).of rfl⟩, ⟨call28, (S28 A n).of rfl⟩, trivial⟩) fn39 fun x y h => (e39 n x).trans h
def s40 : Sig := ⟨[.val (.st (.pair (.sl .imm 32 (.st (.pair tI (.pair .str (.pair tI .unit))))) (.pair tI .unit))), .io (.st (.pair tI (.pair tI (.pair tI (.pair (.sl .own 8 tI) .unit))))), .val (.st (.pair tI (.pair tI (.pair .str (.pair tI (.pair (.st (.pair tI (.pair tI (.pair .str .unit)))) (.pair tB (.pair tI .unit))))))))], [.val tI]⟩
/-- rabbet/rabbetref12.lay -/
def F40 (n : Nat) (x : (List (Int × List Int × Int × Unit) × Int × Unit) × (Int × Int × Int × List Int × Unit) × (Int × Int × List Int × Int × (Int × Int × List Int × Unit) × Int × Int × Unit) × Unit) : Option ((Int × Unit) × ((Int × Int × Int × List Int × Unit) × Unit)) :=
  ((F24 n (x.1, x.2.2.1.2.1, ())).bind fun (y1 : (Int × Bool × Unit) × (Unit)) => (if (decide (x.2.2.1.1 = (6:Int))) = true then (if (!y1.1.2.1) = true then (if (!decide (x.2.2.1.2.1 = (0:Int))) = true then (some (((3:Int), ()), (x.2.1, ()))) else (some (((0:Int), ()), ((x.2.2.1.2.1, x.2.1.2), ())))) else (some (((0:Int), ()), ((x.2.2.1.2.1, x.2.1.2), ())))) else (if (decide (x.2.2.1.1 = (7:Int))) = true then (if (decide (x.2.2.1.2.2.2.2.2.2.1 < (1:Int))) = true then (some (((1:Int), ()), (x.2.1, ()))) else (if (decide ((4:Int) < x.2.2.1.2.2.2.2.2.2.1)) = true then (some (((1:Int), ()), (x.2.1, ()))) else (if (!y1.1.2.1) = true then (if (!decide (x.2.2.1.2.1 = (0:Int))) = true then (some (((3:Int), ()), (x.2.1, ()))) else (if (!decide (x.2.2.1.2.2.2.2.2.2.1 = (1:Int))) = true then (some (((3:Int), ()), (x.2.1, ()))) else (some (((0:Int), ()), ((x.2.1.1, x.2.2.1.2.1, x.2.2.1.2.2.2.2.2.2.1, x.2.1.2.2.2), ()))))) else (some (((0:Int), ()), ((x.2.1.1, x.2.2.1.2.1, x.2.2.1.2.2.2.2.2.2.1, x.2.1.2.2.2), ())))))) else (if (decide (x.2.2.1.1 = (8:Int))) = true then (some (((0:Int), ()), (x.2.1, ()))) else (if (decide (x.2.2.1.1 = (9:Int))) = true then (if (!y1.1.2.1) = true then (some (((3:Int), ()), (x.2.1, ()))) else (if (decide (x.2.2.1.2.2.2.2.2.2.1 < (1:Int))) = true then (some (((1:Int), ()), (x.2.1, ()))) else (if (decide ((5:Int) < x.2.2.1.2.2.2.2.2.2.1)) = true then (some (((1:Int), ()), (x.2.1, ()))) else (atI y1.1.1 x.2.1.2.2.2.1.length (some (((0:Int), ()), ((x.2.1.1, x.2.1.2.1, x.2.1.2.2.1, (x.2.1.2.2.2.1.set y1.1.1.toNat x.2.2.1.2.2.2.2.2.2.1), x.2.1.2.2.2.2), ()))))))) else (some (((1:Int), ()), (x.2.1, ()))))))))
def h40 : Hints := ⟨[], []⟩
def ft40 (n : Nat) : List (Nat × FEnt) := [(24, ⟨s24, F24 n⟩)]
def c40 (n : Nat) : Ctx := ⟨86, find? tys, find? (ft40 n), gls, [], [3, 5], []⟩
theorem e40 (n x) : execFn (c40 n) h40 n Go.Proofs.Tryd.f40 s40 x = F40 n x := by kernel_rfl
theorem fn40 : P.funcs[40]? = some Go.Proofs.Tryd.f40 := by kernel_rfl
theorem call40 : Callable P 40 := callB_ok (by kernel_rfl)
theorem S40 (A : Amb) (n : Nat) : Sound A P (c40 n) 40 s40 (F40 n) :=
  execFn_sound mixed (tab rfl) (ft_all (C := c40 n) (l := ft40 n) rfl ⟨⟨call24, (S24 A n).of rfl⟩, trivial⟩) fn40 fun x y h => (e40 n x).trans h
def s14 : Sig := ⟨[.val (.st (.pair (.sl .imm 32 (.st (.pair tI (.pair .str (.pair tI .unit))))) (.pair tI .unit))), .val (.st (.pair tI (.pair tI (.pair tI (.pair (.sl .imm 8 tI) .unit))))), .val (.st (.pair tI (.pair tI (.pair .str (.pair tI (.pair (.st (.pair tI (.pair tI (.pair .str .unit)))) (.pair tB (.pair tI .unit))))))))], [.val (.st (.pair (.sl .imm 32 (.st (.pair tI (.pair .str (.pair tI .unit))))) (.pair tI .unit))), .val (.st (.pair tI (.pair tI (.pair tI (.pair (.sl .imm 8 tI) .unit))))), .val tI]⟩
/-- rabbet/rabbetref12.Apply -/
def F14 (n : Nat) (x : (List (Int × List Int × Int × Unit) × Int × Unit) × (Int × Int × Int × List Int × Unit) × (Int × Int × List Int × Int × (Int × Int × List Int × Unit) × Int × Int × Unit) × Unit) : Option (((List (Int × List Int × Int × Unit) × Int × Unit) × (Int × Int × Int × List Int × Unit) × Int × Unit) × (Unit)) :=
  ((F18 n (x.1, ())).bind fun (y1 : (Bool × Unit) × (Unit)) => (if (!y1.1.1) = true then (some ((([], (0:Int), ()), ((0:Int), (0:Int), (0:Int), [], ()), (1:Int), ()), ())) else ((F20 n (x.1, x.2.1, ())).bind fun (y2 : (Bool × Unit) × (Unit)) => (if (!y2.1.1) = true then (some ((([], (0:Int), ()), ((0:Int), (0:Int), (0:Int), [], ()), (1:Int), ()), ())) else (if (([] : List (Int × List Int × Int × Unit)).length + x.1.1.length) * 32 ≤ room then (if (([] : List (Int)).length + x.2.1.2.2.2.1.length) * 8 ≤ room then (joinF (fun (s3 : (List (Int × List Int × Int × Unit) × Int × Unit) × (Int × Int × Int × List Int × Unit) × Int) => (if (!decide (s3.2.2 = (0:Int))) = true then (some ((([], (0:Int), ()), ((0:Int), (0:Int), (0:Int), [], ()), s3.2.2, ()), ())) else (some ((s3.1, s3.2.1, (0:Int), ()), ())))) fun J4 => (if (decide (x.2.2.1.1 = (1:Int))) = true then ((F38 n (((([] : List (Int × List Int × Int × Unit)) ++ x.1.1), x.1.2), (x.2.1.1, x.2.1.2.1, x.2.1.2.2.1, ([] ++ x.2.1.2.2.2.1), x.2.1.2.2.2.2), x.2.2.1, ())).bind fun (y5 : (Int × Unit) × ((List (Int × List Int × Int × Unit) × Int × Unit) × (Int × Int × Int × List Int × Unit) × Unit)) => (J4 (y5.2.1, y5.2.2.1, y5.1.1))) else (if (decide ((2:Int) ≤ x.2.2.1.1)) = true then (if (decide (x.2.2.1.1 ≤ (5:Int))) = true then ((F39 n (((([] : List (Int × List Int × Int × Unit)) ++ x.1.1), x.1.2), (x.2.1.1, x.2.1.2.1, x.2.1.2.2.1, ([] ++ x.2.1.2.2.2.1), x.2.1.2.2.2.2), x.2.2.1, ())).bind fun (y6 : (Int × Unit) × ((List (Int × List Int × Int × Unit) × Int × Unit) × (Int × Int × Int × List Int × Unit) × Unit)) => (J4 (y6.2.1, y6.2.2.1, y6.1.1))) else ((F40 n (x.1, (x.2.1.1, x.2.1.2.1, x.2.1.2.2.1, ([] ++ x.2.1.2.2.2.1), x.2.1.2.2.2.2), x.2.2.1, ())).bind fun (y7 : (Int × Unit) × ((Int × Int × Int × List Int × Unit) × Unit)) => (J4 (((([] : List (Int × List Int × Int × Unit)) ++ x.1.1), x.1.2), y7.2.1, y7.1.1)))) else ((F40 n (x.1, (x.2.1.1, x.2.1.2.1, x.2.1.2.2.1, ([] ++ x.2.1.2.2.2.1), x.2.1.2.2.2.2), x.2.2.1, ())).bind fun (y8 : (Int × Unit) × ((Int × Int × Int × List Int × Unit) × Unit)) => (J4 (((([] : List (Int × List Int × Int × Unit)) ++ x.1.1), x.1.2), y8.2.1, y8.1.1)))))) else none) else none)))))
def h14 : Hints := ⟨[], [(22, ⟨[(9, .box (.st (.pair (.sl .own 32 (.st (.pair tI (.pair .str (.pair tI .unit))))) (.pair tI .unit)))), (10, .box (.st (.pair tI (.pair tI (.pair tI (.pair (.sl .own 8 tI) .unit)))))), (11, .val tI)], [], [6, 7]⟩)]⟩
def ft14 (n : Nat) : List (Nat × FEnt) := [(18, ⟨s18, F18 n⟩), (20, ⟨s20, F20 n⟩), (38, ⟨s38, F38 n⟩), (39, ⟨s39, F39 n⟩), (40, ⟨s40, F40 n⟩)]
def c14 (n : Nat) : Ctx := ⟨60, find? tys, find? (ft14 n), gls, [], [3, 4, 5], []⟩
theorem e14 (n x) : execFn (c14 n) h14 n Go.Proofs.Tryd.f14 s14 x = F14 n x := by kernel_rfl
theorem fn14 : P.funcs[14]? = some Go.Proofs.Tryd.f14 := by kernel_rfl
theorem call14 : Callable P 14 := callB_ok (by kernel_rfl)
theorem S14 (A : Amb) (n : Nat) : Sound A P (c14 n) 14 s14 (F14 n) :=
  execFn_sound mixed (tab rfl) (ft_all (C := c14 n) (l := ft14 n) rfl ⟨⟨call18, (S18 A n).of rfl⟩, ⟨call20, (S20 A n).of rfl⟩, ⟨call38, (S38 A n).of rfl⟩, ⟨call39, (S39 A n).of rfl⟩, ⟨call40, (S40 A n).of rfl⟩, trivial⟩) fn14 fun x y h => (e14 n x).trans h
def s15 : Sig := ⟨[.val (.st (.pair (.sl .imm 32 (.st (.pair tI (.pair .str (.pair tI .unit))))) (.pair tI .unit))), .val (.st (.pair (.sl .imm 32 (.st (.pair tI (.pair .str (.pair tI .unit))))) (.pair tI .unit)))], [.val .bool]⟩
/-- rabbet/rabbetref12.SameSchema -/
def F15 (n : Nat) (x : (List (Int × List Int × Int × Unit) × Int × Unit) × (List (Int × List Int × Int × Unit) × Int × Unit) × Unit) : Option ((Bool × Unit) × (Unit)) :=
  (if (!decide (x.1.2.1 = x.2.1.2.1)) = true then (some ((false, ()), ())) else (if (!decide ((x.1.1.length : Int) = (x.2.1.1.length : Int))) = true then (some ((false, ()), ())) else (iterF (fun rec2 (s1 : Int) => (if (decide (s1 < (x.1.1.length : Int))) = true then (atI s1 x.1.1.length (atI s1 x.2.1.1.length (if (!((decide ((x.1.1.getD s1.toNat ((0:Int), [], (0:Int), ())).1 = (x.2.1.1.getD s1.toNat ((0:Int), [], (0:Int), ())).1)) && ((decide (((x.1.1.getD s1.toNat ((0:Int), [], (0:Int), ())).2).1 = ((x.2.1.1.getD s1.toNat ((0:Int), [], (0:Int), ())).2).1)) && (decide ((((x.1.1.getD s1.toNat ((0:Int), [], (0:Int), ())).2).2).1 = (((x.2.1.1.getD s1.toNat ((0:Int), [], (0:Int), ())).2).2).1))))) = true then (some ((false, ()), ())) else (rec2 (IntKind.i64.wrap (s1 + (1:Int))))))) else (some ((true, ()), ())))) n (0:Int))))
def h15 : Hints := ⟨[(0, ⟨[(5, .val tI)], [2, 3], []⟩)], []⟩
def ft15 (n : Nat) : List (Nat × FEnt) := []
def c15 (n : Nat) : Ctx := ⟨38, find? tys, find? (ft15 n), gls, [], [2, 3], []⟩
theorem e15 (n x) : execFn (c15 n) h15 n Go.Proofs.Tryd.f15 s15 x = F15 n x := by kernel_rfl
theorem fn15 : P.funcs[15]? = some Go.Proofs.Tryd.f15 := by kernel_rfl
theorem call15 : Callable P 15 := callB_ok (by kernel_rfl)
theorem S15 (A : Amb) (n : Nat) : Sound A P (c15 n) 15 s15 (F15 n) :=
  execFn_sound mixed (tab rfl) (ft_all (C := c15 n) (l := ft15 n) rfl trivial) fn15 fun x y h => (e15 n x).trans h
def s41 : Sig := ⟨[.val (.sl .imm 8 tI), .val (.sl .imm 8 tI)], [.val .bool]⟩
/-- rabbet/rabbetref12.SameInts -/
def F41 (n : Nat) (x : List Int × List Int × Unit) : Option ((Bool × Unit) × (Unit)) :=
  (if (!decide ((x.1.length : Int) = (x.2.1.length : Int))) = true then (some ((false, ()), ())) else (iterF (fun rec2 (s1 : Int) => (if (decide (s1 < (x.1.length : Int))) = true then (atI s1 x.1.length (atI s1 x.2.1.length (if (!decide ((x.1.getD s1.toNat (0:Int)) = (x.2.1.getD s1.toNat (0:Int)))) = true then (some ((false, ()), ())) else (rec2 (IntKind.i64.wrap (s1 + (1:Int))))))) else (some ((true, ()), ())))) n (0:Int)))
def h41 : Hints := ⟨[(0, ⟨[(5, .val tI)], [0, 1], []⟩)], []⟩
def ft41 (n : Nat) : List (Nat × FEnt) := []
def c41 (n : Nat) : Ctx := ⟨26, find? tys, find? (ft41 n), gls, [], [], []⟩
theorem e41 (n x) : execFn (c41 n) h41 n Go.Proofs.Tryd.f41 s41 x = F41 n x := by kernel_rfl
theorem fn41 : P.funcs[41]? = some Go.Proofs.Tryd.f41 := by kernel_rfl
theorem call41 : Callable P 41 := callB_ok (by kernel_rfl)
theorem S41 (A : Amb) (n : Nat) : Sound A P (c41 n) 41 s41 (F41 n) :=
  execFn_sound mixed (tab rfl) (ft_all (C := c41 n) (l := ft41 n) rfl trivial) fn41 fun x y h => (e41 n x).trans h
def s16 : Sig := ⟨[.val (.st (.pair tI (.pair tI (.pair tI (.pair (.sl .imm 8 tI) .unit))))), .val (.st (.pair tI (.pair tI (.pair tI (.pair (.sl .imm 8 tI) .unit)))))], [.val .bool]⟩
/-- rabbet/rabbetref12.SameLayout -/
def F16 (n : Nat) (x : (Int × Int × Int × List Int × Unit) × (Int × Int × Int × List Int × Unit) × Unit) : Option ((Bool × Unit) × (Unit)) :=
  (if (decide (x.1.1 = x.2.1.1)) = true then (if (decide (x.1.2.1 = x.2.1.2.1)) = true then (if (decide (x.1.2.2.1 = x.2.1.2.2.1)) = true then ((F41 n (x.1.2.2.2.1, x.2.1.2.2.2.1, ())).bind fun (y1 : (Bool × Unit) × (Unit)) => (some ((y1.1.1, ()), ()))) else (some ((false, ()), ()))) else (some ((false, ()), ()))) else (some ((false, ()), ())))
def h16 : Hints := ⟨[], []⟩
def ft16 (n : Nat) : List (Nat × FEnt) := [(41, ⟨s41, F41 n⟩)]
def c16 (n : Nat) : Ctx := ⟨31, find? tys, find? (ft16 n), gls, [], [2, 3], []⟩
theorem e16 (n x) : execFn (c16 n) h16 n Go.Proofs.Tryd.f16 s16 x = F16 n x := by kernel_rfl
theorem fn16 : P.funcs[16]? = some Go.Proofs.Tryd.f16 := by kernel_rfl
theorem call16 : Callable P 16 := callB_ok (by kernel_rfl)
theorem S16 (A : Amb) (n : Nat) : Sound A P (c16 n) 16 s16 (F16 n) :=
  execFn_sound mixed (tab rfl) (ft_all (C := c16 n) (l := ft16 n) rfl ⟨⟨call41, (S41 A n).of rfl⟩, trivial⟩) fn16 fun x y h => (e16 n x).trans h
def s26 : Sig := ⟨[.val (.st (.pair (.sl .imm 32 (.st (.pair tI (.pair .str (.pair tI .unit))))) (.pair tI .unit))), .val (.sl .imm 32 (.st (.pair tI (.pair tI (.pair .str .unit)))))], [.val .bool]⟩
/-- rabbet/rabbetref12.Fits -/
def F26 (n : Nat) (x : (List (Int × List Int × Int × Unit) × Int × Unit) × (List (Int × Int × List Int × Unit)) × Unit) : Option ((Bool × Unit) × (Unit)) :=
  (if (!decide ((x.2.1.length : Int) = (x.1.1.length : Int))) = true then (some ((false, ()), ())) else (iterF (fun rec2 (s1 : Int) => (if (decide (s1 < (x.2.1.length : Int))) = true then (atI s1 x.1.1.length (atI s1 x.2.1.length ((F56 n ((((x.1.1.getD s1.toNat ((0:Int), [], (0:Int), ())).2).2).1, (x.2.1.getD s1.toNat ((0:Int), (0:Int), [], ())), ())).bind fun (y3 : (Bool × Unit) × (Unit)) => (if (!y3.1.1) = true then (some ((false, ()), ())) else (rec2 (IntKind.i64.wrap (s1 + (1:Int)))))))) else (some ((true, ()), ())))) n (0:Int)))
def h26 : Hints := ⟨[(0, ⟨[(5, .val tI)], [1, 2], []⟩)], []⟩
def ft26 (n : Nat) : List (Nat × FEnt) := [(56, ⟨s56, F56 n⟩)]
def c26 (n : Nat) : Ctx := ⟨30, find? tys, find? (ft26 n), gls, [], [2], []⟩
theorem e26 (n x) : execFn (c26 n) h26 n Go.Proofs.Tryd.f26 s26 x = F26 n x := by kernel_rfl
theorem fn26 : P.funcs[26]? = some Go.Proofs.Tryd.f26 := by kernel_rfl
theorem call26 : Callable P 26 := callB_ok (by kernel_rfl)
theorem S26 (A : Amb) (n : Nat) : Sound A P (c26 n) 26 s26 (F26 n) :=
  execFn_sound mixed (tab rfl) (ft_all (C := c26 n) (l := ft26 n) rfl ⟨⟨call56, (S56 A n).of rfl⟩, trivial⟩) fn26 fun x y h => (e26 n x).trans h
def s29 : Sig := ⟨[.io (.st (.pair (.sl .imm 1 tB) (.pair tI .unit))), .val (.st (.pair (.sl .imm 32 (.st (.pair tI (.pair .str (.pair tI .unit))))) (.pair tI .unit)))], [.val (.sl .imm 32 (.st (.pair tI (.pair tI (.pair .str .unit)))))]⟩
/-- (*rabbet/rabbetplay.Picks).Row -/
def F29 (n : Nat) (x : (List Int × Int × Unit) × (List (Int × List Int × Int × Unit) × Int × Unit) × Unit) : Option (((List (Int × Int × List Int × Unit)) × Unit) × ((List Int × Int × Unit) × Unit)) :=
  (iterF (fun rec2 (s1 : (List Int × Int × Unit) × (List (Int × Int × List Int × Unit)) × Int) => (if (decide (s1.2.2 < (x.2.1.1.length : Int))) = true then (atI s1.2.2 x.2.1.1.length ((F33 n (s1.1, (((x.2.1.1.getD s1.2.2.toNat ((0:Int), [], (0:Int), ())).2).2).1, ())).bind fun (y3 : ((Int × Int × List Int × Unit) × Unit) × ((List Int × Int × Unit) × Unit)) => (if (s1.2.1.length + ([y3.1.1] : List (Int × Int × List Int × Unit)).length) * 32 ≤ room then (rec2 (y3.2.1, (s1.2.1 ++ ([y3.1.1] : List (Int × Int × List Int × Unit))), (IntKind.i64.wrap (s1.2.2 + (1:Int))))) else none))) else (some ((s1.2.1, ()), (s1.1, ()))))) n (x.1, [], (0:Int)))
def h29 : Hints := ⟨[(0, ⟨[(0, .box (.st (.pair (.sl .imm 1 tB) (.pair tI .unit)))), (5, .val (.sl .own 32 (.st (.pair tI (.pair tI (.pair .str .unit)))))), (6, .val tI)], [3], []⟩)], []⟩
def ft29 (n : Nat) : List (Nat × FEnt) := [(33, ⟨s33, F33 n⟩)]
def c29 (n : Nat) : Ctx := ⟨26, find? tys, find? (ft29 n), gls, [], [3], []⟩
theorem e29 (n x) : execFn (c29 n) h29 n Go.Proofs.Tryd.f29 s29 x = F29 n x := by kernel_rfl
theorem fn29 : P.funcs[29]? = some Go.Proofs.Tryd.f29 := by kernel_rfl
theorem call29 : Callable P 29 := callB_ok (by kernel_rfl)
theorem S29 (A : Amb) (n : Nat) : Sound A P (c29 n) 29 s29 (F29 n) :=
  execFn_sound mixed (tab rfl) (ft_all (C := c29 n) (l := ft29 n) rfl ⟨⟨call33, (S33 A n).of rfl⟩, trivial⟩) fn29 fun x y h => (e29 n x).trans h
end Go.Rb.S2
