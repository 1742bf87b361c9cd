/- Kinds, names, tables of a seat. Printed by a program of our own. -/
import Derived.Test.YtpkgjjdalliggaaGreatDoorRbE
import Derived.Test.YtpkgjjdalliggaaGreatDoorRbI
import Derived.Test.YtpkgjjdalliggaaGreatDoorChecked
import Derived.KernelRfl
import Derived.Eval
import Derived.Deep.Draws
import Derived.Deep.LoopGhost
import Derived.Laws.Externs
import Derived.Lib.Bytealg
import Derived.Lib.Walk
import Derived.LoopN
import Derived.RowKitTokens
import Derived.Shelf.RegionOpenPlain
import Derived.Shelf.SlLaysF0
import Derived.Shelf.SlSortCmp.NoneTotal
import Derived.Test.YtpkgjjdalliggaaGreatDoorRbG
import Derived.WalkKit
set_option autoImplicit false
set_option linter.unusedVariables false
set_option linter.unusedSimpArgs false
namespace Go.Rb.R4
open Go.Rb
abbrev V4 : Type := Int × Int × List Int × Unit
abbrev tI : Ty := .int .i64
abbrev tB : Ty := .int .u8
abbrev tU : Ty := .int .u64
abbrev a1h : Nat := 0
abbrev a3d : Nat := 1
abbrev b1w : Nat := 2
abbrev a4y : Nat := 3
abbrev a2e : Nat := 4
abbrev a2c : Nat := 5
abbrev a3q : Nat := 6
abbrev a4c : Nat := 7
abbrev a3k : Nat := 103
abbrev a6w : Nat := 142
abbrev a9g : Nat := 150
abbrev a4i : Nat := 152
abbrev a4o : Nat := 154
abbrev a7c : Nat := 157
abbrev a7z : Nat := 159
def tys : List (Nat × Ty) := [(2, tI), (3, tI), (4, .bool), (5, tB), (9, .str), (22, (.sl .imm 1 tB)), (23, (.sl .imm 32 (.st (.pair tI (.pair tI (.pair .str .unit)))))), (26, (.st (.pair tI (.pair tI (.pair .str .unit))))), (27, (.sl .imm 8 tI)), (29, (.sl .imm 24 (.sl .imm 32 (.st (.pair tI (.pair tI (.pair .str .unit))))))), (31, (.lf (.cfs [(1, 89), (2, 91), (3, 11), (4, 93), (5, 95)]))), (35, (.lf (.cfs [(1, 90), (2, 92), (3, 14), (4, 94), (5, 96)]))), (40, (.arr 3 tB)), (47, (.int .u16)), (58, tU), (60, (.sl .imm 8 tU)), (69, .err), (76, (.sl .imm 1 .bool)), (79, (.st (.pair (.lf (.cfs [(1, 89), (2, 91), (3, 11), (4, 93), (5, 95)])) (.pair (.lf (.cfs [(1, 90), (2, 92), (3, 14), (4, 94), (5, 96)])) .unit)))), (80, (.lf (.fmap [(1, 89, 90), (2, 91, 92), (3, 11, 14), (4, 93, 94), (5, 95, 96)]))), (88, (.st (.pair (.sl .imm 1 tB) (.pair tI .unit)))), (89, (.sl .imm 8 tI)), (90, (.sl .imm 16 .str)), (93, tU), (103, (.st (.pair .str (.pair .err .unit)))), (126, (.int .u32)), (142, (.st (.pair .str (.pair .err .unit)))), (143, tU), (150, (.st (.pair .str (.pair .err .unit)))), (152, (.st (.pair .str (.pair .err .unit)))), (154, (.st (.pair .str (.pair .err .unit)))), (157, (.st (.pair .str (.pair .err .unit)))), (159, (.st (.pair .str (.pair .err .unit)))), (169, (.ptr (.st (.pair .str .unit)))), (194, (.st (.pair .str .unit)))]
def gls : Nat → Option ((t : Ty) × t.den) := find? [(0, ⟨.err, (UV.sent a1h)⟩), (1, ⟨.err, (UV.sent a3d)⟩), (2, ⟨.err, (UV.sent b1w)⟩), (3, ⟨.err, (UV.sent a4y)⟩), (4, ⟨.err, (UV.sent a2e)⟩), (5, ⟨.err, (UV.sent a2c)⟩), (6, ⟨.err, (UV.sent a3q)⟩), (7, ⟨.err, (UV.sent a4c)⟩)]
noncomputable abbrev P : Program := Go.Proofs.Tryz.prog
set_option maxRecDepth 100000
theorem mixed : P.follows .mixedOrders = true := Go.Proofs.Tryz.checked.mixed
theorem tab {C : Ctx} (h : C.ty = find? tys) : a3y P C := f8i (by kernel_rfl) h
def cH : Ctx := ⟨0, find? tys, fun _ => none, gls, [], [], []⟩
abbrev HA (A : Amb) : Prop := ∀ g T a, A.sent g = some (T, a) → T = 169
end Go.Rb.R4

namespace Go.Rb.R4
open Go.Rb
open Go.RowKit
set_option maxRecDepth 100000
def s29 : Sig := ⟨[.val (.sl .imm 32 (.st (.pair tI (.pair tI (.pair .str .unit)))))], [.val (.sl .own 32 (.st (.pair tI (.pair tI (.pair .str .unit)))))]⟩
def a0u (_n : Nat) (x : (List V4) × Unit) : Option (((List V4) × Unit) × (Unit)) := some ((x.1, ()), ())
theorem nt29 : Go.Proofs.Tryz.f29.ntmps = 8 := by kernel_rfl
theorem fn29 : P.funcs[29]? = some Go.Proofs.Tryz.f29 := by kernel_rfl
theorem f1x : a0b P 29 := a0d (by kernel_rfl)
theorem uT29 : P.underlying 23 = some (.slice 26) := by kernel_rfl
set_option maxHeartbeats 4000000 in
set_option maxRecDepth 1000000 in
theorem d8i (w : World) (n cap : Nat) : Calls P 29 #[.slice none n cap] w fun e w' => e = .returned (.slice none 0 0) ∧ w' = w := by
 go_enter fn29, nt29
 go_wp2
 rw [Lib.run_eql_slice_nil _ _ _ _ _ _ _ _ uT29]
 go_wp2
 go_ret
 exact ⟨rfl, rfl⟩
set_option maxHeartbeats 4000000 in
set_option maxRecDepth 1000000 in
theorem d6p (w : World) (ad : Addr) (n cap : Nat) (v' : Value) (w' : World) (happ : (Builtin.append_ #[23, 23] 23 #[.slice (some ⟨w.heap.size, 0, none⟩) 0 0, .slice (some ad) n cap]).run P (w.alloc (.cells #[] 26)) = .ok v' w') :
  Calls P 29 #[.slice (some ad) n cap] w fun e w'' => e = .returned v' ∧ w'' = w' := by
 go_enter fn29, nt29
 go_upto_region 3 with fail
 rw [Lib.run_eql_slice_nil _ _ _ _ _ _ _ _ uT29]
 go_upto_region 3 with fail
 refine wp_region_lit ?_
 refine wl rfl (.slice (some ⟨w.heap.size, 0, none⟩) 0 0) (w1 := w.alloc (.cells #[] 26)) (by go_simp) ?_
 refine wl rfl (.slice (some ad) n cap) (w1 := w.alloc (.cells #[] 26)) rfl ?_
 refine e6t rfl (.tmp 5) (.tmp 6) 23 23 rfl rfl rfl v' happ ?_
 refine wl rfl v' (w1 := w') rfl (wpList_nil ?_)
 go_wp2
 go_ret
 exact ⟨rfl, rfl⟩
theorem S29 (A : Amb) (n : Nat) : a0s A P cH 29 s29 (a0u n) :=
 d8f (T := 23) (tab rfl) rfl (z := (zeroCells (.st (.pair tI (.pair tI (.pair .str .unit))))).getD []) rfl d8i fun w w' el ad n cap v' h1 h2 => by
  rw [uT29] at h1
  cases h1
  exact d6p w ad n cap v' w' h2
def s111 : Sig := ⟨[.val .str, .val .str], [.val tI]⟩
def a4x (_n : Nat) (x : List Int × List Int × Unit) : Option ((Int × Unit) × (Unit)) := csF x
theorem f9z : Go.Proofs.Tryz.f111.ntmps = 8 := by kernel_rfl
theorem g0b : P.funcs[111]? = some Go.Proofs.Tryz.f111 := by kernel_rfl
theorem f5j : a0b P 111 := a0d (by kernel_rfl)
theorem g0z : P.funcs[130]? = some Go.Proofs.Tryz.f130 := by kernel_rfl
set_option maxHeartbeats 4000000 in
set_option maxRecDepth 1000000 in
theorem c9a (a b : ByteArray) (w : World) : Calls P 111 #[.string a, .string b] w fun e w' => e = .returned (.int .i64 (Lib.compareBytes a.data.toList b.data.toList)) ∧ w' = w := by
 go_enter g0b, f9z
 go_wp2
 rw [run_callFunc_extern g0z (by kernel_rfl) (by kernel_rfl) (by kernel_rfl) (e := Extern.BytealgCompare.compare) (by kernel_rfl), Lib.run_compareString]
 simp only [Result.andThen]
 rw [Oper.upon_value]
 go_wp2
 go_ret
 exact ⟨rfl, rfl⟩
theorem S111 (A : Amb) (n : Nat) : a0s A P cH 111 s111 (a4x n) := c0g c9a
theorem fn68 : P.funcs[68]? = some Go.Proofs.Tryz.f68 := by kernel_rfl
theorem f8u : a0b P 68 := a0d (by kernel_rfl)
theorem fn31 : P.funcs[31]? = some Go.Proofs.Tryz.f31 := by kernel_rfl
theorem f2s : a0b P 31 := a0d (by kernel_rfl)
theorem fn67 : P.funcs[67]? = some Go.Proofs.Tryz.f67 := by kernel_rfl
theorem f7k : a0b P 67 := a0d (by kernel_rfl)
theorem fn70 : P.funcs[70]? = some Go.Proofs.Tryz.f70 := by kernel_rfl
theorem f8j : a0b P 70 := a0d (by kernel_rfl)
theorem fn69 : P.funcs[69]? = some Go.Proofs.Tryz.f69 := by kernel_rfl
theorem f6b : a0b P 69 := a0d (by kernel_rfl)
theorem f6j : P.funcs[110]? = some Go.Proofs.Tryz.f110 := by kernel_rfl
theorem f4z : a0b P 110 := a0d (by kernel_rfl)
theorem f6x : P.funcs[112]? = some Go.Proofs.Tryz.f112 := by kernel_rfl
theorem f5f : a0b P 112 := a0d (by kernel_rfl)
def s30 : Sig := ⟨[.sio (.sl .own 32 (.st (.pair tI (.pair tI (.pair .str .unit))))), .val (.lf (.cfn 31))], []⟩
def a1r (_n : Nat) (x : (List V4) × Unit × Unit) : Option ((Unit) × ((List V4) × Unit)) := f3i tV cfV x
theorem f7b : a0b P 30 := a0d (by kernel_rfl)
theorem nt31 : Go.Proofs.Tryz.f31.ntmps = 32 := by kernel_rfl
theorem nt67 : Go.Proofs.Tryz.f67.ntmps = 20 := by kernel_rfl
theorem nt68 : Go.Proofs.Tryz.f68.ntmps = 9 := by kernel_rfl
theorem nt69 : Go.Proofs.Tryz.f69.ntmps = 8 := by kernel_rfl
theorem nt70 : Go.Proofs.Tryz.f70.ntmps = 20 := by kernel_rfl
theorem g0d : Go.Proofs.Tryz.f110.ntmps = 6 := by kernel_rfl
theorem f9m : Go.Proofs.Tryz.f112.ntmps = 6 := by kernel_rfl
set_option maxHeartbeats 4000000 in
theorem e9y (t i : Int) (s : ByteArray) (W : World) : Calls P 68 #[.agg #[.int .i64 t, .int .i64 i, .string s]] W fun e w' => e = .returned (.int .i64 (b0j t)) ∧ w' = W.alloc (.cells #[.int .i64 t, .int .i64 i, .string s] 26) := by
 go_enter fn68, nt68
 go_wp2
 all_goals (go_ret; refine ⟨?_, rfl⟩; unfold b0j; simp_all)
set_option maxHeartbeats 4000000 in
theorem f5d (x : Int) (W : World) : Calls P 110 #[.int .i64 x] W fun e w' => e = .returned (.bool false) ∧ w' = W := by
 go_enter f6j, g0d
 go_wp2
 go_ret
 exact ⟨rfl, rfl⟩
set_option maxHeartbeats 4000000 in
theorem e6v (x : Int) (W : World) : Calls P 112 #[.int .i64 x] W fun e w' => e = .returned (.bool false) ∧ w' = W := by
 go_enter f6x, f9m
 go_wp2
 go_ret
 exact ⟨rfl, rfl⟩
set_option maxHeartbeats 4000000 in
theorem e4n (x y : Int) (W : World) : Calls P 67 #[.int .i64 x, .int .i64 y] W fun e w' => e = .returned (.int .i64 (cmpZ x y)) ∧ w' = W := by
 go_enter fn67, nt67
 go_wp2_with (go_at_call 110; refine (f5d _ _).mono ?_; rintro e w' ⟨rfl, rfl⟩)
 all_goals (go_ret; refine ⟨?_, rfl⟩; unfold cmpZ; (repeat' split) <;> first | rfl | (exfalso; omega))
set_option maxHeartbeats 4000000 in
theorem d7w (x y : Int) (W : World) : Calls P 70 #[.int .i64 x, .int .i64 y] W fun e w' => e = .returned (.int .i64 (cmpZ x y)) ∧ w' = W := by
 go_enter fn70, nt70
 go_wp2_with (go_at_call 112; refine (e6v _ _).mono ?_; rintro e w' ⟨rfl, rfl⟩)
 all_goals (go_ret; refine ⟨?_, rfl⟩; unfold cmpZ; (repeat' split) <;> first | rfl | (exfalso; omega))
set_option maxHeartbeats 4000000 in
theorem e3n (a b : ByteArray) (w : World) : Calls P 69 #[.string a, .string b] w fun e w' => e = .returned (.int .i64 (Lib.compareBytes a.data.toList b.data.toList)) ∧ w' = w := by
 go_enter fn69, nt69
 go_wp2_with (go_at_call 111; refine (c9a _ _ _).mono ?_; rintro e w' ⟨rfl, rfl⟩)
 go_ret
 exact ⟨rfl, rfl⟩
set_option maxHeartbeats 4000000 in
theorem d8u (t i : Int) (s : ByteArray) (t' i' : Int) (s' : ByteArray) (W : World) : Calls P 31 #[.agg #[.int .i64 t, .int .i64 i, .string s], .agg #[.int .i64 t', .int .i64 i', .string s']] W fun e w' => e = .returned (.int .i64 (cmpV t i s t' i' s')) ∧ ∃ q os, w' = Sort.grow (W.drewN q) os := by
 have mixed := mixed
 go_enter fn31, nt31
 go_wp2_with fail
 go_region_with_o (first | (go_at_call 68; refine (e9y _ _ _ _).mono ?_; rintro e w' ⟨rfl, rfl⟩) | (go_at_call 67; refine (e4n _ _ _).mono ?_; rintro e w' ⟨rfl, rfl⟩))
 all_goals
  obtain ⟨c, hcc⟩ : ∃ c, cmpZ (b0j t) (b0j t') = c := ⟨_, rfl⟩
  rw [hcc]
  by_cases hc : c = 0
  ·subst hc
   by_cases ht : t = 0
   ·have HV : Away _ := ⟨show cmpV t i s t' i' s' = 0 by unfold cmpV; rw [if_pos (.inr ht), hcc]⟩
    clear hcc
    go_wp2_with fail
    go_ret
    exact ⟨congrArg (fun x => Ending.returned (.int .i64 x)) HV.out.symm, 1, _, four W _ _ _ _⟩
   ·by_cases h4 : t = 4
    ·have HV : Away _ := ⟨show cmpV t i s t' i' s' = Lib.compareBytes s.data.toList s'.data.toList by unfold cmpV; rw [if_neg (by simp [hcc, ht]), if_pos h4]⟩
     clear hcc
     go_wp2_with (go_at_call 69; refine (e3n _ _ _).mono ?_; rintro e w' ⟨rfl, rfl⟩)
     go_ret
     exact ⟨congrArg (fun x => Ending.returned (.int .i64 x)) HV.out.symm, 1, _, four W _ _ _ _⟩
    ·have HV : Away _ := ⟨show cmpV t i s t' i' s' = cmpZ i i' by unfold cmpV; rw [if_neg (by simp [hcc, ht]), if_neg h4]⟩
     clear hcc
     go_wp2_with (go_at_call 70; refine (d7w _ _ _).mono ?_; rintro e w' ⟨rfl, rfl⟩)
     go_ret
     exact ⟨congrArg (fun x => Ending.returned (.int .i64 x)) HV.out.symm, 1, _, four W _ _ _ _⟩
  ·have HV : Away _ := ⟨show cmpV t i s t' i' s' = c by unfold cmpV; rw [hcc, if_pos (.inl hc)]⟩
   clear hcc
   go_wp2_with fail
   go_ret
   exact ⟨congrArg (fun x => Ending.returned (.int .i64 x)) HV.out.symm, 1, _, four W _ _ _ _⟩
def e7i : Go.Shelf.Ren := ⟨fun | 6 => 30 | 15 => 66 | 14 => 65 | 28 => 108 | 29 => 109 | 20 => 100 | 21 => 101 | 22 => 102 | 23 => 103 | 24 => 104 | 25 => 105 | 26 => 106 | 27 => 107 | 46 => 125 | 47 => 126 | 48 => 127 | 49 => 128 | 50 => 129 | 57 => 135 | n => n, fun | 22 => 23 | 24 => 26 | 25 => 56 | 3 => 3 | 39 => 93 | 0 => 0 | 53 => 126 | 55 => 58 | 4 => 4 | 46 => 120 | 45 => 119 | 50 => 42 | 5 => 5 | 9 => 9 | 66 => 143 | 70 => 147 | 76 => 160 | 77 => 161 | n => n, fun | n => n⟩
theorem f5u : Go.Proofs.SlLaysF0.n6 Go.Proofs.Tryz.prog e7i := { mixed := by kernel_rfl, f6 := ⟨Go.Proofs.Tryz.f30.name, by decide, Go.Proofs.Tryz.func30.trans (congrArg some (by kernel_rfl))⟩, f14 := ⟨Go.Proofs.Tryz.f65.name, by decide, Go.Proofs.Tryz.func65.trans (congrArg some (by kernel_rfl))⟩, f15 := Go.Proofs.Tryz.func66.trans (congrArg some (by kernel_rfl)), f20 := ⟨Go.Proofs.Tryz.f100.name, by decide, Go.Proofs.Tryz.func100.trans (congrArg some (by kernel_rfl))⟩, f21 := ⟨Go.Proofs.Tryz.f101.name, by decide, Go.Proofs.Tryz.func101.trans (congrArg some (by kernel_rfl))⟩, f22 := ⟨Go.Proofs.Tryz.f102.name, by decide, Go.Proofs.Tryz.func102.trans (congrArg some (by kernel_rfl))⟩, f23 := ⟨Go.Proofs.Tryz.f103.name, by decide, Go.Proofs.Tryz.func103.trans (congrArg some (by kernel_rfl))⟩, f24 := ⟨Go.Proofs.Tryz.f104.name, by decide, Go.Proofs.Tryz.func104.trans (congrArg some (by kernel_rfl))⟩, f25 := ⟨Go.Proofs.Tryz.f105.name, by decide, Go.Proofs.Tryz.func105.trans (congrArg some (by kernel_rfl))⟩, f26 := ⟨Go.Proofs.Tryz.f106.name, by decide, Go.Proofs.Tryz.func106.trans (congrArg some (by kernel_rfl))⟩, f27 := ⟨Go.Proofs.Tryz.f107.name, by decide, Go.Proofs.Tryz.func107.trans (congrArg some (by kernel_rfl))⟩, f28 := Go.Proofs.Tryz.func108.trans (congrArg some (by kernel_rfl)), f29 := Go.Proofs.Tryz.func109.trans (congrArg some (by kernel_rfl)), f46 := ⟨Go.Proofs.Tryz.f125.name, by decide, Go.Proofs.Tryz.func125.trans (congrArg some (by kernel_rfl))⟩, f47 := Go.Proofs.Tryz.func126.trans (congrArg some (by kernel_rfl)), f48 := Go.Proofs.Tryz.func127.trans (congrArg some (by kernel_rfl)), f49 := ⟨Go.Proofs.Tryz.f128.name, by decide, Go.Proofs.Tryz.func128.trans (congrArg some (by kernel_rfl))⟩, f50 := ⟨Go.Proofs.Tryz.f129.name, by decide, Go.Proofs.Tryz.func129.trans (congrArg some (by kernel_rfl))⟩, f57 := ⟨Go.Proofs.Tryz.f135.name, by decide, Go.Proofs.Tryz.func135.trans (congrArg some (by kernel_rfl))⟩, t0 := Go.Proofs.Tryz.underlying0, a0 := Go.Proofs.Tryz.isAgg0, z0 := Go.Proofs.Tryz.sizeOf0, v0 := Go.Proofs.Tryz.zeroValue0, t3 := Go.Proofs.Tryz.underlying3, a3 := Go.Proofs.Tryz.isAgg3, z3 := Go.Proofs.Tryz.sizeOf3, v3 := Go.Proofs.Tryz.zeroValue3, t4 := Go.Proofs.Tryz.underlying4, a4 := Go.Proofs.Tryz.isAgg4, z4 := Go.Proofs.Tryz.sizeOf4, v4 := Go.Proofs.Tryz.zeroValue4, t5 := Go.Proofs.Tryz.underlying5, a5 := Go.Proofs.Tryz.isAgg5, z5 := Go.Proofs.Tryz.sizeOf5, v5 := Go.Proofs.Tryz.zeroValue5, t9 := Go.Proofs.Tryz.underlying9, a9 := Go.Proofs.Tryz.isAgg9, z9 := Go.Proofs.Tryz.sizeOf9, v9 := Go.Proofs.Tryz.zeroValue9, t22 := Go.Proofs.Tryz.underlying23, a22 := Go.Proofs.Tryz.isAgg23, z22 := Go.Proofs.Tryz.sizeOf23, v22 := Go.Proofs.Tryz.zeroValue23, t25 := Go.Proofs.Tryz.underlying56, a25 := Go.Proofs.Tryz.isAgg56, z25 := Go.Proofs.Tryz.sizeOf56, v25 := Go.Proofs.Tryz.zeroValue56, t39 := Go.Proofs.Tryz.underlying93, a39 := Go.Proofs.Tryz.isAgg93, z39 := Go.Proofs.Tryz.sizeOf93, v39 := Go.Proofs.Tryz.zeroValue93, t45 := Go.Proofs.Tryz.underlying119, a45 := Go.Proofs.Tryz.isAgg119, z45 := Go.Proofs.Tryz.sizeOf119, v45 := Go.Proofs.Tryz.zeroValue119, t46 := Go.Proofs.Tryz.underlying120, a46 := Go.Proofs.Tryz.isAgg120, z46 := Go.Proofs.Tryz.sizeOf120, v46 := Go.Proofs.Tryz.zeroValue120, t50 := Go.Proofs.Tryz.underlying42, a50 := Go.Proofs.Tryz.isAgg42, z50 := Go.Proofs.Tryz.sizeOf42, v50 := Go.Proofs.Tryz.zeroValue42, t53 := Go.Proofs.Tryz.underlying126, a53 := Go.Proofs.Tryz.isAgg126, z53 := Go.Proofs.Tryz.sizeOf126, v53 := Go.Proofs.Tryz.zeroValue126, t55 := Go.Proofs.Tryz.underlying58, a55 := Go.Proofs.Tryz.isAgg58, z55 := Go.Proofs.Tryz.sizeOf58, v55 := Go.Proofs.Tryz.zeroValue58, t66 := Go.Proofs.Tryz.underlying143, a66 := Go.Proofs.Tryz.isAgg143, z66 := Go.Proofs.Tryz.sizeOf143, v66 := Go.Proofs.Tryz.zeroValue143, t70 := Go.Proofs.Tryz.underlying147, a70 := Go.Proofs.Tryz.isAgg147, z70 := Go.Proofs.Tryz.sizeOf147, v70 := Go.Proofs.Tryz.zeroValue147, t76 := Go.Proofs.Tryz.underlying160, a76 := Go.Proofs.Tryz.isAgg160, z76 := Go.Proofs.Tryz.sizeOf160, v76 := Go.Proofs.Tryz.zeroValue160, t77 := Go.Proofs.Tryz.underlying161, a77 := Go.Proofs.Tryz.isAgg161, z77 := Go.Proofs.Tryz.sizeOf161, v77 := Go.Proofs.Tryz.zeroValue161 }
theorem e3k (w : World) : Calls P 30 #[.slice none 0 0, .func (.func 31) #[] #[]] w fun e w' => e = .returned (.tuple #[]) ∧ w' = w :=
 Go.Proofs.AnyF.slices_SortFunc_none f5u none 0 (.func (.func 31) #[] #[]) w
theorem e3p (blk cap : Nat) (d : Array tV.den) (w : World) (hH : Sort.HoldsK tV.enc tV.size w blk 0 d) (hb : blk < w.heap.size) (hs : d.size < 4611686018427387904) :
  Calls P 30 #[.slice (some ⟨blk, 0, none⟩) d.size cap, .func (.func 31) #[] #[]] w fun e w' => e = .returned (.tuple #[]) ∧ ∃ n os, w' = Go.Proofs.sortWorldK tV.enc tV.size w blk 0 n (Sort.pdq (Go.Proofs.ltOf cfV) d 0 d.size (Lib.bitLen d.size) true true) os :=
 Go.Proofs.AnyQ.slices_SortFunc_eq f5u 3 (fun w => Go.Proofs.Tryz.isAgg26 w) (fun w => Go.Proofs.Tryz.sizeOf26 w) tV.enc (fun x => Ty.enc_length (t := tV) x rfl) (fun x v hv => Ty.enc_one (t := tV) x v hv) cfV swoV 31 #[] blk 0 cap d w (fun args w => e4w f2s args w)
  (fun m os dk _ x y => d8u x.1 x.2.1 (toBA x.2.2.1) y.1 y.2.1 (toBA y.2.2.1) _) hH hb hs
theorem S30 (A : Amb) (n : Nat) : a0s A P cH 30 s30 (a1r n) := c9y (t0 := .pair tI (.pair tI (.pair .str .unit))) rfl swoV e3k e3p
def s32 : Sig := ⟨[.val (.sl .own 32 (.st (.pair tI (.pair tI (.pair .str .unit)))))], [.val (.sl .own 32 (.st (.pair tI (.pair tI (.pair .str .unit)))))]⟩
def a1u (_n : Nat) (x : (List V4) × Unit) : Option (((List V4) × Unit) × (Unit)) := f4d (.st (.pair tI (.pair tI (.pair .str .unit)))) x
theorem nt32 : Go.Proofs.Tryz.f32.ntmps = 61 := by kernel_rfl
theorem fn32 : P.funcs[32]? = some Go.Proofs.Tryz.f32 := by kernel_rfl
theorem f7x : a0b P 32 := a0d (by kernel_rfl)
theorem c2v {W : World} {a : Addr} {v u : Value} (h1 : v.oneCell' = true) (hc : W.cell? a = some u) (hf : W.frozen? a = false) : Sem.run P (store a v) W = .ok () (W.setCell a v) := by
 rw [run_store P W a v .plain h1, hc]
 simp [hf]
theorem e4z {α : Type} {l : List α} (h : l.length = 3) : ∃ a b c, l = [a, b, c] := by
 match l, h with
 | [a, b, c], _ => exact ⟨a, b, c, rfl⟩
set_option maxHeartbeats 4000000 in
set_option maxRecDepth 1000000 in
theorem e6g (w : World) (b S n cap : Nat) (hn : n ≤ cap) (hroom : n ≤ 140737488355328) (hS : n * 3 ≤ S) (E : Nat → List Value) (eqB : Nat → Nat → Bool)
 (hE : ∀ i, i < n → (E i).length = 3 ∧ ∀ v, v ∈ E i → v.oneCell' = true)
 (heq : ∀ i j, i < n → j < n → ∀ W, (binOp .eql 26 (.agg (E i).toArray) (.agg (E j).toArray)).run P W = .ok (.bool (eqB i j)) W)
 (hne : ∀ i j, i < n → j < n → ∀ W, (binOp .neq 26 (.agg (E i).toArray) (.agg (E j).toArray)).run P W = .ok (.bool (!eqB i j)) W)
 (hgd : ∀ (op : BinOp) (x y : Operand) i j, ∀ W, (eqGuard op 26 x y (.agg (E i).toArray) (.agg (E j).toArray)).run P W = .ok () W)
 (hcl : ∀ (k : Nat) X W, k < n → CW w b S 3 n X W → ∃ W', (Builtin.clear_ #[23] 0 #[.slice (some ⟨b, k * 3, none⟩) (n - k) (cap - k)]).run P W = .ok (.tuple #[]) W' ∧ CW w b S 3 k X W')
 (hcw : CW w b S 3 n E w) :
  Calls P 32 #[.slice (some ⟨b, 0, none⟩) n cap] w fun e w' => e = .returned (.slice (some ⟨b, 0, none⟩) (a3p eqB n).length cap) ∧ CW w b S 3 (a3p eqB n).length (XK E (a3p eqB n)) w' := by
 have mixed := mixed
 have fin : ∀ W, (∀ j, j < n → b7i eqB j = true) → CW w b S 3 n E W → n = (a3p eqB n).length ∧ CW w b S 3 (a3p eqB n).length (XK E (a3p eqB n)) W := fun W h hc => by
  have hk := d1n h
  have hl : n = (a3p eqB n).length := by rw [hk]; simp
  refine ⟨hl, ?_⟩
  rw [← hl]
  exact hc.congr fun i hi => by rw [hk, e0z]
 have FIN : Away _ := ⟨fin⟩
 have HCL : Away _ := ⟨hcl⟩
 have HEQ : Away _ := ⟨heq⟩
 have HNE : Away _ := ⟨hne⟩
 have HGD : Away _ := ⟨hgd⟩
 have HE : Away _ := ⟨hE⟩
 clear fin hcl heq hne hgd hE
 by_cases h2 : n < 2
 ·have HC : Away _ := ⟨hcw⟩
  clear hcw
  go_enter fn32, nt32
  go_wp2
  go_ret
  obtain ⟨e1, e2⟩ := FIN.out w (fun j hj => by
   have : j = 0 := by omega
   simp [b7i, this]) HC.out
  exact ⟨by rw [← e1]; rfl, e2⟩
 go_enter fn32, nt32
 go_wp2
 go_loopg [3] n (fun g s3 wr => ∃ k : Nat, 1 ≤ k ∧ k ≤ n ∧ n - k ≤ g ∧ s3 = .int .i64 k ∧ CW w b S 3 n E wr ∧ ∀ j, j < k → b7i eqB j = true)
 case atStart => exact ⟨1, Nat.le_refl _, by omega, by omega, rfl, hcw, fun j hj => by
  have : j = 0 := by omega
  simp [b7i, this]⟩
 case round =>
  obtain ⟨k, hk1, hk, hg, rfl, hcr, hall⟩ := hrel
  have A : Away _ := ⟨hall⟩
  have HR : Away _ := ⟨hcr⟩
  clear hall hcr hcw
  by_cases hlt : k < n
  ·obtain ⟨kp, rfl⟩ : ∃ kp, k = kp + 1 := ⟨k - 1, by omega⟩
   have he := HEQ.out (kp + 1) kp hlt (by omega)
   have hg' := fun op x y => HGD.out op x y (kp + 1) kp
   obtain ⟨x0, x1, x2, hx⟩ := e4z (HE.out (kp + 1) hlt).1
   obtain ⟨y0, y1, y2, hy⟩ := e4z (HE.out kp (by omega)).1
   have a0 := HR.out.cell hS hlt (j := 0) (by rw [hx]; rfl)
   have a1 := HR.out.cell hS hlt (j := 1) (by rw [hx]; rfl)
   have a2 := HR.out.cell hS hlt (j := 2) (by rw [hx]; rfl)
   have b0 := HR.out.cell hS (show kp < n by omega) (j := 0) (by rw [hy]; rfl)
   have b1 := HR.out.cell hS (show kp < n by omega) (j := 1) (by rw [hy]; rfl)
   have b2 := HR.out.cell hS (show kp < n by omega) (j := 2) (by rw [hy]; rfl)
   rw [Nat.add_zero] at a0 b0
   rw [hx, hy] at he hg'
   clear hx hy
   have z0 : (0 : Int) ≤ (kp : Int) + 1 := by omega
   have z1 : (kp : Int) < (n : Int) := by omega
   cases hd : eqB (kp + 1) kp with
   | false =>
    rw [hd] at he
    go_wp2_with fail
    go_region_o
    go_wp2
    go_roundg (n - (kp + 1 + 1))
    case measure => omega
    case rel =>
     refine ⟨kp + 1 + 1, by omega, by omega, Nat.le_refl _, by go_num, HR.out.drew, fun j hj => ?_⟩
     by_cases e : j = kp + 1
     ·subst e; simp [b7i, hd]
     ·exact A.out j (by omega)
   | true =>
    rw [hd] at he
    go_wp2_with fail
    go_region_o
    clear a0 a1 a2 b0 b1 b2 he hg'
    have hkc : ¬ cap = kp + 1 := by omega
    have hkn : kp + 1 ≤ cap := by omega
    go_wp2
    go_loopg [3, 5] n (fun g s3 s5 wr2 => ∃ k2 : Nat, s3 = .int .i64 ((a3p eqB (kp + 1 + k2)).length : Nat) ∧ s5 = .int .i64 k2 ∧ 1 ≤ k2 ∧ kp + 1 + k2 ≤ n ∧ n - (kp + 1 + k2) ≤ g ∧ CW w b S 3 n (XK E (a3p eqB (kp + 1 + k2))) wr2 ∧ (a3p eqB (kp + 1 + k2)).length < kp + 1 + k2)
    case atStart =>
     have hkt : a3p eqB (kp + 1 + 1) = List.range (kp + 1) := by
      rw [b6i, d1n A.out]
      simp [b7i, hd]
     refine ⟨1, by rw [hkt]; simp, rfl, Nat.le_refl _, by omega, by omega, ?_, by rw [hkt]; simp⟩
     exact HR.out.drew.congr fun i hi => by rw [hkt, e0z]
    case round =>
     obtain ⟨k2, rfl, rfl, h1, hle, hg2, hcw2, hL⟩ := hrel
     have H2 : Away _ := ⟨hcw2⟩
     obtain ⟨kk, hkk⟩ : ∃ kk, (a3p eqB (kp + 1 + k2)).length = kk := ⟨_, rfl⟩
     have HKK : Away _ := ⟨hkk⟩
     rw [hkk] at hL ⊢
     clear hcw2 hkk
     by_cases hm : kp + 1 + k2 < n
     ·obtain ⟨j, rfl⟩ : ∃ j, k2 = j + 1 := ⟨k2 - 1, by omega⟩
      have hXm : XK E (a3p eqB (kp + 1 + (j + 1))) (kp + 1 + (j + 1)) = E (kp + 1 + (j + 1)) := e7a (by rw [HKK.out]; omega)
      have hXp : XK E (a3p eqB (kp + 1 + (j + 1))) (kp + 1 + j) = E (kp + 1 + j) := e7a (by rw [HKK.out]; omega)
      have he := HNE.out (kp + 1 + (j + 1)) (kp + 1 + j) hm (by omega)
      have hg' := fun op x y => HGD.out op x y (kp + 1 + (j + 1)) (kp + 1 + j)
      obtain ⟨x0, x1, x2, hx⟩ := e4z (HE.out (kp + 1 + (j + 1)) hm).1
      obtain ⟨y0, y1, y2, hy⟩ := e4z (HE.out (kp + 1 + j) (by omega)).1
      have hone := (HE.out (kp + 1 + (j + 1)) hm).2
      rw [hx] at hone
      have o0 := hone x0 (by simp)
      have o1 := hone x1 (by simp)
      have o2 := hone x2 (by simp)
      clear hone
      have a0 := H2.out.cell hS hm (j := 0) (by rw [hXm, hx]; rfl)
      have a1 := H2.out.cell hS hm (j := 1) (by rw [hXm, hx]; rfl)
      have a2 := H2.out.cell hS hm (j := 2) (by rw [hXm, hx]; rfl)
      have b0 := H2.out.cell hS (show kp + 1 + j < n by omega) (j := 0) (by rw [hXp, hy]; rfl)
      have b1 := H2.out.cell hS (show kp + 1 + j < n by omega) (j := 1) (by rw [hXp, hy]; rfl)
      have b2 := H2.out.cell hS (show kp + 1 + j < n by omega) (j := 2) (by rw [hXp, hy]; rfl)
      rw [Nat.add_zero] at a0 b0
      have ea : (kp + 1 + (j + 1)) * 3 = (kp + 1) * 3 + (j + 1) * 3 := by omega
      have eb : (kp + 1 + j) * 3 = (kp + 1) * 3 + j * 3 := by omega
      rw [ea] at a0 a1 a2
      rw [eb] at b0 b1 b2
      rw [hx, hy] at he hg'
      have HX : Away _ := ⟨hx⟩
      clear hx hy ea eb hXm hXp
      have z0 : (0 : Int) ≤ (j : Int) + 1 := by omega
      have z1 : (j : Int) + 1 < ((n - (kp + 1) : Nat) : Int) := by omega
      have z2 : (j : Int) < ((n - (kp + 1) : Nat) : Int) := by omega
      cases hd2 : eqB (kp + 1 + (j + 1)) (kp + 1 + j) with
      | true =>
       rw [hd2] at he
       go_wp2_with fail
       go_region_o
       go_wp2
       go_roundg (n - (kp + 1 + (j + 1 + 1)))
       case measure => omega
       case rel =>
        have hkt : a3p eqB (kp + 1 + (j + 1 + 1)) = a3p eqB (kp + 1 + (j + 1)) := by
         rw [show kp + 1 + (j + 1 + 1) = (kp + 1 + (j + 1)) + 1 by omega, b6i]
         simp [b7i, show kp + 1 + (j + 1) - 1 = kp + 1 + j by omega, hd2]
        refine ⟨j + 1 + 1, by rw [hkt, HKK.out], by go_num, by omega, by omega, Nat.le_refl _, by rw [hkt]; exact H2.out.drew, by rw [hkt, HKK.out]; omega⟩
      | false =>
       rw [hd2] at he
       obtain ⟨v0, v1, v2, hv⟩ : ∃ v0 v1 v2, XK E (a3p eqB (kp + 1 + (j + 1))) kk = [v0, v1, v2] := e4z (by
        obtain ⟨c, _, q2, q3⟩ := H2.out.blk
        rw [← q3 kk (by omega)]
        exact a4m (by have := a7h (sz := 3) (show kk < n by omega); simp; omega))
       have c0 := H2.out.cell hS (show kk < n by omega) (j := 0) (by rw [hv]; rfl)
       have c1 := H2.out.cell hS (show kk < n by omega) (j := 1) (by rw [hv]; rfl)
       have c2 := H2.out.cell hS (show kk < n by omega) (j := 2) (by rw [hv]; rfl)
       have f0 := H2.out.frozen hS (show kk < n by omega) (j := 0) (by omega)
       have f1 := H2.out.frozen hS (show kk < n by omega) (j := 1) (by omega)
       have f2 := H2.out.frozen hS (show kk < n by omega) (j := 2) (by omega)
       rw [Nat.add_zero] at c0 f0
       have g0 : Sem.run P (store ⟨b, kk * 3, none⟩ x0) wr.drew = .ok () (wr.setCell ⟨b, kk * 3, none⟩ x0).drew := c2v (W := wr.drew) o0 c0 f0
       have g1 : Sem.run P (store ⟨b, kk * 3 + 1, none⟩ x1) (wr.setCell ⟨b, kk * 3, none⟩ x0).drew = .ok () ((wr.setCell ⟨b, kk * 3, none⟩ x0).setCell ⟨b, kk * 3 + 1, none⟩ x1).drew :=
        c2v (W := (wr.setCell ⟨b, kk * 3, none⟩ x0).drew) o1 (u := v1) (by
         show (wr.setCell ⟨b, kk * 3, none⟩ x0).cell? _ = _
         rw [World.cell?_setCell_other _ (h := show (⟨b, kk * 3, none⟩ : Addr) ≠ ⟨b, kk * 3 + 1, none⟩ by simp)]; exact c1) (by
         show (wr.setCell ⟨b, kk * 3, none⟩ x0).frozen? _ = _
         rw [World.frozen?_setCell]; exact f1)
       have g2 : Sem.run P (store ⟨b, kk * 3 + 2, none⟩ x2) ((wr.setCell ⟨b, kk * 3, none⟩ x0).setCell ⟨b, kk * 3 + 1, none⟩ x1).drew = .ok () (((wr.setCell ⟨b, kk * 3, none⟩ x0).setCell ⟨b, kk * 3 + 1, none⟩ x1).setCell ⟨b, kk * 3 + 2, none⟩ x2).drew :=
        c2v (W := ((wr.setCell ⟨b, kk * 3, none⟩ x0).setCell ⟨b, kk * 3 + 1, none⟩ x1).drew) o2 (u := v2) (by
         show ((wr.setCell ⟨b, kk * 3, none⟩ x0).setCell ⟨b, kk * 3 + 1, none⟩ x1).cell? _ = _
         rw [World.cell?_setCell_other _ (h := show (⟨b, kk * 3 + 1, none⟩ : Addr) ≠ ⟨b, kk * 3 + 2, none⟩ by simp), World.cell?_setCell_other _ (h := show (⟨b, kk * 3, none⟩ : Addr) ≠ ⟨b, kk * 3 + 2, none⟩ by simp)]; exact c2) (by
         show ((wr.setCell ⟨b, kk * 3, none⟩ x0).setCell ⟨b, kk * 3 + 1, none⟩ x1).frozen? _ = _
         rw [World.frozen?_setCell, World.frozen?_setCell]; exact f2)
       clear c0 c1 c2 f0 f1 f2
       clear hv
       have z3 : (kk : Int) < (n : Int) := by omega
       go_wp2_with fail
       go_region_o
       go_wp2
       go_roundg (n - (kp + 1 + (j + 1 + 1)))
       case measure => omega
       case rel =>
        have hkt : a3p eqB (kp + 1 + (j + 1 + 1)) = a3p eqB (kp + 1 + (j + 1)) ++ [kp + 1 + (j + 1)] := by
         rw [show kp + 1 + (j + 1 + 1) = (kp + 1 + (j + 1)) + 1 by omega, b6i]
         simp [b7i, show kp + 1 + (j + 1) - 1 = kp + 1 + j by omega, hd2]
        refine ⟨j + 1 + 1, by rw [hkt]; simp only [List.length_append, HKK.out]; go_num, by go_num, by omega, by omega, Nat.le_refl _, ?_, by rw [hkt]; simp only [List.length_append, HKK.out, List.length_cons, List.length_nil]; omega⟩
        rw [hkt]
        refine (H2.out.drew.set3 P hS (show kk < n by omega) o0 o1 o2).congr fun i hi => ?_
        rw [← f3s, HKK.out, HX.out]
     ·have hmn : kp + 1 + k2 = n := by omega
      obtain ⟨W', hcl, hcw3⟩ := HCL.out kk _ wr (by omega) H2.out
      have H3 : Away _ := ⟨hcw3⟩
      clear hcw3
      have hkc2 : ¬ cap = kk := by omega
      have hkn2 : kk ≤ n := by omega
      have hkn3 : kk ≤ cap := by omega
      go_wp2
      go_ret
      have e := HKK.out
      rw [hmn] at e
      refine ⟨by rw [e]; rfl, ?_⟩
      rw [e, ← hmn]
      exact H3.out
  ·have : k = n := by omega
   subst this
   go_wp2
   go_ret
   obtain ⟨e1, e2⟩ := FIN.out _ A.out HR.out
   exact ⟨by rw [← e1]; rfl, e2⟩
theorem uT32 : P.underlying 23 = some (.slice 26) := by kernel_rfl
set_option maxHeartbeats 4000000 in
set_option maxRecDepth 1000000 in
theorem e7x (w : World) : Calls P 32 #[.slice none 0 0] w fun e w' => e = .returned (.slice none 0 0) ∧ w' = w := by
 go_enter fn32, nt32
 go_wp2
 go_ret
 exact ⟨rfl, rfl⟩
theorem S32 (A : Amb) (n : Nat) : a0s A P cH 32 s32 (a1u n) :=
 d2e (T := 23) (EL := 26) (tab rfl) rfl rfl uT32 rfl (z := (zeroCells (.st (.pair tI (.pair tI (.pair .str .unit))))).getD []) rfl rfl (by decide) (fun x y => rfl) e7x e6g
def s46 : Sig := ⟨[.val .err, .val .err], [.val .bool]⟩
def a2b (_n : Nat) (x : UV × UV × Unit) : Option ((Bool × Unit) × (Unit)) := isFs [a3k, a6w, a9g, a4i, a4o, a7c, a7z] x
theorem nt46 : Go.Proofs.Tryz.f46.ntmps = 22 := by kernel_rfl
theorem fn46 : P.funcs[46]? = some Go.Proofs.Tryz.f46 := by kernel_rfl
theorem c9q : a0b P 46 := a0d (by kernel_rfl)
theorem fn82 : P.funcs[82]? = some Go.Proofs.Tryz.f82 := by kernel_rfl
theorem nt82 : Go.Proofs.Tryz.f82.ntmps = 54 := by kernel_rfl
theorem fn81 : P.funcs[81]? = some Go.Proofs.Tryz.f81 := by kernel_rfl
theorem b9s : P.funcs[159]? = some Go.Proofs.Tryz.f159 := by kernel_rfl
theorem a6h (v : Value) (w : World) : (Extern.ReflectliteType.typeOf #[.iface 169 v]).run P w = .ok (.iface 131 (.agg #[.pointer (some ⟨9, 169, none⟩)])) w := by kernel_rfl
def b2e : Array Value → Sem Value := Extern.ReflectliteType.method fun t => do Extern.Rtype.noPackHeld "Comparable" t; pure (.bool (← typeInfo t).comparable)
theorem a2m (w : World) : (b2e #[.agg #[.pointer (some ⟨9, 169, none⟩)]]).run P w = .ok (.bool true) w := by kernel_rfl
theorem a0v (v : Value) (w : World) : (Go.method 305 131 v "Comparable").run P w = .ok (159, v) w := by kernel_rfl
theorem b2j : (P.info? 169).map (·.comparable) = some true := by kernel_rfl
theorem b2k : (P.info? 194).map (·.size) = some 1 := by kernel_rfl
theorem u130 : P.underlying 169 = some (.pointer 194) := by kernel_rfl
theorem i77 : e6a P 69 = true := by kernel_rfl
theorem nE1 : b6u P 169 133 = true := by kernel_rfl
theorem nE2 : b6u P 169 136 = true := by kernel_rfl
theorem nE3 : b6u P 169 138 = true := by kernel_rfl
set_option maxHeartbeats 4000000 in
theorem f8p (b : Addr) (w : World) : Calls P 46 #[.nilIface, .iface 169 (.pointer (some b))] w fun e w' => e = .returned (.bool false) ∧ w' = w := by
 obtain ⟨ms, h77⟩ := a1a i77
 have hn := run_eql_iface_nil_left (P := P) w 169 (.pointer (some b)) h77
 go_enter fn46, nt46
 go_wp2
 go_ret
 exact ⟨rfl, rfl⟩
set_option maxHeartbeats 4000000 in
theorem f3m (a : Addr) (w : World) : Calls P 82 #[.iface 169 (.pointer (some a)), .iface 169 (.pointer (some a)), .bool true] w fun e w' => e = .returned (.bool true) ∧ w' = w := by
 obtain ⟨ms, h77⟩ := a1a i77
 obtain ⟨i, hi, hcmp⟩ := Option.map_eq_some_iff.1 b2j
 obtain ⟨j, hj, hjs⟩ := Option.map_eq_some_iff.1 b2k
 have heq := run_eql_iface_ptr_same (P := P) w a h77 u130 hi hcmp hj
 go_enter fn82, nt82
 go_wp2
 refine wp_loop_rounds 1 ?_
 rw [rounds_succ]
 go_wp2
 go_ret
 exact ⟨rfl, rfl⟩
set_option maxHeartbeats 4000000 in
theorem e8w (a b : Addr) (ca cb : Array Value) (ta tb : TypeId) (w : World) (hne : a ≠ b) (ha : w.heap[a.block]? = some (.cells ca ta (0, 0))) (hb : w.heap[b.block]? = some (.cells cb tb (0, 0))) :
  Calls P 82 #[.iface 169 (.pointer (some a)), .iface 169 (.pointer (some b)), .bool true] w fun e w' => e = .returned (.bool false) ∧ w' = w := by
 obtain ⟨ms, h77⟩ := a1a i77
 obtain ⟨i, hi, hcmp⟩ := Option.map_eq_some_iff.1 b2j
 obtain ⟨j, hj, hjs⟩ := Option.map_eq_some_iff.1 b2k
 have nE := a0c nE1
 have uE := a0c nE2
 have vE := a0c nE3
 have heq := run_eql_iface_ptr_other (P := P) w h77 u130 hi hcmp hj (by rw [hjs]; decide) hne ha hb
 go_enter fn82, nt82
 go_wp2
 refine wp_loop_rounds 1 ?_
 rw [rounds_succ]
 go_wp2
 go_ret
 exact ⟨rfl, rfl⟩
theorem a3t {h : Array Obj} {k : Nat} {c : Array Value} {t : TypeId} {fr : Nat × Nat} (hh : h[k]? = some (.cells c t fr)) : k < h.size := by
 rcases Nat.lt_or_ge k h.size with h1 | h1
 ·exact h1
 ·rw [Array.getElem?_eq_none h1] at hh; cases hh
set_option maxHeartbeats 4000000 in
theorem f4p (a : Addr) (w : World) :
  Calls P 46 #[.iface 169 (.pointer (some a)), .iface 169 (.pointer (some a))] w fun e w' => e = .returned (.bool true) ∧ w' = w := by
 obtain ⟨ms, h77⟩ := a1a i77
 have h8 := @run_callFunc_extern P 81 _ Extern.ReflectliteType.typeOf fn81 (by kernel_rfl) (by kernel_rfl) (by kernel_rfl) (by kernel_rfl)
 have h32 := @run_callFunc_extern P 159 _ b2e b9s (by kernel_rfl) (by kernel_rfl) (by kernel_rfl) (by kernel_rfl)
 have tT := a6h
 have cT := a2m
 have mR := a0v
 go_enter fn46, nt46
 go_wp2_with (go_at_call 82; refine (f3m a w).mono ?_; rintro e w' ⟨rfl, hx⟩)
 go_ret
 first | exact ⟨rfl, hx⟩ | exact ⟨rfl, rfl⟩
set_option maxHeartbeats 4000000 in
theorem e9t (a b : Addr) (ca cb : Array Value) (ta tb : TypeId) (w : World) (hne : a ≠ b) (ha : w.heap[a.block]? = some (.cells ca ta (0, 0))) (hb : w.heap[b.block]? = some (.cells cb tb (0, 0))) :
  Calls P 46 #[.iface 169 (.pointer (some a)), .iface 169 (.pointer (some b))] w fun e w' => e = .returned (.bool false) ∧ w' = w := by
 obtain ⟨ms, h77⟩ := a1a i77
 have h8 := @run_callFunc_extern P 81 _ Extern.ReflectliteType.typeOf fn81 (by kernel_rfl) (by kernel_rfl) (by kernel_rfl) (by kernel_rfl)
 have h32 := @run_callFunc_extern P 159 _ b2e b9s (by kernel_rfl) (by kernel_rfl) (by kernel_rfl) (by kernel_rfl)
 have tT := a6h
 have cT := a2m
 have mR := a0v
 go_enter fn46, nt46
 go_wp2_with (go_at_call 82; refine (e8w a b ca cb ta tb w hne ha hb).mono ?_; rintro e w' ⟨rfl, hx⟩)
 go_ret
 first | exact ⟨rfl, hx⟩ | exact ⟨rfl, rfl⟩
theorem f9r : P.funcs[155]? = some Go.Proofs.Tryz.f155 := by kernel_rfl
theorem f9n : Go.Proofs.Tryz.f155.ntmps = 5 := by kernel_rfl
theorem f1t : b6u P 103 133 = true := by kernel_rfl
theorem f2o : hasB P 103 136 = true := by kernel_rfl
theorem b7s (v : Value) (w : World) : (Go.method 305 103 v "Unwrap").run P w = .ok (155, v) w := by kernel_rfl
set_option maxHeartbeats 4000000 in
theorem f3a (s : ByteArray) (v : Value) (w : World) (hv : v.oneCell' = true) : Calls P 155 #[.agg #[.string s, v]] w fun e w' => e = .returned v ∧ Below w.heap.size w w' := by
 go_enter f9r, f9n
 go_wp2
 go_ret
 exact ⟨rfl, (Below.refl _ w).alloc (Nat.le_refl _) _⟩
set_option maxHeartbeats 4000000 in
theorem e0d (s : ByteArray) (b : Addr) (w : World) :
  Calls P 82 #[.iface 103 (.agg #[.string s, .iface 169 (.pointer (some b))]), .iface 169 (.pointer (some b)), .bool true] w fun e w' => e = .returned (.bool true) ∧ Below w.heap.size w w' := by
 obtain ⟨ms, h77⟩ := a1a i77
 obtain ⟨i, hi, hcmp⟩ := Option.map_eq_some_iff.1 b2j
 obtain ⟨j, hj, hjs⟩ := Option.map_eq_some_iff.1 b2k
 have nE := a0c nE1
 have uE := a0c nE2
 have vE := a0c nE3
 have nW := a0c f1t
 have uW := a4n f2o
 have mU := b7s
 have heq := fun w => run_eql_iface_ptr_same (P := P) w b h77 u130 hi hcmp hj
 have hty := run_eql_iface_types (P := P) 103 169 (.agg #[.string s, .iface 169 (.pointer (some b))]) (.pointer (some b)) h77 (by decide) w
 have hu := f3a s (.iface 169 (.pointer (some b))) w rfl
 go_enter fn82, nt82
 go_wp2
 refine wp_loop_rounds 2 ?_
 rw [rounds_succ]
 go_wp2_with (go_at_call 155; refine hu.mono ?_; rintro e w' ⟨rfl, hb⟩)
 rw [rounds_succ]
 go_wp2
 go_ret
 exact ⟨rfl, by assumption⟩
set_option maxHeartbeats 4000000 in
theorem d5r (s : ByteArray) (a b : Addr) (ca cb : Array Value) (ta tb : TypeId) (w : World) (hne : a ≠ b) (hal : a.block < w.heap.size) (hbl : b.block < w.heap.size) (ha : w.heap[a.block]? = some (.cells ca ta (0, 0))) (hb : w.heap[b.block]? = some (.cells cb tb (0, 0))) :
  Calls P 82 #[.iface 103 (.agg #[.string s, .iface 169 (.pointer (some a))]), .iface 169 (.pointer (some b)), .bool true] w fun e w' => e = .returned (.bool false) ∧ Below w.heap.size w w' := by
 obtain ⟨ms, h77⟩ := a1a i77
 obtain ⟨i, hi, hcmp⟩ := Option.map_eq_some_iff.1 b2j
 obtain ⟨j, hj, hjs⟩ := Option.map_eq_some_iff.1 b2k
 have nE := a0c nE1
 have uE := a0c nE2
 have vE := a0c nE3
 have nW := a0c f1t
 have uW := a4n f2o
 have mU := b7s
 have heq : ∀ w' : World, Below w.heap.size w w' → (binOp .eql 69 (.iface 169 (.pointer (some a))) (.iface 169 (.pointer (some b)))).run P w' = .ok (.bool false) w' := fun w' hB => run_eql_iface_ptr_other (P := P) w' h77 u130 hi hcmp hj (by rw [hjs]; decide) hne ((hB.block _ hal).trans ha) ((hB.block _ hbl).trans hb)
 have hty := run_eql_iface_types (P := P) 103 169 (.agg #[.string s, .iface 169 (.pointer (some a))]) (.pointer (some b)) h77 (by decide) w
 have hu := f3a s (.iface 169 (.pointer (some a))) w rfl
 go_enter fn82, nt82
 go_wp2
 refine wp_loop_rounds 2 ?_
 rw [rounds_succ]
 go_wp2_with (go_at_call 155; refine hu.mono ?_; rintro e w' ⟨rfl, hB⟩; have heq2 := heq w' hB)
 rw [rounds_succ]
 go_wp2
 go_ret
 exact ⟨rfl, by assumption⟩
set_option maxHeartbeats 4000000 in
theorem d9t (s : ByteArray) (b : Addr) (w : World) (_ : ∃ ca ta, w.heap[b.block]? = some (.cells ca ta (0, 0))) :
  Calls P 46 #[.iface 103 (.agg #[.string s, .iface 169 (.pointer (some b))]), .iface 169 (.pointer (some b))] w fun e w' => e = .returned (.bool true) ∧ Below w.heap.size w w' := by
 obtain ⟨ms, h77⟩ := a1a i77
 have h8 := @run_callFunc_extern P 81 _ Extern.ReflectliteType.typeOf fn81 (by kernel_rfl) (by kernel_rfl) (by kernel_rfl) (by kernel_rfl)
 have h32 := @run_callFunc_extern P 159 _ b2e b9s (by kernel_rfl) (by kernel_rfl) (by kernel_rfl) (by kernel_rfl)
 have tT := a6h
 have cT := a2m
 have mR := a0v
 go_enter fn46, nt46
 go_wp2_with (go_at_call 82; refine (e0d s b w).mono ?_; rintro e w' ⟨rfl, hx⟩)
 go_ret
 first | exact ⟨rfl, hx⟩ | exact ⟨rfl, rfl⟩
set_option maxHeartbeats 4000000 in
theorem d6r (s : ByteArray) (a b : Addr) (ca cb : Array Value) (ta tb : TypeId) (w : World) (hne : a ≠ b) (ha : w.heap[a.block]? = some (.cells ca ta (0, 0))) (hb : w.heap[b.block]? = some (.cells cb tb (0, 0))) :
  Calls P 46 #[.iface 103 (.agg #[.string s, .iface 169 (.pointer (some a))]), .iface 169 (.pointer (some b))] w fun e w' => e = .returned (.bool false) ∧ Below w.heap.size w w' := by
 obtain ⟨ms, h77⟩ := a1a i77
 have h8 := @run_callFunc_extern P 81 _ Extern.ReflectliteType.typeOf fn81 (by kernel_rfl) (by kernel_rfl) (by kernel_rfl) (by kernel_rfl)
 have h32 := @run_callFunc_extern P 159 _ b2e b9s (by kernel_rfl) (by kernel_rfl) (by kernel_rfl) (by kernel_rfl)
 have tT := a6h
 have cT := a2m
 have mR := a0v
 go_enter fn46, nt46
 go_wp2_with (go_at_call 82; refine (d5r s a b ca cb ta tb w hne (a3t ha) (a3t hb) ha hb).mono ?_; rintro e w' ⟨rfl, hx⟩)
 go_ret
 first | exact ⟨rfl, hx⟩ | exact ⟨rfl, rfl⟩
theorem g1b : P.funcs[169]? = some Go.Proofs.Tryz.f169 := by kernel_rfl
theorem g0a : Go.Proofs.Tryz.f169.ntmps = 5 := by kernel_rfl
theorem f2i : b6u P 142 133 = true := by kernel_rfl
theorem f2d : hasB P 142 136 = true := by kernel_rfl
theorem b8n (v : Value) (w : World) : (Go.method 305 142 v "Unwrap").run P w = .ok (169, v) w := by kernel_rfl
set_option maxHeartbeats 4000000 in
theorem f1o (s : ByteArray) (v : Value) (w : World) (hv : v.oneCell' = true) : Calls P 169 #[.agg #[.string s, v]] w fun e w' => e = .returned v ∧ Below w.heap.size w w' := by
 go_enter g1b, g0a
 go_wp2
 go_ret
 exact ⟨rfl, (Below.refl _ w).alloc (Nat.le_refl _) _⟩
set_option maxHeartbeats 4000000 in
theorem d9h (s : ByteArray) (b : Addr) (w : World) :
  Calls P 82 #[.iface 142 (.agg #[.string s, .iface 169 (.pointer (some b))]), .iface 169 (.pointer (some b)), .bool true] w fun e w' => e = .returned (.bool true) ∧ Below w.heap.size w w' := by
 obtain ⟨ms, h77⟩ := a1a i77
 obtain ⟨i, hi, hcmp⟩ := Option.map_eq_some_iff.1 b2j
 obtain ⟨j, hj, hjs⟩ := Option.map_eq_some_iff.1 b2k
 have nE := a0c nE1
 have uE := a0c nE2
 have vE := a0c nE3
 have nW := a0c f2i
 have uW := a4n f2d
 have mU := b8n
 have heq := fun w => run_eql_iface_ptr_same (P := P) w b h77 u130 hi hcmp hj
 have hty := run_eql_iface_types (P := P) 142 169 (.agg #[.string s, .iface 169 (.pointer (some b))]) (.pointer (some b)) h77 (by decide) w
 have hu := f1o s (.iface 169 (.pointer (some b))) w rfl
 go_enter fn82, nt82
 go_wp2
 refine wp_loop_rounds 2 ?_
 rw [rounds_succ]
 go_wp2_with (go_at_call 169; refine hu.mono ?_; rintro e w' ⟨rfl, hb⟩)
 rw [rounds_succ]
 go_wp2
 go_ret
 exact ⟨rfl, by assumption⟩
set_option maxHeartbeats 4000000 in
theorem d8b (s : ByteArray) (a b : Addr) (ca cb : Array Value) (ta tb : TypeId) (w : World) (hne : a ≠ b) (hal : a.block < w.heap.size) (hbl : b.block < w.heap.size) (ha : w.heap[a.block]? = some (.cells ca ta (0, 0))) (hb : w.heap[b.block]? = some (.cells cb tb (0, 0))) :
  Calls P 82 #[.iface 142 (.agg #[.string s, .iface 169 (.pointer (some a))]), .iface 169 (.pointer (some b)), .bool true] w fun e w' => e = .returned (.bool false) ∧ Below w.heap.size w w' := by
 obtain ⟨ms, h77⟩ := a1a i77
 obtain ⟨i, hi, hcmp⟩ := Option.map_eq_some_iff.1 b2j
 obtain ⟨j, hj, hjs⟩ := Option.map_eq_some_iff.1 b2k
 have nE := a0c nE1
 have uE := a0c nE2
 have vE := a0c nE3
 have nW := a0c f2i
 have uW := a4n f2d
 have mU := b8n
 have heq : ∀ w' : World, Below w.heap.size w w' → (binOp .eql 69 (.iface 169 (.pointer (some a))) (.iface 169 (.pointer (some b)))).run P w' = .ok (.bool false) w' := fun w' hB => run_eql_iface_ptr_other (P := P) w' h77 u130 hi hcmp hj (by rw [hjs]; decide) hne ((hB.block _ hal).trans ha) ((hB.block _ hbl).trans hb)
 have hty := run_eql_iface_types (P := P) 142 169 (.agg #[.string s, .iface 169 (.pointer (some a))]) (.pointer (some b)) h77 (by decide) w
 have hu := f1o s (.iface 169 (.pointer (some a))) w rfl
 go_enter fn82, nt82
 go_wp2
 refine wp_loop_rounds 2 ?_
 rw [rounds_succ]
 go_wp2_with (go_at_call 169; refine hu.mono ?_; rintro e w' ⟨rfl, hB⟩; have heq2 := heq w' hB)
 rw [rounds_succ]
 go_wp2
 go_ret
 exact ⟨rfl, by assumption⟩
set_option maxHeartbeats 4000000 in
theorem d8y (s : ByteArray) (b : Addr) (w : World) (_ : ∃ ca ta, w.heap[b.block]? = some (.cells ca ta (0, 0))) :
  Calls P 46 #[.iface 142 (.agg #[.string s, .iface 169 (.pointer (some b))]), .iface 169 (.pointer (some b))] w fun e w' => e = .returned (.bool true) ∧ Below w.heap.size w w' := by
 obtain ⟨ms, h77⟩ := a1a i77
 have h8 := @run_callFunc_extern P 81 _ Extern.ReflectliteType.typeOf fn81 (by kernel_rfl) (by kernel_rfl) (by kernel_rfl) (by kernel_rfl)
 have h32 := @run_callFunc_extern P 159 _ b2e b9s (by kernel_rfl) (by kernel_rfl) (by kernel_rfl) (by kernel_rfl)
 have tT := a6h
 have cT := a2m
 have mR := a0v
 go_enter fn46, nt46
 go_wp2_with (go_at_call 82; refine (d9h s b w).mono ?_; rintro e w' ⟨rfl, hx⟩)
 go_ret
 first | exact ⟨rfl, hx⟩ | exact ⟨rfl, rfl⟩
set_option maxHeartbeats 4000000 in
theorem d5t (s : ByteArray) (a b : Addr) (ca cb : Array Value) (ta tb : TypeId) (w : World) (hne : a ≠ b) (ha : w.heap[a.block]? = some (.cells ca ta (0, 0))) (hb : w.heap[b.block]? = some (.cells cb tb (0, 0))) :
  Calls P 46 #[.iface 142 (.agg #[.string s, .iface 169 (.pointer (some a))]), .iface 169 (.pointer (some b))] w fun e w' => e = .returned (.bool false) ∧ Below w.heap.size w w' := by
 obtain ⟨ms, h77⟩ := a1a i77
 have h8 := @run_callFunc_extern P 81 _ Extern.ReflectliteType.typeOf fn81 (by kernel_rfl) (by kernel_rfl) (by kernel_rfl) (by kernel_rfl)
 have h32 := @run_callFunc_extern P 159 _ b2e b9s (by kernel_rfl) (by kernel_rfl) (by kernel_rfl) (by kernel_rfl)
 have tT := a6h
 have cT := a2m
 have mR := a0v
 go_enter fn46, nt46
 go_wp2_with (go_at_call 82; refine (d8b s a b ca cb ta tb w hne (a3t ha) (a3t hb) ha hb).mono ?_; rintro e w' ⟨rfl, hx⟩)
 go_ret
 first | exact ⟨rfl, hx⟩ | exact ⟨rfl, rfl⟩
theorem f9u : P.funcs[171]? = some Go.Proofs.Tryz.f171 := by kernel_rfl
theorem g0p : Go.Proofs.Tryz.f171.ntmps = 5 := by kernel_rfl
theorem f1n : b6u P 150 133 = true := by kernel_rfl
theorem f1q : hasB P 150 136 = true := by kernel_rfl
theorem b7z (v : Value) (w : World) : (Go.method 305 150 v "Unwrap").run P w = .ok (171, v) w := by kernel_rfl
set_option maxHeartbeats 4000000 in
theorem f2m (s : ByteArray) (v : Value) (w : World) (hv : v.oneCell' = true) : Calls P 171 #[.agg #[.string s, v]] w fun e w' => e = .returned v ∧ Below w.heap.size w w' := by
 go_enter f9u, g0p
 go_wp2
 go_ret
 exact ⟨rfl, (Below.refl _ w).alloc (Nat.le_refl _) _⟩
set_option maxHeartbeats 4000000 in
theorem d9v (s : ByteArray) (b : Addr) (w : World) :
  Calls P 82 #[.iface 150 (.agg #[.string s, .iface 169 (.pointer (some b))]), .iface 169 (.pointer (some b)), .bool true] w fun e w' => e = .returned (.bool true) ∧ Below w.heap.size w w' := by
 obtain ⟨ms, h77⟩ := a1a i77
 obtain ⟨i, hi, hcmp⟩ := Option.map_eq_some_iff.1 b2j
 obtain ⟨j, hj, hjs⟩ := Option.map_eq_some_iff.1 b2k
 have nE := a0c nE1
 have uE := a0c nE2
 have vE := a0c nE3
 have nW := a0c f1n
 have uW := a4n f1q
 have mU := b7z
 have heq := fun w => run_eql_iface_ptr_same (P := P) w b h77 u130 hi hcmp hj
 have hty := run_eql_iface_types (P := P) 150 169 (.agg #[.string s, .iface 169 (.pointer (some b))]) (.pointer (some b)) h77 (by decide) w
 have hu := f2m s (.iface 169 (.pointer (some b))) w rfl
 go_enter fn82, nt82
 go_wp2
 refine wp_loop_rounds 2 ?_
 rw [rounds_succ]
 go_wp2_with (go_at_call 171; refine hu.mono ?_; rintro e w' ⟨rfl, hb⟩)
 rw [rounds_succ]
 go_wp2
 go_ret
 exact ⟨rfl, by assumption⟩
set_option maxHeartbeats 4000000 in
theorem d5q (s : ByteArray) (a b : Addr) (ca cb : Array Value) (ta tb : TypeId) (w : World) (hne : a ≠ b) (hal : a.block < w.heap.size) (hbl : b.block < w.heap.size) (ha : w.heap[a.block]? = some (.cells ca ta (0, 0))) (hb : w.heap[b.block]? = some (.cells cb tb (0, 0))) :
  Calls P 82 #[.iface 150 (.agg #[.string s, .iface 169 (.pointer (some a))]), .iface 169 (.pointer (some b)), .bool true] w fun e w' => e = .returned (.bool false) ∧ Below w.heap.size w w' := by
 obtain ⟨ms, h77⟩ := a1a i77
 obtain ⟨i, hi, hcmp⟩ := Option.map_eq_some_iff.1 b2j
 obtain ⟨j, hj, hjs⟩ := Option.map_eq_some_iff.1 b2k
 have nE := a0c nE1
 have uE := a0c nE2
 have vE := a0c nE3
 have nW := a0c f1n
 have uW := a4n f1q
 have mU := b7z
 have heq : ∀ w' : World, Below w.heap.size w w' → (binOp .eql 69 (.iface 169 (.pointer (some a))) (.iface 169 (.pointer (some b)))).run P w' = .ok (.bool false) w' := fun w' hB => run_eql_iface_ptr_other (P := P) w' h77 u130 hi hcmp hj (by rw [hjs]; decide) hne ((hB.block _ hal).trans ha) ((hB.block _ hbl).trans hb)
 have hty := run_eql_iface_types (P := P) 150 169 (.agg #[.string s, .iface 169 (.pointer (some a))]) (.pointer (some b)) h77 (by decide) w
 have hu := f2m s (.iface 169 (.pointer (some a))) w rfl
 go_enter fn82, nt82
 go_wp2
 refine wp_loop_rounds 2 ?_
 rw [rounds_succ]
 go_wp2_with (go_at_call 171; refine hu.mono ?_; rintro e w' ⟨rfl, hB⟩; have heq2 := heq w' hB)
 rw [rounds_succ]
 go_wp2
 go_ret
 exact ⟨rfl, by assumption⟩
set_option maxHeartbeats 4000000 in
theorem d8w (s : ByteArray) (b : Addr) (w : World) (_ : ∃ ca ta, w.heap[b.block]? = some (.cells ca ta (0, 0))) :
  Calls P 46 #[.iface 150 (.agg #[.string s, .iface 169 (.pointer (some b))]), .iface 169 (.pointer (some b))] w fun e w' => e = .returned (.bool true) ∧ Below w.heap.size w w' := by
 obtain ⟨ms, h77⟩ := a1a i77
 have h8 := @run_callFunc_extern P 81 _ Extern.ReflectliteType.typeOf fn81 (by kernel_rfl) (by kernel_rfl) (by kernel_rfl) (by kernel_rfl)
 have h32 := @run_callFunc_extern P 159 _ b2e b9s (by kernel_rfl) (by kernel_rfl) (by kernel_rfl) (by kernel_rfl)
 have tT := a6h
 have cT := a2m
 have mR := a0v
 go_enter fn46, nt46
 go_wp2_with (go_at_call 82; refine (d9v s b w).mono ?_; rintro e w' ⟨rfl, hx⟩)
 go_ret
 first | exact ⟨rfl, hx⟩ | exact ⟨rfl, rfl⟩
set_option maxHeartbeats 4000000 in
theorem d6z (s : ByteArray) (a b : Addr) (ca cb : Array Value) (ta tb : TypeId) (w : World) (hne : a ≠ b) (ha : w.heap[a.block]? = some (.cells ca ta (0, 0))) (hb : w.heap[b.block]? = some (.cells cb tb (0, 0))) :
  Calls P 46 #[.iface 150 (.agg #[.string s, .iface 169 (.pointer (some a))]), .iface 169 (.pointer (some b))] w fun e w' => e = .returned (.bool false) ∧ Below w.heap.size w w' := by
 obtain ⟨ms, h77⟩ := a1a i77
 have h8 := @run_callFunc_extern P 81 _ Extern.ReflectliteType.typeOf fn81 (by kernel_rfl) (by kernel_rfl) (by kernel_rfl) (by kernel_rfl)
 have h32 := @run_callFunc_extern P 159 _ b2e b9s (by kernel_rfl) (by kernel_rfl) (by kernel_rfl) (by kernel_rfl)
 have tT := a6h
 have cT := a2m
 have mR := a0v
 go_enter fn46, nt46
 go_wp2_with (go_at_call 82; refine (d5q s a b ca cb ta tb w hne (a3t ha) (a3t hb) ha hb).mono ?_; rintro e w' ⟨rfl, hx⟩)
 go_ret
 first | exact ⟨rfl, hx⟩ | exact ⟨rfl, rfl⟩
theorem f9w : P.funcs[173]? = some Go.Proofs.Tryz.f173 := by kernel_rfl
theorem g0m : Go.Proofs.Tryz.f173.ntmps = 5 := by kernel_rfl
theorem f1m : b6u P 152 133 = true := by kernel_rfl
theorem f1h : hasB P 152 136 = true := by kernel_rfl
theorem b7r (v : Value) (w : World) : (Go.method 305 152 v "Unwrap").run P w = .ok (173, v) w := by kernel_rfl
set_option maxHeartbeats 4000000 in
theorem f2v (s : ByteArray) (v : Value) (w : World) (hv : v.oneCell' = true) : Calls P 173 #[.agg #[.string s, v]] w fun e w' => e = .returned v ∧ Below w.heap.size w w' := by
 go_enter f9w, g0m
 go_wp2
 go_ret
 exact ⟨rfl, (Below.refl _ w).alloc (Nat.le_refl _) _⟩
set_option maxHeartbeats 4000000 in
theorem d8k (s : ByteArray) (b : Addr) (w : World) :
  Calls P 82 #[.iface 152 (.agg #[.string s, .iface 169 (.pointer (some b))]), .iface 169 (.pointer (some b)), .bool true] w fun e w' => e = .returned (.bool true) ∧ Below w.heap.size w w' := by
 obtain ⟨ms, h77⟩ := a1a i77
 obtain ⟨i, hi, hcmp⟩ := Option.map_eq_some_iff.1 b2j
 obtain ⟨j, hj, hjs⟩ := Option.map_eq_some_iff.1 b2k
 have nE := a0c nE1
 have uE := a0c nE2
 have vE := a0c nE3
 have nW := a0c f1m
 have uW := a4n f1h
 have mU := b7r
 have heq := fun w => run_eql_iface_ptr_same (P := P) w b h77 u130 hi hcmp hj
 have hty := run_eql_iface_types (P := P) 152 169 (.agg #[.string s, .iface 169 (.pointer (some b))]) (.pointer (some b)) h77 (by decide) w
 have hu := f2v s (.iface 169 (.pointer (some b))) w rfl
 go_enter fn82, nt82
 go_wp2
 refine wp_loop_rounds 2 ?_
 rw [rounds_succ]
 go_wp2_with (go_at_call 173; refine hu.mono ?_; rintro e w' ⟨rfl, hb⟩)
 rw [rounds_succ]
 go_wp2
 go_ret
 exact ⟨rfl, by assumption⟩
set_option maxHeartbeats 4000000 in
theorem d4c (s : ByteArray) (a b : Addr) (ca cb : Array Value) (ta tb : TypeId) (w : World) (hne : a ≠ b) (hal : a.block < w.heap.size) (hbl : b.block < w.heap.size) (ha : w.heap[a.block]? = some (.cells ca ta (0, 0))) (hb : w.heap[b.block]? = some (.cells cb tb (0, 0))) :
  Calls P 82 #[.iface 152 (.agg #[.string s, .iface 169 (.pointer (some a))]), .iface 169 (.pointer (some b)), .bool true] w fun e w' => e = .returned (.bool false) ∧ Below w.heap.size w w' := by
 obtain ⟨ms, h77⟩ := a1a i77
 obtain ⟨i, hi, hcmp⟩ := Option.map_eq_some_iff.1 b2j
 obtain ⟨j, hj, hjs⟩ := Option.map_eq_some_iff.1 b2k
 have nE := a0c nE1
 have uE := a0c nE2
 have vE := a0c nE3
 have nW := a0c f1m
 have uW := a4n f1h
 have mU := b7r
 have heq : ∀ w' : World, Below w.heap.size w w' → (binOp .eql 69 (.iface 169 (.pointer (some a))) (.iface 169 (.pointer (some b)))).run P w' = .ok (.bool false) w' := fun w' hB => run_eql_iface_ptr_other (P := P) w' h77 u130 hi hcmp hj (by rw [hjs]; decide) hne ((hB.block _ hal).trans ha) ((hB.block _ hbl).trans hb)
 have hty := run_eql_iface_types (P := P) 152 169 (.agg #[.string s, .iface 169 (.pointer (some a))]) (.pointer (some b)) h77 (by decide) w
 have hu := f2v s (.iface 169 (.pointer (some a))) w rfl
 go_enter fn82, nt82
 go_wp2
 refine wp_loop_rounds 2 ?_
 rw [rounds_succ]
 go_wp2_with (go_at_call 173; refine hu.mono ?_; rintro e w' ⟨rfl, hB⟩; have heq2 := heq w' hB)
 rw [rounds_succ]
 go_wp2
 go_ret
 exact ⟨rfl, by assumption⟩
set_option maxHeartbeats 4000000 in
theorem e0n (s : ByteArray) (b : Addr) (w : World) (_ : ∃ ca ta, w.heap[b.block]? = some (.cells ca ta (0, 0))) :
  Calls P 46 #[.iface 152 (.agg #[.string s, .iface 169 (.pointer (some b))]), .iface 169 (.pointer (some b))] w fun e w' => e = .returned (.bool true) ∧ Below w.heap.size w w' := by
 obtain ⟨ms, h77⟩ := a1a i77
 have h8 := @run_callFunc_extern P 81 _ Extern.ReflectliteType.typeOf fn81 (by kernel_rfl) (by kernel_rfl) (by kernel_rfl) (by kernel_rfl)
 have h32 := @run_callFunc_extern P 159 _ b2e b9s (by kernel_rfl) (by kernel_rfl) (by kernel_rfl) (by kernel_rfl)
 have tT := a6h
 have cT := a2m
 have mR := a0v
 go_enter fn46, nt46
 go_wp2_with (go_at_call 82; refine (d8k s b w).mono ?_; rintro e w' ⟨rfl, hx⟩)
 go_ret
 first | exact ⟨rfl, hx⟩ | exact ⟨rfl, rfl⟩
set_option maxHeartbeats 4000000 in
theorem d4f (s : ByteArray) (a b : Addr) (ca cb : Array Value) (ta tb : TypeId) (w : World) (hne : a ≠ b) (ha : w.heap[a.block]? = some (.cells ca ta (0, 0))) (hb : w.heap[b.block]? = some (.cells cb tb (0, 0))) :
  Calls P 46 #[.iface 152 (.agg #[.string s, .iface 169 (.pointer (some a))]), .iface 169 (.pointer (some b))] w fun e w' => e = .returned (.bool false) ∧ Below w.heap.size w w' := by
 obtain ⟨ms, h77⟩ := a1a i77
 have h8 := @run_callFunc_extern P 81 _ Extern.ReflectliteType.typeOf fn81 (by kernel_rfl) (by kernel_rfl) (by kernel_rfl) (by kernel_rfl)
 have h32 := @run_callFunc_extern P 159 _ b2e b9s (by kernel_rfl) (by kernel_rfl) (by kernel_rfl) (by kernel_rfl)
 have tT := a6h
 have cT := a2m
 have mR := a0v
 go_enter fn46, nt46
 go_wp2_with (go_at_call 82; refine (d4c s a b ca cb ta tb w hne (a3t ha) (a3t hb) ha hb).mono ?_; rintro e w' ⟨rfl, hx⟩)
 go_ret
 first | exact ⟨rfl, hx⟩ | exact ⟨rfl, rfl⟩
theorem g0f : P.funcs[175]? = some Go.Proofs.Tryz.f175 := by kernel_rfl
theorem g0t : Go.Proofs.Tryz.f175.ntmps = 5 := by kernel_rfl
theorem f0z : b6u P 154 133 = true := by kernel_rfl
theorem f2x : hasB P 154 136 = true := by kernel_rfl
theorem b8o (v : Value) (w : World) : (Go.method 305 154 v "Unwrap").run P w = .ok (175, v) w := by kernel_rfl
set_option maxHeartbeats 4000000 in
theorem f1d (s : ByteArray) (v : Value) (w : World) (hv : v.oneCell' = true) : Calls P 175 #[.agg #[.string s, v]] w fun e w' => e = .returned v ∧ Below w.heap.size w w' := by
 go_enter g0f, g0t
 go_wp2
 go_ret
 exact ⟨rfl, (Below.refl _ w).alloc (Nat.le_refl _) _⟩
set_option maxHeartbeats 4000000 in
theorem d8m (s : ByteArray) (b : Addr) (w : World) :
  Calls P 82 #[.iface 154 (.agg #[.string s, .iface 169 (.pointer (some b))]), .iface 169 (.pointer (some b)), .bool true] w fun e w' => e = .returned (.bool true) ∧ Below w.heap.size w w' := by
 obtain ⟨ms, h77⟩ := a1a i77
 obtain ⟨i, hi, hcmp⟩ := Option.map_eq_some_iff.1 b2j
 obtain ⟨j, hj, hjs⟩ := Option.map_eq_some_iff.1 b2k
 have nE := a0c nE1
 have uE := a0c nE2
 have vE := a0c nE3
 have nW := a0c f0z
 have uW := a4n f2x
 have mU := b8o
 have heq := fun w => run_eql_iface_ptr_same (P := P) w b h77 u130 hi hcmp hj
 have hty := run_eql_iface_types (P := P) 154 169 (.agg #[.string s, .iface 169 (.pointer (some b))]) (.pointer (some b)) h77 (by decide) w
 have hu := f1d s (.iface 169 (.pointer (some b))) w rfl
 go_enter fn82, nt82
 go_wp2
 refine wp_loop_rounds 2 ?_
 rw [rounds_succ]
 go_wp2_with (go_at_call 175; refine hu.mono ?_; rintro e w' ⟨rfl, hb⟩)
 rw [rounds_succ]
 go_wp2
 go_ret
 exact ⟨rfl, by assumption⟩
set_option maxHeartbeats 4000000 in
theorem d6x (s : ByteArray) (a b : Addr) (ca cb : Array Value) (ta tb : TypeId) (w : World) (hne : a ≠ b) (hal : a.block < w.heap.size) (hbl : b.block < w.heap.size) (ha : w.heap[a.block]? = some (.cells ca ta (0, 0))) (hb : w.heap[b.block]? = some (.cells cb tb (0, 0))) :
  Calls P 82 #[.iface 154 (.agg #[.string s, .iface 169 (.pointer (some a))]), .iface 169 (.pointer (some b)), .bool true] w fun e w' => e = .returned (.bool false) ∧ Below w.heap.size w w' := by
 obtain ⟨ms, h77⟩ := a1a i77
 obtain ⟨i, hi, hcmp⟩ := Option.map_eq_some_iff.1 b2j
 obtain ⟨j, hj, hjs⟩ := Option.map_eq_some_iff.1 b2k
 have nE := a0c nE1
 have uE := a0c nE2
 have vE := a0c nE3
 have nW := a0c f0z
 have uW := a4n f2x
 have mU := b8o
 have heq : ∀ w' : World, Below w.heap.size w w' → (binOp .eql 69 (.iface 169 (.pointer (some a))) (.iface 169 (.pointer (some b)))).run P w' = .ok (.bool false) w' := fun w' hB => run_eql_iface_ptr_other (P := P) w' h77 u130 hi hcmp hj (by rw [hjs]; decide) hne ((hB.block _ hal).trans ha) ((hB.block _ hbl).trans hb)
 have hty := run_eql_iface_types (P := P) 154 169 (.agg #[.string s, .iface 169 (.pointer (some a))]) (.pointer (some b)) h77 (by decide) w
 have hu := f1d s (.iface 169 (.pointer (some a))) w rfl
 go_enter fn82, nt82
 go_wp2
 refine wp_loop_rounds 2 ?_
 rw [rounds_succ]
 go_wp2_with (go_at_call 175; refine hu.mono ?_; rintro e w' ⟨rfl, hB⟩; have heq2 := heq w' hB)
 rw [rounds_succ]
 go_wp2
 go_ret
 exact ⟨rfl, by assumption⟩
set_option maxHeartbeats 4000000 in
theorem d8t (s : ByteArray) (b : Addr) (w : World) (_ : ∃ ca ta, w.heap[b.block]? = some (.cells ca ta (0, 0))) :
  Calls P 46 #[.iface 154 (.agg #[.string s, .iface 169 (.pointer (some b))]), .iface 169 (.pointer (some b))] w fun e w' => e = .returned (.bool true) ∧ Below w.heap.size w w' := by
 obtain ⟨ms, h77⟩ := a1a i77
 have h8 := @run_callFunc_extern P 81 _ Extern.ReflectliteType.typeOf fn81 (by kernel_rfl) (by kernel_rfl) (by kernel_rfl) (by kernel_rfl)
 have h32 := @run_callFunc_extern P 159 _ b2e b9s (by kernel_rfl) (by kernel_rfl) (by kernel_rfl) (by kernel_rfl)
 have tT := a6h
 have cT := a2m
 have mR := a0v
 go_enter fn46, nt46
 go_wp2_with (go_at_call 82; refine (d8m s b w).mono ?_; rintro e w' ⟨rfl, hx⟩)
 go_ret
 first | exact ⟨rfl, hx⟩ | exact ⟨rfl, rfl⟩
set_option maxHeartbeats 4000000 in
theorem d8a (s : ByteArray) (a b : Addr) (ca cb : Array Value) (ta tb : TypeId) (w : World) (hne : a ≠ b) (ha : w.heap[a.block]? = some (.cells ca ta (0, 0))) (hb : w.heap[b.block]? = some (.cells cb tb (0, 0))) :
  Calls P 46 #[.iface 154 (.agg #[.string s, .iface 169 (.pointer (some a))]), .iface 169 (.pointer (some b))] w fun e w' => e = .returned (.bool false) ∧ Below w.heap.size w w' := by
 obtain ⟨ms, h77⟩ := a1a i77
 have h8 := @run_callFunc_extern P 81 _ Extern.ReflectliteType.typeOf fn81 (by kernel_rfl) (by kernel_rfl) (by kernel_rfl) (by kernel_rfl)
 have h32 := @run_callFunc_extern P 159 _ b2e b9s (by kernel_rfl) (by kernel_rfl) (by kernel_rfl) (by kernel_rfl)
 have tT := a6h
 have cT := a2m
 have mR := a0v
 go_enter fn46, nt46
 go_wp2_with (go_at_call 82; refine (d6x s a b ca cb ta tb w hne (a3t ha) (a3t hb) ha hb).mono ?_; rintro e w' ⟨rfl, hx⟩)
 go_ret
 first | exact ⟨rfl, hx⟩ | exact ⟨rfl, rfl⟩
theorem g0h : P.funcs[177]? = some Go.Proofs.Tryz.f177 := by kernel_rfl
theorem g1e : Go.Proofs.Tryz.f177.ntmps = 5 := by kernel_rfl
theorem f2a : b6u P 157 133 = true := by kernel_rfl
theorem f1z : hasB P 157 136 = true := by kernel_rfl
theorem b7x (v : Value) (w : World) : (Go.method 305 157 v "Unwrap").run P w = .ok (177, v) w := by kernel_rfl
set_option maxHeartbeats 4000000 in
theorem f2u (s : ByteArray) (v : Value) (w : World) (hv : v.oneCell' = true) : Calls P 177 #[.agg #[.string s, v]] w fun e w' => e = .returned v ∧ Below w.heap.size w w' := by
 go_enter g0h, g1e
 go_wp2
 go_ret
 exact ⟨rfl, (Below.refl _ w).alloc (Nat.le_refl _) _⟩
set_option maxHeartbeats 4000000 in
theorem d8n (s : ByteArray) (b : Addr) (w : World) :
  Calls P 82 #[.iface 157 (.agg #[.string s, .iface 169 (.pointer (some b))]), .iface 169 (.pointer (some b)), .bool true] w fun e w' => e = .returned (.bool true) ∧ Below w.heap.size w w' := by
 obtain ⟨ms, h77⟩ := a1a i77
 obtain ⟨i, hi, hcmp⟩ := Option.map_eq_some_iff.1 b2j
 obtain ⟨j, hj, hjs⟩ := Option.map_eq_some_iff.1 b2k
 have nE := a0c nE1
 have uE := a0c nE2
 have vE := a0c nE3
 have nW := a0c f2a
 have uW := a4n f1z
 have mU := b7x
 have heq := fun w => run_eql_iface_ptr_same (P := P) w b h77 u130 hi hcmp hj
 have hty := run_eql_iface_types (P := P) 157 169 (.agg #[.string s, .iface 169 (.pointer (some b))]) (.pointer (some b)) h77 (by decide) w
 have hu := f2u s (.iface 169 (.pointer (some b))) w rfl
 go_enter fn82, nt82
 go_wp2
 refine wp_loop_rounds 2 ?_
 rw [rounds_succ]
 go_wp2_with (go_at_call 177; refine hu.mono ?_; rintro e w' ⟨rfl, hb⟩)
 rw [rounds_succ]
 go_wp2
 go_ret
 exact ⟨rfl, by assumption⟩
set_option maxHeartbeats 4000000 in
theorem d4x (s : ByteArray) (a b : Addr) (ca cb : Array Value) (ta tb : TypeId) (w : World) (hne : a ≠ b) (hal : a.block < w.heap.size) (hbl : b.block < w.heap.size) (ha : w.heap[a.block]? = some (.cells ca ta (0, 0))) (hb : w.heap[b.block]? = some (.cells cb tb (0, 0))) :
  Calls P 82 #[.iface 157 (.agg #[.string s, .iface 169 (.pointer (some a))]), .iface 169 (.pointer (some b)), .bool true] w fun e w' => e = .returned (.bool false) ∧ Below w.heap.size w w' := by
 obtain ⟨ms, h77⟩ := a1a i77
 obtain ⟨i, hi, hcmp⟩ := Option.map_eq_some_iff.1 b2j
 obtain ⟨j, hj, hjs⟩ := Option.map_eq_some_iff.1 b2k
 have nE := a0c nE1
 have uE := a0c nE2
 have vE := a0c nE3
 have nW := a0c f2a
 have uW := a4n f1z
 have mU := b7x
 have heq : ∀ w' : World, Below w.heap.size w w' → (binOp .eql 69 (.iface 169 (.pointer (some a))) (.iface 169 (.pointer (some b)))).run P w' = .ok (.bool false) w' := fun w' hB => run_eql_iface_ptr_other (P := P) w' h77 u130 hi hcmp hj (by rw [hjs]; decide) hne ((hB.block _ hal).trans ha) ((hB.block _ hbl).trans hb)
 have hty := run_eql_iface_types (P := P) 157 169 (.agg #[.string s, .iface 169 (.pointer (some a))]) (.pointer (some b)) h77 (by decide) w
 have hu := f2u s (.iface 169 (.pointer (some a))) w rfl
 go_enter fn82, nt82
 go_wp2
 refine wp_loop_rounds 2 ?_
 rw [rounds_succ]
 go_wp2_with (go_at_call 177; refine hu.mono ?_; rintro e w' ⟨rfl, hB⟩; have heq2 := heq w' hB)
 rw [rounds_succ]
 go_wp2
 go_ret
 exact ⟨rfl, by assumption⟩
set_option maxHeartbeats 4000000 in
theorem d8p (s : ByteArray) (b : Addr) (w : World) (_ : ∃ ca ta, w.heap[b.block]? = some (.cells ca ta (0, 0))) :
  Calls P 46 #[.iface 157 (.agg #[.string s, .iface 169 (.pointer (some b))]), .iface 169 (.pointer (some b))] w fun e w' => e = .returned (.bool true) ∧ Below w.heap.size w w' := by
 obtain ⟨ms, h77⟩ := a1a i77
 have h8 := @run_callFunc_extern P 81 _ Extern.ReflectliteType.typeOf fn81 (by kernel_rfl) (by kernel_rfl) (by kernel_rfl) (by kernel_rfl)
 have h32 := @run_callFunc_extern P 159 _ b2e b9s (by kernel_rfl) (by kernel_rfl) (by kernel_rfl) (by kernel_rfl)
 have tT := a6h
 have cT := a2m
 have mR := a0v
 go_enter fn46, nt46
 go_wp2_with (go_at_call 82; refine (d8n s b w).mono ?_; rintro e w' ⟨rfl, hx⟩)
 go_ret
 first | exact ⟨rfl, hx⟩ | exact ⟨rfl, rfl⟩
set_option maxHeartbeats 4000000 in
theorem d5m (s : ByteArray) (a b : Addr) (ca cb : Array Value) (ta tb : TypeId) (w : World) (hne : a ≠ b) (ha : w.heap[a.block]? = some (.cells ca ta (0, 0))) (hb : w.heap[b.block]? = some (.cells cb tb (0, 0))) :
  Calls P 46 #[.iface 157 (.agg #[.string s, .iface 169 (.pointer (some a))]), .iface 169 (.pointer (some b))] w fun e w' => e = .returned (.bool false) ∧ Below w.heap.size w w' := by
 obtain ⟨ms, h77⟩ := a1a i77
 have h8 := @run_callFunc_extern P 81 _ Extern.ReflectliteType.typeOf fn81 (by kernel_rfl) (by kernel_rfl) (by kernel_rfl) (by kernel_rfl)
 have h32 := @run_callFunc_extern P 159 _ b2e b9s (by kernel_rfl) (by kernel_rfl) (by kernel_rfl) (by kernel_rfl)
 have tT := a6h
 have cT := a2m
 have mR := a0v
 go_enter fn46, nt46
 go_wp2_with (go_at_call 82; refine (d4x s a b ca cb ta tb w hne (a3t ha) (a3t hb) ha hb).mono ?_; rintro e w' ⟨rfl, hx⟩)
 go_ret
 first | exact ⟨rfl, hx⟩ | exact ⟨rfl, rfl⟩
theorem f9x : P.funcs[179]? = some Go.Proofs.Tryz.f179 := by kernel_rfl
theorem g1f : Go.Proofs.Tryz.f179.ntmps = 5 := by kernel_rfl
theorem f1s : b6u P 159 133 = true := by kernel_rfl
theorem f2k : hasB P 159 136 = true := by kernel_rfl
theorem b8q (v : Value) (w : World) : (Go.method 305 159 v "Unwrap").run P w = .ok (179, v) w := by kernel_rfl
set_option maxHeartbeats 4000000 in
theorem f1w (s : ByteArray) (v : Value) (w : World) (hv : v.oneCell' = true) : Calls P 179 #[.agg #[.string s, v]] w fun e w' => e = .returned v ∧ Below w.heap.size w w' := by
 go_enter f9x, g1f
 go_wp2
 go_ret
 exact ⟨rfl, (Below.refl _ w).alloc (Nat.le_refl _) _⟩
set_option maxHeartbeats 4000000 in
theorem e0c (s : ByteArray) (b : Addr) (w : World) :
  Calls P 82 #[.iface 159 (.agg #[.string s, .iface 169 (.pointer (some b))]), .iface 169 (.pointer (some b)), .bool true] w fun e w' => e = .returned (.bool true) ∧ Below w.heap.size w w' := by
 obtain ⟨ms, h77⟩ := a1a i77
 obtain ⟨i, hi, hcmp⟩ := Option.map_eq_some_iff.1 b2j
 obtain ⟨j, hj, hjs⟩ := Option.map_eq_some_iff.1 b2k
 have nE := a0c nE1
 have uE := a0c nE2
 have vE := a0c nE3
 have nW := a0c f1s
 have uW := a4n f2k
 have mU := b8q
 have heq := fun w => run_eql_iface_ptr_same (P := P) w b h77 u130 hi hcmp hj
 have hty := run_eql_iface_types (P := P) 159 169 (.agg #[.string s, .iface 169 (.pointer (some b))]) (.pointer (some b)) h77 (by decide) w
 have hu := f1w s (.iface 169 (.pointer (some b))) w rfl
 go_enter fn82, nt82
 go_wp2
 refine wp_loop_rounds 2 ?_
 rw [rounds_succ]
 go_wp2_with (go_at_call 179; refine hu.mono ?_; rintro e w' ⟨rfl, hb⟩)
 rw [rounds_succ]
 go_wp2
 go_ret
 exact ⟨rfl, by assumption⟩
set_option maxHeartbeats 4000000 in
theorem d6w (s : ByteArray) (a b : Addr) (ca cb : Array Value) (ta tb : TypeId) (w : World) (hne : a ≠ b) (hal : a.block < w.heap.size) (hbl : b.block < w.heap.size) (ha : w.heap[a.block]? = some (.cells ca ta (0, 0))) (hb : w.heap[b.block]? = some (.cells cb tb (0, 0))) :
  Calls P 82 #[.iface 159 (.agg #[.string s, .iface 169 (.pointer (some a))]), .iface 169 (.pointer (some b)), .bool true] w fun e w' => e = .returned (.bool false) ∧ Below w.heap.size w w' := by
 obtain ⟨ms, h77⟩ := a1a i77
 obtain ⟨i, hi, hcmp⟩ := Option.map_eq_some_iff.1 b2j
 obtain ⟨j, hj, hjs⟩ := Option.map_eq_some_iff.1 b2k
 have nE := a0c nE1
 have uE := a0c nE2
 have vE := a0c nE3
 have nW := a0c f1s
 have uW := a4n f2k
 have mU := b8q
 have heq : ∀ w' : World, Below w.heap.size w w' → (binOp .eql 69 (.iface 169 (.pointer (some a))) (.iface 169 (.pointer (some b)))).run P w' = .ok (.bool false) w' := fun w' hB => run_eql_iface_ptr_other (P := P) w' h77 u130 hi hcmp hj (by rw [hjs]; decide) hne ((hB.block _ hal).trans ha) ((hB.block _ hbl).trans hb)
 have hty := run_eql_iface_types (P := P) 159 169 (.agg #[.string s, .iface 169 (.pointer (some a))]) (.pointer (some b)) h77 (by decide) w
 have hu := f1w s (.iface 169 (.pointer (some a))) w rfl
 go_enter fn82, nt82
 go_wp2
 refine wp_loop_rounds 2 ?_
 rw [rounds_succ]
 go_wp2_with (go_at_call 179; refine hu.mono ?_; rintro e w' ⟨rfl, hB⟩; have heq2 := heq w' hB)
 rw [rounds_succ]
 go_wp2
 go_ret
 exact ⟨rfl, by assumption⟩
set_option maxHeartbeats 4000000 in
theorem d9m (s : ByteArray) (b : Addr) (w : World) (_ : ∃ ca ta, w.heap[b.block]? = some (.cells ca ta (0, 0))) :
  Calls P 46 #[.iface 159 (.agg #[.string s, .iface 169 (.pointer (some b))]), .iface 169 (.pointer (some b))] w fun e w' => e = .returned (.bool true) ∧ Below w.heap.size w w' := by
 obtain ⟨ms, h77⟩ := a1a i77
 have h8 := @run_callFunc_extern P 81 _ Extern.ReflectliteType.typeOf fn81 (by kernel_rfl) (by kernel_rfl) (by kernel_rfl) (by kernel_rfl)
 have h32 := @run_callFunc_extern P 159 _ b2e b9s (by kernel_rfl) (by kernel_rfl) (by kernel_rfl) (by kernel_rfl)
 have tT := a6h
 have cT := a2m
 have mR := a0v
 go_enter fn46, nt46
 go_wp2_with (go_at_call 82; refine (e0c s b w).mono ?_; rintro e w' ⟨rfl, hx⟩)
 go_ret
 first | exact ⟨rfl, hx⟩ | exact ⟨rfl, rfl⟩
set_option maxHeartbeats 4000000 in
theorem d6t (s : ByteArray) (a b : Addr) (ca cb : Array Value) (ta tb : TypeId) (w : World) (hne : a ≠ b) (ha : w.heap[a.block]? = some (.cells ca ta (0, 0))) (hb : w.heap[b.block]? = some (.cells cb tb (0, 0))) :
  Calls P 46 #[.iface 159 (.agg #[.string s, .iface 169 (.pointer (some a))]), .iface 169 (.pointer (some b))] w fun e w' => e = .returned (.bool false) ∧ Below w.heap.size w w' := by
 obtain ⟨ms, h77⟩ := a1a i77
 have h8 := @run_callFunc_extern P 81 _ Extern.ReflectliteType.typeOf fn81 (by kernel_rfl) (by kernel_rfl) (by kernel_rfl) (by kernel_rfl)
 have h32 := @run_callFunc_extern P 159 _ b2e b9s (by kernel_rfl) (by kernel_rfl) (by kernel_rfl) (by kernel_rfl)
 have tT := a6h
 have cT := a2m
 have mR := a0v
 go_enter fn46, nt46
 go_wp2_with (go_at_call 82; refine (d6w s a b ca cb ta tb w hne (a3t ha) (a3t hb) ha hb).mono ?_; rintro e w' ⟨rfl, hx⟩)
 go_ret
 first | exact ⟨rfl, hx⟩ | exact ⟨rfl, rfl⟩
theorem S46 (A : Amb) (hA : HA A) (n : Nat) : a0s A P cH 46 s46 (a2b n) :=
 e7e (ws := [103, 142, 150, 152, 154, 157, 159]) hA f8p f4p e9t
 (fun wt hw => by
  simp only [List.mem_cons, List.not_mem_nil, or_false] at hw
  rcases hw with rfl | rfl | rfl | rfl | rfl | rfl | rfl
  ·exact d9t
  ·exact d8y
  ·exact d8w
  ·exact e0n
  ·exact d8t
  ·exact d8p
  ·exact d9m
  )
 (fun wt hw => by
  simp only [List.mem_cons, List.not_mem_nil, or_false] at hw
  rcases hw with rfl | rfl | rfl | rfl | rfl | rfl | rfl
  ·exact d6r
  ·exact d5t
  ·exact d6z
  ·exact d4f
  ·exact d8a
  ·exact d5m
  ·exact d6t
  )
end Go.Rb.R4
