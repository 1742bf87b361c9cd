/- Kinds, names, tables of a seat. Printed by a program of our own. -/
import Derived.Test.YtpkgjjdalliggaaDoorRbE
import Derived.Test.YtpkgjjdalliggaaDoorChecked
import Derived.KernelRfl
import Derived.Eval
import Derived.Deep.Draws
import Derived.Deep.LoopGhost
import Derived.Laws.Externs
import Derived.Lib.Bytealg
import Derived.Lib.Walk
import Derived.LoopN
import Derived.RowKitTokens
import Derived.Shelf.RegionOpenPlain
import Derived.Shelf.SlLaysF0
import Derived.Shelf.SlSortCmp.NoneTotal
import Derived.Test.YtpkgjjdalliggaaDoorRbG
import Derived.Test.YtpkgjjdalliggaaDoorRbI
import Derived.WalkKit
set_option linter.unusedVariables false
set_option linter.unusedSimpArgs false
namespace Go.Rb.R2
open Go.Rb
abbrev tI : Ty := .int .i64
abbrev tB : Ty := .int .u8
abbrev tU : Ty := .int .u64
abbrev g_dict_errForm : Nat := 0
abbrev g_num_errShort : Nat := 1
abbrev g_num_errLong : Nat := 2
abbrev t_dict_wrap : Nat := 74
abbrev t_num_wrap : Nat := 117
def tys : List (Nat × Ty) := [(2, tI), (3, tI), (4, .bool), (5, tB), (9, .str), (22, (.sl .imm 1 tB)), (23, (.int .u16)), (25, (.sl .imm 32 (.st (.pair tI (.pair tI (.pair .str .unit)))))), (34, (.st (.pair tI (.pair tI (.pair .str .unit))))), (35, (.sl .imm 1 .bool)), (45, tU), (47, (.sl .imm 8 tU)), (53, .err), (58, (.st (.pair (.sl .imm 1 tB) (.pair tI .unit)))), (59, (.sl .imm 8 tI)), (60, (.sl .imm 16 .str)), (64, tU), (74, (.st (.pair .str (.pair .err .unit)))), (92, (.int .u32)), (110, tU), (117, (.st (.pair .str (.pair .err .unit)))), (121, (.ptr (.st (.pair .str .unit)))), (146, (.st (.pair .str .unit)))]
def gls : Nat → Option ((t : Ty) × t.den) := find? [(0, ⟨.err, (UV.sent g_dict_errForm)⟩), (1, ⟨.err, (UV.sent g_num_errShort)⟩), (2, ⟨.err, (UV.sent g_num_errLong)⟩)]
noncomputable abbrev P : Program := Go.Proofs.Tryd.prog
set_option maxRecDepth 100000
theorem mixed : P.follows .mixedOrders = true := Go.Proofs.Tryd.checked.mixed
theorem tab {C : Ctx} (h : C.ty = find? tys) : TabOK P C := tab_ok (by kernel_rfl) h
def cH : Ctx := ⟨0, find? tys, fun _ => none, gls, [], [], []⟩
abbrev HA (A : Amb) : Prop := ∀ g T a, A.sent g = some (T, a) → T = 121
end Go.Rb.R2

namespace Go.Rb.R2
open Go.Rb
open Go.RowKit
set_option maxRecDepth 100000
def s14 : Sig := ⟨[.val (.sl .imm 32 (.st (.pair tI (.pair tI (.pair .str .unit)))))], [.val (.sl .own 32 (.st (.pair tI (.pair tI (.pair .str .unit)))))]⟩
/-- slices.Clone[[]rabbet/api.Value,rabbet/api.Value] -/
def f_slices_Clone_Lapi_Value_api_Value (_n : Nat) (x : (List (Int × Int × List Int × Unit)) × Unit) : Option (((List (Int × Int × List Int × Unit)) × Unit) × (Unit)) := some ((x.1, ()), ())
theorem nt14 : Go.Proofs.Tryd.f14.ntmps = 8 := by kernel_rfl
theorem fn14 : P.funcs[14]? = some Go.Proofs.Tryd.f14 := by kernel_rfl
theorem call14 : Callable P 14 := callB_ok (by kernel_rfl)
theorem uT14 : P.underlying 25 = some (.slice 34) := by kernel_rfl
set_option maxHeartbeats 4000000 in
set_option maxRecDepth 1000000 in
theorem clone_nil14 (w : World) (n cap : Nat) : Calls P 14 #[.slice none n cap] w fun e w' => e = .returned (.slice none 0 0) ∧ w' = w := by
  go_enter fn14, nt14
  go_wp2
  rw [Lib.run_eql_slice_nil _ _ _ _ _ _ _ _ uT14]
  go_wp2
  go_ret
  exact ⟨rfl, rfl⟩
set_option maxHeartbeats 4000000 in
set_option maxRecDepth 1000000 in
theorem clone_some14 (w : World) (ad : Addr) (n cap : Nat) (v' : Value) (w' : World) (happ : (Builtin.append_ #[25, 25] 25 #[.slice (some ⟨w.heap.size, 0, none⟩) 0 0, .slice (some ad) n cap]).run P (w.alloc (.cells #[] 34)) = .ok v' w') :
    Calls P 14 #[.slice (some ad) n cap] w fun e w'' => e = .returned v' ∧ w'' = w' := by
  go_enter fn14, nt14
  go_upto_region 3 with fail
  rw [Lib.run_eql_slice_nil _ _ _ _ _ _ _ _ uT14]
  go_upto_region 3 with fail
  refine wp_region_lit ?_
  refine wl rfl (.slice (some ⟨w.heap.size, 0, none⟩) 0 0) (w1 := w.alloc (.cells #[] 34)) (by go_simp) ?_
  refine wl rfl (.slice (some ad) n cap) (w1 := w.alloc (.cells #[] 34)) rfl ?_
  refine wl_append rfl (.tmp 5) (.tmp 6) 25 25 rfl rfl rfl v' happ ?_
  refine wl rfl v' (w1 := w') rfl (wpList_nil ?_)
  go_wp2
  go_ret
  exact ⟨rfl, rfl⟩
theorem S14 (A : Amb) (n : Nat) : Sound A P cH 14 s14 (f_slices_Clone_Lapi_Value_api_Value n) :=
  clone_sound (T := 25) (tab rfl) rfl (z := (zeroCells (.st (.pair tI (.pair tI (.pair .str .unit))))).getD []) rfl clone_nil14 fun w w' el ad n cap v' h1 h2 => by
    rw [uT14] at h1
    cases h1
    exact clone_some14 w ad n cap v' w' h2
def s54 : Sig := ⟨[.val .str, .val .str], [.val tI]⟩
/-- internal/bytealg.CompareString -/
def f_bytealg_CompareString (_n : Nat) (x : List Int × List Int × Unit) : Option ((Int × Unit) × (Unit)) := csF x
theorem nt54 : Go.Proofs.Tryd.f54.ntmps = 8 := by kernel_rfl
theorem fn54 : P.funcs[54]? = some Go.Proofs.Tryd.f54 := by kernel_rfl
theorem call54 : Callable P 54 := callB_ok (by kernel_rfl)
theorem fn63 : P.funcs[63]? = some Go.Proofs.Tryd.f63 := by kernel_rfl
set_option maxHeartbeats 4000000 in
set_option maxRecDepth 1000000 in
theorem cmpStr0_raw (a b : ByteArray) (w : World) : Calls P 54 #[.string a, .string b] w fun e w' => e = .returned (.int .i64 (Lib.compareBytes a.data.toList b.data.toList)) ∧ w' = w := by
  go_enter fn54, nt54
  go_wp2
  rw [run_callFunc_extern fn63 (by kernel_rfl) (by kernel_rfl) (by kernel_rfl) (e := Extern.BytealgCompare.compare) (by kernel_rfl), Lib.run_compareString]
  simp only [Result.andThen]
  rw [Oper.upon_value]
  go_wp2
  go_ret
  exact ⟨rfl, rfl⟩
theorem S54 (A : Amb) (n : Nat) : Sound A P cH 54 s54 (f_bytealg_CompareString n) := compareString_sound cmpStr0_raw
theorem fn31 : P.funcs[31]? = some Go.Proofs.Tryd.f31 := by kernel_rfl
theorem call31 : Callable P 31 := callB_ok (by kernel_rfl)
theorem fn16 : P.funcs[16]? = some Go.Proofs.Tryd.f16 := by kernel_rfl
theorem call16 : Callable P 16 := callB_ok (by kernel_rfl)
theorem fn30 : P.funcs[30]? = some Go.Proofs.Tryd.f30 := by kernel_rfl
theorem call30 : Callable P 30 := callB_ok (by kernel_rfl)
theorem fn33 : P.funcs[33]? = some Go.Proofs.Tryd.f33 := by kernel_rfl
theorem call33 : Callable P 33 := callB_ok (by kernel_rfl)
theorem fn32 : P.funcs[32]? = some Go.Proofs.Tryd.f32 := by kernel_rfl
theorem call32 : Callable P 32 := callB_ok (by kernel_rfl)
theorem fn53 : P.funcs[53]? = some Go.Proofs.Tryd.f53 := by kernel_rfl
theorem call53 : Callable P 53 := callB_ok (by kernel_rfl)
theorem fn55 : P.funcs[55]? = some Go.Proofs.Tryd.f55 := by kernel_rfl
theorem call55 : Callable P 55 := callB_ok (by kernel_rfl)
def s15 : Sig := ⟨[.sio (.sl .own 32 (.st (.pair tI (.pair tI (.pair .str .unit))))), .val (.lf (.cfn 16))], []⟩
/-- slices.SortFunc[[]rabbet/api.Value,rabbet/api.Value] -/
def f_slices_SortFunc_Lapi_Value_api_Value (_n : Nat) (x : (List (Int × Int × List Int × Unit)) × Unit × Unit) : Option ((Unit) × ((List (Int × Int × List Int × Unit)) × Unit)) := sortF tV cfV x
theorem nt15 : Go.Proofs.Tryd.f15.ntmps = 14 := by kernel_rfl
theorem fn15 : P.funcs[15]? = some Go.Proofs.Tryd.f15 := by kernel_rfl
theorem call15 : Callable P 15 := callB_ok (by kernel_rfl)
theorem nt16 : Go.Proofs.Tryd.f16.ntmps = 32 := by kernel_rfl
theorem nt30 : Go.Proofs.Tryd.f30.ntmps = 20 := by kernel_rfl
theorem nt31 : Go.Proofs.Tryd.f31.ntmps = 9 := by kernel_rfl
theorem nt32 : Go.Proofs.Tryd.f32.ntmps = 8 := by kernel_rfl
theorem nt33 : Go.Proofs.Tryd.f33.ntmps = 20 := by kernel_rfl
theorem nt53 : Go.Proofs.Tryd.f53.ntmps = 6 := by kernel_rfl
theorem nt55 : Go.Proofs.Tryd.f55.ntmps = 6 := by kernel_rfl
set_option maxHeartbeats 4000000 in
theorem rank_raw (t i : Int) (s : ByteArray) (W : World) : Calls P 31 #[.agg #[.int .i64 t, .int .i64 i, .string s]] W fun e w' => e = .returned (.int .i64 (rankI t)) ∧ w' = W.alloc (.cells #[.int .i64 t, .int .i64 i, .string s] 34) := by
  go_enter fn31, nt31
  go_wp2
  all_goals (go_ret; refine ⟨?_, rfl⟩; unfold rankI; simp_all)
set_option maxHeartbeats 4000000 in
theorem nan_raw (x : Int) (W : World) : Calls P 53 #[.int .i64 x] W fun e w' => e = .returned (.bool false) ∧ w' = W := by
  go_enter fn53, nt53
  go_wp2
  go_ret
  exact ⟨rfl, rfl⟩
set_option maxHeartbeats 4000000 in
theorem nan64_raw (x : Int) (W : World) : Calls P 55 #[.int .i64 x] W fun e w' => e = .returned (.bool false) ∧ w' = W := by
  go_enter fn55, nt55
  go_wp2
  go_ret
  exact ⟨rfl, rfl⟩
set_option maxHeartbeats 4000000 in
theorem cmpInt_raw (x y : Int) (W : World) : Calls P 30 #[.int .i64 x, .int .i64 y] W fun e w' => e = .returned (.int .i64 (cmpZ x y)) ∧ w' = W := by
  go_enter fn30, nt30
  go_wp2_with (go_at_call 53; refine (nan_raw _ _).mono ?_; rintro e w' ⟨rfl, rfl⟩)
  all_goals (go_ret; refine ⟨?_, rfl⟩; unfold cmpZ; (repeat' split) <;> first | rfl | (exfalso; omega))
set_option maxHeartbeats 4000000 in
theorem cmpInt64_raw (x y : Int) (W : World) : Calls P 33 #[.int .i64 x, .int .i64 y] W fun e w' => e = .returned (.int .i64 (cmpZ x y)) ∧ w' = W := by
  go_enter fn33, nt33
  go_wp2_with (go_at_call 55; refine (nan64_raw _ _).mono ?_; rintro e w' ⟨rfl, rfl⟩)
  all_goals (go_ret; refine ⟨?_, rfl⟩; unfold cmpZ; (repeat' split) <;> first | rfl | (exfalso; omega))
set_option maxHeartbeats 4000000 in
theorem cmpStr_raw (a b : ByteArray) (w : World) : Calls P 32 #[.string a, .string b] w fun e w' => e = .returned (.int .i64 (Lib.compareBytes a.data.toList b.data.toList)) ∧ w' = w := by
  go_enter fn32, nt32
  go_wp2_with (go_at_call 54; refine (cmpStr0_raw _ _ _).mono ?_; rintro e w' ⟨rfl, rfl⟩)
  go_ret
  exact ⟨rfl, rfl⟩
set_option maxHeartbeats 4000000 in
theorem compare_raw (t i : Int) (s : ByteArray) (t' i' : Int) (s' : ByteArray) (W : World) : Calls P 16 #[.agg #[.int .i64 t, .int .i64 i, .string s], .agg #[.int .i64 t', .int .i64 i', .string s']] W fun e w' => e = .returned (.int .i64 (cmpV t i s t' i' s')) ∧ ∃ q os, w' = Sort.grow (W.drewN q) os := by
  have mixed := mixed
  go_enter fn16, nt16
  go_wp2_with fail
  go_region_with_o (first | (go_at_call 31; refine (rank_raw _ _ _ _).mono ?_; rintro e w' ⟨rfl, rfl⟩) | (go_at_call 30; refine (cmpInt_raw _ _ _).mono ?_; rintro e w' ⟨rfl, rfl⟩))
  all_goals
    obtain ⟨c, hcc⟩ : ∃ c, cmpZ (rankI t) (rankI t') = c := ⟨_, rfl⟩
    rw [hcc]
    by_cases hc : c = 0
    · subst hc
      by_cases ht : t = 0
      · have HV : Away _ := ⟨show cmpV t i s t' i' s' = 0 by unfold cmpV; rw [if_pos (.inr ht), hcc]⟩
        clear hcc
        go_wp2_with fail
        go_ret
        exact ⟨congrArg (fun x => Ending.returned (.int .i64 x)) HV.out.symm, 1, _, four W _ _ _ _⟩
      · by_cases h4 : t = 4
        · have HV : Away _ := ⟨show cmpV t i s t' i' s' = Lib.compareBytes s.data.toList s'.data.toList by unfold cmpV; rw [if_neg (by simp [hcc, ht]), if_pos h4]⟩
          clear hcc
          go_wp2_with (go_at_call 32; refine (cmpStr_raw _ _ _).mono ?_; rintro e w' ⟨rfl, rfl⟩)
          go_ret
          exact ⟨congrArg (fun x => Ending.returned (.int .i64 x)) HV.out.symm, 1, _, four W _ _ _ _⟩
        · have HV : Away _ := ⟨show cmpV t i s t' i' s' = cmpZ i i' by unfold cmpV; rw [if_neg (by simp [hcc, ht]), if_neg h4]⟩
          clear hcc
          go_wp2_with (go_at_call 33; refine (cmpInt64_raw _ _ _).mono ?_; rintro e w' ⟨rfl, rfl⟩)
          go_ret
          exact ⟨congrArg (fun x => Ending.returned (.int .i64 x)) HV.out.symm, 1, _, four W _ _ _ _⟩
    · have HV : Away _ := ⟨show cmpV t i s t' i' s' = c by unfold cmpV; rw [hcc, if_pos (.inl hc)]⟩
      clear hcc
      go_wp2_with fail
      go_ret
      exact ⟨congrArg (fun x => Ending.returned (.int .i64 x)) HV.out.symm, 1, _, four W _ _ _ _⟩
def lay15_ren : Go.Shelf.Ren := ⟨fun | 6 => 15 | 15 => 29 | 14 => 28 | 28 => 51 | 29 => 52 | 20 => 43 | 21 => 44 | 22 => 45 | 23 => 46 | 24 => 47 | 25 => 48 | 26 => 49 | 27 => 50 | 46 => 58 | 47 => 59 | 48 => 60 | 49 => 61 | 50 => 62 | 57 => 64 | n => n, fun | 22 => 25 | 24 => 34 | 25 => 43 | 3 => 3 | 39 => 64 | 0 => 0 | 53 => 92 | 55 => 45 | 4 => 4 | 46 => 86 | 45 => 85 | 50 => 48 | 5 => 5 | 9 => 9 | 66 => 110 | 70 => 114 | 76 => 118 | 77 => 119 | n => n, fun | n => n⟩
theorem lay15 : Go.Proofs.SlLaysF0.n6 Go.Proofs.Tryd.prog lay15_ren := { mixed := by kernel_rfl, f6 := ⟨Go.Proofs.Tryd.f15.name, by decide, Go.Proofs.Tryd.func15.trans (congrArg some (by kernel_rfl))⟩, f14 := ⟨Go.Proofs.Tryd.f28.name, by decide, Go.Proofs.Tryd.func28.trans (congrArg some (by kernel_rfl))⟩, f15 := Go.Proofs.Tryd.func29.trans (congrArg some (by kernel_rfl)), f20 := ⟨Go.Proofs.Tryd.f43.name, by decide, Go.Proofs.Tryd.func43.trans (congrArg some (by kernel_rfl))⟩, f21 := ⟨Go.Proofs.Tryd.f44.name, by decide, Go.Proofs.Tryd.func44.trans (congrArg some (by kernel_rfl))⟩, f22 := ⟨Go.Proofs.Tryd.f45.name, by decide, Go.Proofs.Tryd.func45.trans (congrArg some (by kernel_rfl))⟩, f23 := ⟨Go.Proofs.Tryd.f46.name, by decide, Go.Proofs.Tryd.func46.trans (congrArg some (by kernel_rfl))⟩, f24 := ⟨Go.Proofs.Tryd.f47.name, by decide, Go.Proofs.Tryd.func47.trans (congrArg some (by kernel_rfl))⟩, f25 := ⟨Go.Proofs.Tryd.f48.name, by decide, Go.Proofs.Tryd.func48.trans (congrArg some (by kernel_rfl))⟩, f26 := ⟨Go.Proofs.Tryd.f49.name, by decide, Go.Proofs.Tryd.func49.trans (congrArg some (by kernel_rfl))⟩, f27 := ⟨Go.Proofs.Tryd.f50.name, by decide, Go.Proofs.Tryd.func50.trans (congrArg some (by kernel_rfl))⟩, f28 := Go.Proofs.Tryd.func51.trans (congrArg some (by kernel_rfl)), f29 := Go.Proofs.Tryd.func52.trans (congrArg some (by kernel_rfl)), f46 := ⟨Go.Proofs.Tryd.f58.name, by decide, Go.Proofs.Tryd.func58.trans (congrArg some (by kernel_rfl))⟩, f47 := Go.Proofs.Tryd.func59.trans (congrArg some (by kernel_rfl)), f48 := Go.Proofs.Tryd.func60.trans (congrArg some (by kernel_rfl)), f49 := ⟨Go.Proofs.Tryd.f61.name, by decide, Go.Proofs.Tryd.func61.trans (congrArg some (by kernel_rfl))⟩, f50 := ⟨Go.Proofs.Tryd.f62.name, by decide, Go.Proofs.Tryd.func62.trans (congrArg some (by kernel_rfl))⟩, f57 := ⟨Go.Proofs.Tryd.f64.name, by decide, Go.Proofs.Tryd.func64.trans (congrArg some (by kernel_rfl))⟩, t0 := Go.Proofs.Tryd.underlying0, a0 := Go.Proofs.Tryd.isAgg0, z0 := Go.Proofs.Tryd.sizeOf0, v0 := Go.Proofs.Tryd.zeroValue0, t3 := Go.Proofs.Tryd.underlying3, a3 := Go.Proofs.Tryd.isAgg3, z3 := Go.Proofs.Tryd.sizeOf3, v3 := Go.Proofs.Tryd.zeroValue3, t4 := Go.Proofs.Tryd.underlying4, a4 := Go.Proofs.Tryd.isAgg4, z4 := Go.Proofs.Tryd.sizeOf4, v4 := Go.Proofs.Tryd.zeroValue4, t5 := Go.Proofs.Tryd.underlying5, a5 := Go.Proofs.Tryd.isAgg5, z5 := Go.Proofs.Tryd.sizeOf5, v5 := Go.Proofs.Tryd.zeroValue5, t9 := Go.Proofs.Tryd.underlying9, a9 := Go.Proofs.Tryd.isAgg9, z9 := Go.Proofs.Tryd.sizeOf9, v9 := Go.Proofs.Tryd.zeroValue9, t22 := Go.Proofs.Tryd.underlying25, a22 := Go.Proofs.Tryd.isAgg25, z22 := Go.Proofs.Tryd.sizeOf25, v22 := Go.Proofs.Tryd.zeroValue25, t25 := Go.Proofs.Tryd.underlying43, a25 := Go.Proofs.Tryd.isAgg43, z25 := Go.Proofs.Tryd.sizeOf43, v25 := Go.Proofs.Tryd.zeroValue43, t39 := Go.Proofs.Tryd.underlying64, a39 := Go.Proofs.Tryd.isAgg64, z39 := Go.Proofs.Tryd.sizeOf64, v39 := Go.Proofs.Tryd.zeroValue64, t45 := Go.Proofs.Tryd.underlying85, a45 := Go.Proofs.Tryd.isAgg85, z45 := Go.Proofs.Tryd.sizeOf85, v45 := Go.Proofs.Tryd.zeroValue85, t46 := Go.Proofs.Tryd.underlying86, a46 := Go.Proofs.Tryd.isAgg86, z46 := Go.Proofs.Tryd.sizeOf86, v46 := Go.Proofs.Tryd.zeroValue86, t50 := Go.Proofs.Tryd.underlying48, a50 := Go.Proofs.Tryd.isAgg48, z50 := Go.Proofs.Tryd.sizeOf48, v50 := Go.Proofs.Tryd.zeroValue48, t53 := Go.Proofs.Tryd.underlying92, a53 := Go.Proofs.Tryd.isAgg92, z53 := Go.Proofs.Tryd.sizeOf92, v53 := Go.Proofs.Tryd.zeroValue92, t55 := Go.Proofs.Tryd.underlying45, a55 := Go.Proofs.Tryd.isAgg45, z55 := Go.Proofs.Tryd.sizeOf45, v55 := Go.Proofs.Tryd.zeroValue45, t66 := Go.Proofs.Tryd.underlying110, a66 := Go.Proofs.Tryd.isAgg110, z66 := Go.Proofs.Tryd.sizeOf110, v66 := Go.Proofs.Tryd.zeroValue110, t70 := Go.Proofs.Tryd.underlying114, a70 := Go.Proofs.Tryd.isAgg114, z70 := Go.Proofs.Tryd.sizeOf114, v70 := Go.Proofs.Tryd.zeroValue114, t76 := Go.Proofs.Tryd.underlying118, a76 := Go.Proofs.Tryd.isAgg118, z76 := Go.Proofs.Tryd.sizeOf118, v76 := Go.Proofs.Tryd.zeroValue118, t77 := Go.Proofs.Tryd.underlying119, a77 := Go.Proofs.Tryd.isAgg119, z77 := Go.Proofs.Tryd.sizeOf119, v77 := Go.Proofs.Tryd.zeroValue119 }
theorem sort_nil15 (w : World) : Calls P 15 #[.slice none 0 0, .func (.func 16) #[] #[]] w fun e w' => e = .returned (.tuple #[]) ∧ w' = w :=
  Go.Proofs.AnyF.slices_SortFunc_none lay15 none 0 (.func (.func 16) #[] #[]) w
theorem sort_raw15 (blk cap : Nat) (d : Array tV.den) (w : World) (hH : Sort.HoldsK tV.enc tV.size w blk 0 d) (hb : blk < w.heap.size) (hs : d.size < 4611686018427387904) :
    Calls P 15 #[.slice (some ⟨blk, 0, none⟩) d.size cap, .func (.func 16) #[] #[]] w fun e w' => e = .returned (.tuple #[]) ∧ ∃ n os, w' = Go.Proofs.sortWorldK tV.enc tV.size w blk 0 n (Sort.pdq (Go.Proofs.ltOf cfV) d 0 d.size (Lib.bitLen d.size) true true) os :=
  Go.Proofs.AnyQ.slices_SortFunc_eq lay15 3 (fun w => Go.Proofs.Tryd.isAgg34 w) (fun w => Go.Proofs.Tryd.sizeOf34 w) tV.enc (fun x => Ty.enc_length (t := tV) x rfl) (fun x v hv => Ty.enc_one (t := tV) x v hv) cfV swoV 16 #[] blk 0 cap d w (fun args w => enters_of' call16 args w)
    (fun m os dk _ x y => compare_raw x.1 x.2.1 (toBA x.2.2.1) y.1 y.2.1 (toBA y.2.2.1) _) hH hb hs
theorem S15 (A : Amb) (n : Nat) : Sound A P cH 15 s15 (f_slices_SortFunc_Lapi_Value_api_Value n) := sortFunc_sound (t0 := .pair tI (.pair tI (.pair .str .unit))) rfl swoV sort_nil15 sort_raw15
def s17 : Sig := ⟨[.val (.sl .own 32 (.st (.pair tI (.pair tI (.pair .str .unit)))))], [.val (.sl .own 32 (.st (.pair tI (.pair tI (.pair .str .unit)))))]⟩
/-- slices.Compact[[]rabbet/api.Value,rabbet/api.Value] -/
def f_slices_Compact_Lapi_Value_api_Value (_n : Nat) (x : (List (Int × Int × List Int × Unit)) × Unit) : Option (((List (Int × Int × List Int × Unit)) × Unit) × (Unit)) := compF (.st (.pair tI (.pair tI (.pair .str .unit)))) x
theorem nt17 : Go.Proofs.Tryd.f17.ntmps = 61 := by kernel_rfl
theorem fn17 : P.funcs[17]? = some Go.Proofs.Tryd.f17 := by kernel_rfl
theorem call17 : Callable P 17 := callB_ok (by kernel_rfl)
theorem run_store1 {W : World} {a : Addr} {v u : Value} (h1 : v.oneCell' = true) (hc : W.cell? a = some u) (hf : W.frozen? a = false) : Sem.run P (store a v) W = .ok () (W.setCell a v) := by
  rw [run_store P W a v .plain h1, hc]
  simp [hf]
theorem three {α : Type} {l : List α} (h : l.length = 3) : ∃ a b c, l = [a, b, c] := by
  match l, h with
  | [a, b, c], _ => exact ⟨a, b, c, rfl⟩
set_option maxHeartbeats 4000000 in
set_option maxRecDepth 1000000 in
theorem cmp_raw17 (w : World) (b S n cap : Nat) (hn : n ≤ cap) (hroom : n ≤ 140737488355328) (hS : n * 3 ≤ S) (E : Nat → List Value) (eqB : Nat → Nat → Bool)
  (hE : ∀ i, i < n → (E i).length = 3 ∧ ∀ v, v ∈ E i → v.oneCell' = true)
  (heq : ∀ i j, i < n → j < n → ∀ W, (binOp .eql 34 (.agg (E i).toArray) (.agg (E j).toArray)).run P W = .ok (.bool (eqB i j)) W)
  (hne : ∀ i j, i < n → j < n → ∀ W, (binOp .neq 34 (.agg (E i).toArray) (.agg (E j).toArray)).run P W = .ok (.bool (!eqB i j)) W)
  (hgd : ∀ (op : BinOp) (x y : Operand) i j, ∀ W, (eqGuard op 34 x y (.agg (E i).toArray) (.agg (E j).toArray)).run P W = .ok () W)
  (hcl : ∀ (k : Nat) X W, k < n → CW w b S 3 n X W → ∃ W', (Builtin.clear_ #[25] 0 #[.slice (some ⟨b, k * 3, none⟩) (n - k) (cap - k)]).run P W = .ok (.tuple #[]) W' ∧ CW w b S 3 k X W')
  (hcw : CW w b S 3 n E w) :
    Calls P 17 #[.slice (some ⟨b, 0, none⟩) n cap] w fun e w' => e = .returned (.slice (some ⟨b, 0, none⟩) (keptTo eqB n).length cap) ∧ CW w b S 3 (keptTo eqB n).length (XK E (keptTo eqB n)) w' := by
  have mixed := mixed
  have fin : ∀ W, (∀ j, j < n → keepB eqB j = true) → CW w b S 3 n E W → n = (keptTo eqB n).length ∧ CW w b S 3 (keptTo eqB n).length (XK E (keptTo eqB n)) W := fun W h hc => by
    have hk := keptTo_all h
    have hl : n = (keptTo eqB n).length := by rw [hk]; simp
    refine ⟨hl, ?_⟩
    rw [← hl]
    exact hc.congr fun i hi => by rw [hk, XK_range]
  have FIN : Away _ := ⟨fin⟩
  have HCL : Away _ := ⟨hcl⟩
  have HEQ : Away _ := ⟨heq⟩
  have HNE : Away _ := ⟨hne⟩
  have HGD : Away _ := ⟨hgd⟩
  have HE : Away _ := ⟨hE⟩
  clear fin hcl heq hne hgd hE
  by_cases h2 : n < 2
  · have HC : Away _ := ⟨hcw⟩
    clear hcw
    go_enter fn17, nt17
    go_wp2
    go_ret
    obtain ⟨e1, e2⟩ := FIN.out w (fun j hj => by
      have : j = 0 := by omega
      simp [keepB, this]) HC.out
    exact ⟨by rw [← e1]; rfl, e2⟩
  go_enter fn17, nt17
  go_wp2
  go_loopg [3] n (fun g s3 wr => ∃ k : Nat, 1 ≤ k ∧ k ≤ n ∧ n - k ≤ g ∧ s3 = .int .i64 k ∧ CW w b S 3 n E wr ∧ ∀ j, j < k → keepB eqB j = true)
  case atStart => exact ⟨1, Nat.le_refl _, by omega, by omega, rfl, hcw, fun j hj => by
    have : j = 0 := by omega
    simp [keepB, this]⟩
  case round =>
    obtain ⟨k, hk1, hk, hg, rfl, hcr, hall⟩ := hrel
    have A : Away _ := ⟨hall⟩
    have HR : Away _ := ⟨hcr⟩
    clear hall hcr hcw
    by_cases hlt : k < n
    · obtain ⟨kp, rfl⟩ : ∃ kp, k = kp + 1 := ⟨k - 1, by omega⟩
      have he := HEQ.out (kp + 1) kp hlt (by omega)
      have hg' := fun op x y => HGD.out op x y (kp + 1) kp
      obtain ⟨x0, x1, x2, hx⟩ := three (HE.out (kp + 1) hlt).1
      obtain ⟨y0, y1, y2, hy⟩ := three (HE.out kp (by omega)).1
      have a0 := HR.out.cell hS hlt (j := 0) (by rw [hx]; rfl)
      have a1 := HR.out.cell hS hlt (j := 1) (by rw [hx]; rfl)
      have a2 := HR.out.cell hS hlt (j := 2) (by rw [hx]; rfl)
      have b0 := HR.out.cell hS (show kp < n by omega) (j := 0) (by rw [hy]; rfl)
      have b1 := HR.out.cell hS (show kp < n by omega) (j := 1) (by rw [hy]; rfl)
      have b2 := HR.out.cell hS (show kp < n by omega) (j := 2) (by rw [hy]; rfl)
      rw [Nat.add_zero] at a0 b0
      rw [hx, hy] at he hg'
      clear hx hy
      have z0 : (0 : Int) ≤ (kp : Int) + 1 := by omega
      have z1 : (kp : Int) < (n : Int) := by omega
      cases hd : eqB (kp + 1) kp with
      | false =>
        rw [hd] at he
        go_wp2_with fail
        go_region_o
        go_wp2
        go_roundg (n - (kp + 1 + 1))
        case measure => omega
        case rel =>
          refine ⟨kp + 1 + 1, by omega, by omega, Nat.le_refl _, by go_num, HR.out.drew, fun j hj => ?_⟩
          by_cases e : j = kp + 1
          · subst e; simp [keepB, hd]
          · exact A.out j (by omega)
      | true =>
        rw [hd] at he
        go_wp2_with fail
        go_region_o
        clear a0 a1 a2 b0 b1 b2 he hg'
        have hkc : ¬ cap = kp + 1 := by omega
        have hkn : kp + 1 ≤ cap := by omega
        go_wp2
        go_loopg [3, 5] n (fun g s3 s5 wr2 => ∃ k2 : Nat, s3 = .int .i64 ((keptTo eqB (kp + 1 + k2)).length : Nat) ∧ s5 = .int .i64 k2 ∧ 1 ≤ k2 ∧ kp + 1 + k2 ≤ n ∧ n - (kp + 1 + k2) ≤ g ∧ CW w b S 3 n (XK E (keptTo eqB (kp + 1 + k2))) wr2 ∧ (keptTo eqB (kp + 1 + k2)).length < kp + 1 + k2)
        case atStart =>
          have hkt : keptTo eqB (kp + 1 + 1) = List.range (kp + 1) := by
            rw [keptTo_succ, keptTo_all A.out]
            simp [keepB, hd]
          refine ⟨1, by rw [hkt]; simp, rfl, Nat.le_refl _, by omega, by omega, ?_, by rw [hkt]; simp⟩
          exact HR.out.drew.congr fun i hi => by rw [hkt, XK_range]
        case round =>
          obtain ⟨k2, rfl, rfl, h1, hle, hg2, hcw2, hL⟩ := hrel
          have H2 : Away _ := ⟨hcw2⟩
          obtain ⟨kk, hkk⟩ : ∃ kk, (keptTo eqB (kp + 1 + k2)).length = kk := ⟨_, rfl⟩
          have HKK : Away _ := ⟨hkk⟩
          rw [hkk] at hL ⊢
          clear hcw2 hkk
          by_cases hm : kp + 1 + k2 < n
          · obtain ⟨j, rfl⟩ : ∃ j, k2 = j + 1 := ⟨k2 - 1, by omega⟩
            have hXm : XK E (keptTo eqB (kp + 1 + (j + 1))) (kp + 1 + (j + 1)) = E (kp + 1 + (j + 1)) := XK_high (by rw [HKK.out]; omega)
            have hXp : XK E (keptTo eqB (kp + 1 + (j + 1))) (kp + 1 + j) = E (kp + 1 + j) := XK_high (by rw [HKK.out]; omega)
            have he := HNE.out (kp + 1 + (j + 1)) (kp + 1 + j) hm (by omega)
            have hg' := fun op x y => HGD.out op x y (kp + 1 + (j + 1)) (kp + 1 + j)
            obtain ⟨x0, x1, x2, hx⟩ := three (HE.out (kp + 1 + (j + 1)) hm).1
            obtain ⟨y0, y1, y2, hy⟩ := three (HE.out (kp + 1 + j) (by omega)).1
            have hone := (HE.out (kp + 1 + (j + 1)) hm).2
            rw [hx] at hone
            have o0 := hone x0 (by simp)
            have o1 := hone x1 (by simp)
            have o2 := hone x2 (by simp)
            clear hone
            have a0 := H2.out.cell hS hm (j := 0) (by rw [hXm, hx]; rfl)
            have a1 := H2.out.cell hS hm (j := 1) (by rw [hXm, hx]; rfl)
            have a2 := H2.out.cell hS hm (j := 2) (by rw [hXm, hx]; rfl)
            have b0 := H2.out.cell hS (show kp + 1 + j < n by omega) (j := 0) (by rw [hXp, hy]; rfl)
            have b1 := H2.out.cell hS (show kp + 1 + j < n by omega) (j := 1) (by rw [hXp, hy]; rfl)
            have b2 := H2.out.cell hS (show kp + 1 + j < n by omega) (j := 2) (by rw [hXp, hy]; rfl)
            rw [Nat.add_zero] at a0 b0
            have ea : (kp + 1 + (j + 1)) * 3 = (kp + 1) * 3 + (j + 1) * 3 := by omega
            have eb : (kp + 1 + j) * 3 = (kp + 1) * 3 + j * 3 := by omega
            rw [ea] at a0 a1 a2
            rw [eb] at b0 b1 b2
            rw [hx, hy] at he hg'
            have HX : Away _ := ⟨hx⟩
            clear hx hy ea eb hXm hXp
            have z0 : (0 : Int) ≤ (j : Int) + 1 := by omega
            have z1 : (j : Int) + 1 < ((n - (kp + 1) : Nat) : Int) := by omega
            have z2 : (j : Int) < ((n - (kp + 1) : Nat) : Int) := by omega
            cases hd2 : eqB (kp + 1 + (j + 1)) (kp + 1 + j) with
            | true =>
              rw [hd2] at he
              go_wp2_with fail
              go_region_o
              go_wp2
              go_roundg (n - (kp + 1 + (j + 1 + 1)))
              case measure => omega
              case rel =>
                have hkt : keptTo eqB (kp + 1 + (j + 1 + 1)) = keptTo eqB (kp + 1 + (j + 1)) := by
                  rw [show kp + 1 + (j + 1 + 1) = (kp + 1 + (j + 1)) + 1 by omega, keptTo_succ]
                  simp [keepB, show kp + 1 + (j + 1) - 1 = kp + 1 + j by omega, hd2]
                refine ⟨j + 1 + 1, by rw [hkt, HKK.out], by go_num, by omega, by omega, Nat.le_refl _, by rw [hkt]; exact H2.out.drew, by rw [hkt, HKK.out]; omega⟩
            | false =>
              rw [hd2] at he
              obtain ⟨v0, v1, v2, hv⟩ : ∃ v0 v1 v2, XK E (keptTo eqB (kp + 1 + (j + 1))) kk = [v0, v1, v2] := three (by
                obtain ⟨c, _, q2, q3⟩ := H2.out.blk
                rw [← q3 kk (by omega)]
                exact seg_length (by have := mul_lt_le (sz := 3) (show kk < n by omega); simp; omega))
              have c0 := H2.out.cell hS (show kk < n by omega) (j := 0) (by rw [hv]; rfl)
              have c1 := H2.out.cell hS (show kk < n by omega) (j := 1) (by rw [hv]; rfl)
              have c2 := H2.out.cell hS (show kk < n by omega) (j := 2) (by rw [hv]; rfl)
              have f0 := H2.out.frozen hS (show kk < n by omega) (j := 0) (by omega)
              have f1 := H2.out.frozen hS (show kk < n by omega) (j := 1) (by omega)
              have f2 := H2.out.frozen hS (show kk < n by omega) (j := 2) (by omega)
              rw [Nat.add_zero] at c0 f0
              have g0 : Sem.run P (store ⟨b, kk * 3, none⟩ x0) wr.drew = .ok () (wr.setCell ⟨b, kk * 3, none⟩ x0).drew := run_store1 (W := wr.drew) o0 c0 f0
              have g1 : Sem.run P (store ⟨b, kk * 3 + 1, none⟩ x1) (wr.setCell ⟨b, kk * 3, none⟩ x0).drew = .ok () ((wr.setCell ⟨b, kk * 3, none⟩ x0).setCell ⟨b, kk * 3 + 1, none⟩ x1).drew :=
                run_store1 (W := (wr.setCell ⟨b, kk * 3, none⟩ x0).drew) o1 (u := v1) (by
                  show (wr.setCell ⟨b, kk * 3, none⟩ x0).cell? _ = _
                  rw [World.cell?_setCell_other _ (h := show (⟨b, kk * 3, none⟩ : Addr) ≠ ⟨b, kk * 3 + 1, none⟩ by simp)]; exact c1) (by
                  show (wr.setCell ⟨b, kk * 3, none⟩ x0).frozen? _ = _
                  rw [World.frozen?_setCell]; exact f1)
              have g2 : Sem.run P (store ⟨b, kk * 3 + 2, none⟩ x2) ((wr.setCell ⟨b, kk * 3, none⟩ x0).setCell ⟨b, kk * 3 + 1, none⟩ x1).drew = .ok () (((wr.setCell ⟨b, kk * 3, none⟩ x0).setCell ⟨b, kk * 3 + 1, none⟩ x1).setCell ⟨b, kk * 3 + 2, none⟩ x2).drew :=
                run_store1 (W := ((wr.setCell ⟨b, kk * 3, none⟩ x0).setCell ⟨b, kk * 3 + 1, none⟩ x1).drew) o2 (u := v2) (by
                  show ((wr.setCell ⟨b, kk * 3, none⟩ x0).setCell ⟨b, kk * 3 + 1, none⟩ x1).cell? _ = _
                  rw [World.cell?_setCell_other _ (h := show (⟨b, kk * 3 + 1, none⟩ : Addr) ≠ ⟨b, kk * 3 + 2, none⟩ by simp), World.cell?_setCell_other _ (h := show (⟨b, kk * 3, none⟩ : Addr) ≠ ⟨b, kk * 3 + 2, none⟩ by simp)]; exact c2) (by
                  show ((wr.setCell ⟨b, kk * 3, none⟩ x0).setCell ⟨b, kk * 3 + 1, none⟩ x1).frozen? _ = _
                  rw [World.frozen?_setCell, World.frozen?_setCell]; exact f2)
              clear c0 c1 c2 f0 f1 f2
              clear hv
              have z3 : (kk : Int) < (n : Int) := by omega
              go_wp2_with fail
              go_region_o
              go_wp2
              go_roundg (n - (kp + 1 + (j + 1 + 1)))
              case measure => omega
              case rel =>
                have hkt : keptTo eqB (kp + 1 + (j + 1 + 1)) = keptTo eqB (kp + 1 + (j + 1)) ++ [kp + 1 + (j + 1)] := by
                  rw [show kp + 1 + (j + 1 + 1) = (kp + 1 + (j + 1)) + 1 by omega, keptTo_succ]
                  simp [keepB, show kp + 1 + (j + 1) - 1 = kp + 1 + j by omega, hd2]
                refine ⟨j + 1 + 1, by rw [hkt]; simp only [List.length_append, HKK.out]; go_num, by go_num, by omega, by omega, Nat.le_refl _, ?_, by rw [hkt]; simp only [List.length_append, HKK.out, List.length_cons, List.length_nil]; omega⟩
                rw [hkt]
                refine (H2.out.drew.set3 P hS (show kk < n by omega) o0 o1 o2).congr fun i hi => ?_
                rw [← XK_push, HKK.out, HX.out]
          · have hmn : kp + 1 + k2 = n := by omega
            obtain ⟨W', hcl, hcw3⟩ := HCL.out kk _ wr (by omega) H2.out
            have H3 : Away _ := ⟨hcw3⟩
            clear hcw3
            have hkc2 : ¬ cap = kk := by omega
            have hkn2 : kk ≤ n := by omega
            have hkn3 : kk ≤ cap := by omega
            go_wp2
            go_ret
            have e := HKK.out
            rw [hmn] at e
            refine ⟨by rw [e]; rfl, ?_⟩
            rw [e, ← hmn]
            exact H3.out
    · have : k = n := by omega
      subst this
      go_wp2
      go_ret
      obtain ⟨e1, e2⟩ := FIN.out _ A.out HR.out
      exact ⟨by rw [← e1]; rfl, e2⟩
theorem uT17 : P.underlying 25 = some (.slice 34) := by kernel_rfl
set_option maxHeartbeats 4000000 in
set_option maxRecDepth 1000000 in
theorem cmp_nil17 (w : World) : Calls P 17 #[.slice none 0 0] w fun e w' => e = .returned (.slice none 0 0) ∧ w' = w := by
  go_enter fn17, nt17
  go_wp2
  go_ret
  exact ⟨rfl, rfl⟩
theorem S17 (A : Amb) (n : Nat) : Sound A P cH 17 s17 (f_slices_Compact_Lapi_Value_api_Value n) :=
  compact_sound (T := 25) (EL := 34) (tab rfl) rfl rfl uT17 rfl (z := (zeroCells (.st (.pair tI (.pair tI (.pair .str .unit))))).getD []) rfl rfl (by decide) (fun x y => rfl) cmp_nil17 cmp_raw17
def s24 : Sig := ⟨[.val .err, .val .err], [.val .bool]⟩
/-- errors.Is -/
def f_errors_Is (_n : Nat) (x : UV × UV × Unit) : Option ((Bool × Unit) × (Unit)) := isFs [t_dict_wrap, t_num_wrap] x
theorem nt24 : Go.Proofs.Tryd.f24.ntmps = 22 := by kernel_rfl
theorem fn24 : P.funcs[24]? = some Go.Proofs.Tryd.f24 := by kernel_rfl
theorem call24 : Callable P 24 := callB_ok (by kernel_rfl)
theorem fn42 : P.funcs[42]? = some Go.Proofs.Tryd.f42 := by kernel_rfl
theorem nt42 : Go.Proofs.Tryd.f42.ntmps = 54 := by kernel_rfl
theorem fn41 : P.funcs[41]? = some Go.Proofs.Tryd.f41 := by kernel_rfl
theorem fn85 : P.funcs[85]? = some Go.Proofs.Tryd.f85 := by kernel_rfl
theorem isTypeOf (v : Value) (w : World) : (Extern.ReflectliteType.typeOf #[.iface 121 v]).run P w = .ok (.iface 100 (.agg #[.pointer (some ⟨4, 121, none⟩)])) w := by kernel_rfl
def ext85 : Array Value → Sem Value := Extern.ReflectliteType.method fun t => do Extern.Rtype.noPackHeld "Comparable" t; pure (.bool (← typeInfo t).comparable)
theorem isComparable (w : World) : (ext85 #[.agg #[.pointer (some ⟨4, 121, none⟩)]]).run P w = .ok (.bool true) w := by kernel_rfl
theorem isMethodComparable (v : Value) (w : World) : (Go.method 257 100 v "Comparable").run P w = .ok (85, v) w := by kernel_rfl
theorem isComp : (P.info? 121).map (·.comparable) = some true := by kernel_rfl
theorem isSize : (P.info? 146).map (·.size) = some 1 := by kernel_rfl
theorem u130 : P.underlying 121 = some (.pointer 146) := by kernel_rfl
theorem i77 : ifaceB P 53 = true := by kernel_rfl
theorem nE1 : lacksB P 121 102 = true := by kernel_rfl
theorem nE2 : lacksB P 121 105 = true := by kernel_rfl
theorem nE3 : lacksB P 121 107 = true := by kernel_rfl
set_option maxHeartbeats 4000000 in
theorem is_nil (b : Addr) (w : World) : Calls P 24 #[.nilIface, .iface 121 (.pointer (some b))] w fun e w' => e = .returned (.bool false) ∧ w' = w := by
  obtain ⟨ms, h77⟩ := ifaceB_ok i77
  have hn := run_eql_iface_nil_left (P := P) w 121 (.pointer (some b)) h77
  go_enter fn24, nt24
  go_wp2
  go_ret
  exact ⟨rfl, rfl⟩
set_option maxHeartbeats 4000000 in
theorem in_same (a : Addr) (w : World) : Calls P 42 #[.iface 121 (.pointer (some a)), .iface 121 (.pointer (some a)), .bool true] w fun e w' => e = .returned (.bool true) ∧ w' = w := by
  obtain ⟨ms, h77⟩ := ifaceB_ok i77
  obtain ⟨i, hi, hcmp⟩ := Option.map_eq_some_iff.1 isComp
  obtain ⟨j, hj, hjs⟩ := Option.map_eq_some_iff.1 isSize
  have heq := run_eql_iface_ptr_same (P := P) w a h77 u130 hi hcmp hj
  go_enter fn42, nt42
  go_wp2
  refine wp_loop_rounds 1 ?_
  rw [rounds_succ]
  go_wp2
  go_ret
  exact ⟨rfl, rfl⟩
set_option maxHeartbeats 4000000 in
theorem in_other (a b : Addr) (ca cb : Array Value) (ta tb : TypeId) (w : World) (hne : a ≠ b) (ha : w.heap[a.block]? = some (.cells ca ta (0, 0))) (hb : w.heap[b.block]? = some (.cells cb tb (0, 0))) :
    Calls P 42 #[.iface 121 (.pointer (some a)), .iface 121 (.pointer (some b)), .bool true] w fun e w' => e = .returned (.bool false) ∧ w' = w := by
  obtain ⟨ms, h77⟩ := ifaceB_ok i77
  obtain ⟨i, hi, hcmp⟩ := Option.map_eq_some_iff.1 isComp
  obtain ⟨j, hj, hjs⟩ := Option.map_eq_some_iff.1 isSize
  have nE := assert_lacks nE1
  have uE := assert_lacks nE2
  have vE := assert_lacks nE3
  have heq := run_eql_iface_ptr_other (P := P) w h77 u130 hi hcmp hj (by rw [hjs]; decide) hne ha hb
  go_enter fn42, nt42
  go_wp2
  refine wp_loop_rounds 1 ?_
  rw [rounds_succ]
  go_wp2
  go_ret
  exact ⟨rfl, rfl⟩
theorem lt_of_cells {h : Array Obj} {k : Nat} {c : Array Value} {t : TypeId} {fr : Nat × Nat} (hh : h[k]? = some (.cells c t fr)) : k < h.size := by
  rcases Nat.lt_or_ge k h.size with h1 | h1
  · exact h1
  · rw [Array.getElem?_eq_none h1] at hh; cases hh

set_option maxHeartbeats 4000000 in
theorem is_same (a : Addr) (w : World) :
    Calls P 24 #[.iface 121 (.pointer (some a)), .iface 121 (.pointer (some a))] w fun e w' => e = .returned (.bool true) ∧ w' = w := by
  obtain ⟨ms, h77⟩ := ifaceB_ok i77
  have h8 := @run_callFunc_extern P 41 _ Extern.ReflectliteType.typeOf fn41 (by kernel_rfl) (by kernel_rfl) (by kernel_rfl) (by kernel_rfl)
  have h32 := @run_callFunc_extern P 85 _ ext85 fn85 (by kernel_rfl) (by kernel_rfl) (by kernel_rfl) (by kernel_rfl)
  have tT := isTypeOf
  have cT := isComparable
  have mR := isMethodComparable
  go_enter fn24, nt24
  go_wp2_with (go_at_call 42; refine (in_same a w).mono ?_; rintro e w' ⟨rfl, hx⟩)
  go_ret
  first | exact ⟨rfl, hx⟩ | exact ⟨rfl, rfl⟩
set_option maxHeartbeats 4000000 in
theorem is_other (a b : Addr) (ca cb : Array Value) (ta tb : TypeId) (w : World) (hne : a ≠ b) (ha : w.heap[a.block]? = some (.cells ca ta (0, 0))) (hb : w.heap[b.block]? = some (.cells cb tb (0, 0))) :
    Calls P 24 #[.iface 121 (.pointer (some a)), .iface 121 (.pointer (some b))] w fun e w' => e = .returned (.bool false) ∧ w' = w := by
  obtain ⟨ms, h77⟩ := ifaceB_ok i77
  have h8 := @run_callFunc_extern P 41 _ Extern.ReflectliteType.typeOf fn41 (by kernel_rfl) (by kernel_rfl) (by kernel_rfl) (by kernel_rfl)
  have h32 := @run_callFunc_extern P 85 _ ext85 fn85 (by kernel_rfl) (by kernel_rfl) (by kernel_rfl) (by kernel_rfl)
  have tT := isTypeOf
  have cT := isComparable
  have mR := isMethodComparable
  go_enter fn24, nt24
  go_wp2_with (go_at_call 42; refine (in_other a b ca cb ta tb w hne ha hb).mono ?_; rintro e w' ⟨rfl, hx⟩)
  go_ret
  first | exact ⟨rfl, hx⟩ | exact ⟨rfl, rfl⟩
theorem fn81 : P.funcs[81]? = some Go.Proofs.Tryd.f81 := by kernel_rfl
theorem nt81 : Go.Proofs.Tryd.f81.ntmps = 5 := by kernel_rfl
theorem nW174 : lacksB P 74 102 = true := by kernel_rfl
theorem hW274 : hasB P 74 105 = true := by kernel_rfl
theorem methodUnwrap74 (v : Value) (w : World) : (Go.method 257 74 v "Unwrap").run P w = .ok (81, v) w := by kernel_rfl

set_option maxHeartbeats 4000000 in
theorem unw74 (s : ByteArray) (v : Value) (w : World) (hv : v.oneCell' = true) : Calls P 81 #[.agg #[.string s, v]] w fun e w' => e = .returned v ∧ Below w.heap.size w w' := by
  go_enter fn81, nt81
  go_wp2
  go_ret
  exact ⟨rfl, (Below.refl _ w).alloc (Nat.le_refl _) _⟩
set_option maxHeartbeats 4000000 in
theorem in_wsame74 (s : ByteArray) (b : Addr) (w : World) :
    Calls P 42 #[.iface 74 (.agg #[.string s, .iface 121 (.pointer (some b))]), .iface 121 (.pointer (some b)), .bool true] w fun e w' => e = .returned (.bool true) ∧ Below w.heap.size w w' := by
  obtain ⟨ms, h77⟩ := ifaceB_ok i77
  obtain ⟨i, hi, hcmp⟩ := Option.map_eq_some_iff.1 isComp
  obtain ⟨j, hj, hjs⟩ := Option.map_eq_some_iff.1 isSize
  have nE := assert_lacks nE1
  have uE := assert_lacks nE2
  have vE := assert_lacks nE3
  have nW := assert_lacks nW174
  have uW := assert_has hW274
  have mU := methodUnwrap74
  have heq := fun w => run_eql_iface_ptr_same (P := P) w b h77 u130 hi hcmp hj
  have hty := run_eql_iface_types (P := P) 74 121 (.agg #[.string s, .iface 121 (.pointer (some b))]) (.pointer (some b)) h77 (by decide) w
  have hu := unw74 s (.iface 121 (.pointer (some b))) w rfl
  go_enter fn42, nt42
  go_wp2
  refine wp_loop_rounds 2 ?_
  rw [rounds_succ]
  go_wp2_with (go_at_call 81; refine hu.mono ?_; rintro e w' ⟨rfl, hb⟩)
  rw [rounds_succ]
  go_wp2
  go_ret
  exact ⟨rfl, by assumption⟩
set_option maxHeartbeats 4000000 in
theorem in_wother74 (s : ByteArray) (a b : Addr) (ca cb : Array Value) (ta tb : TypeId) (w : World) (hne : a ≠ b) (hal : a.block < w.heap.size) (hbl : b.block < w.heap.size) (ha : w.heap[a.block]? = some (.cells ca ta (0, 0))) (hb : w.heap[b.block]? = some (.cells cb tb (0, 0))) :
    Calls P 42 #[.iface 74 (.agg #[.string s, .iface 121 (.pointer (some a))]), .iface 121 (.pointer (some b)), .bool true] w fun e w' => e = .returned (.bool false) ∧ Below w.heap.size w w' := by
  obtain ⟨ms, h77⟩ := ifaceB_ok i77
  obtain ⟨i, hi, hcmp⟩ := Option.map_eq_some_iff.1 isComp
  obtain ⟨j, hj, hjs⟩ := Option.map_eq_some_iff.1 isSize
  have nE := assert_lacks nE1
  have uE := assert_lacks nE2
  have vE := assert_lacks nE3
  have nW := assert_lacks nW174
  have uW := assert_has hW274
  have mU := methodUnwrap74
  have heq : ∀ w' : World, Below w.heap.size w w' → (binOp .eql 53 (.iface 121 (.pointer (some a))) (.iface 121 (.pointer (some b)))).run P w' = .ok (.bool false) w' := fun w' hB => run_eql_iface_ptr_other (P := P) w' h77 u130 hi hcmp hj (by rw [hjs]; decide) hne ((hB.block _ hal).trans ha) ((hB.block _ hbl).trans hb)
  have hty := run_eql_iface_types (P := P) 74 121 (.agg #[.string s, .iface 121 (.pointer (some a))]) (.pointer (some b)) h77 (by decide) w
  have hu := unw74 s (.iface 121 (.pointer (some a))) w rfl
  go_enter fn42, nt42
  go_wp2
  refine wp_loop_rounds 2 ?_
  rw [rounds_succ]
  go_wp2_with (go_at_call 81; refine hu.mono ?_; rintro e w' ⟨rfl, hB⟩; have heq2 := heq w' hB)
  rw [rounds_succ]
  go_wp2
  go_ret
  exact ⟨rfl, by assumption⟩
set_option maxHeartbeats 4000000 in
theorem is_wsame74 (s : ByteArray) (b : Addr) (w : World) (_ : ∃ ca ta, w.heap[b.block]? = some (.cells ca ta (0, 0))) :
    Calls P 24 #[.iface 74 (.agg #[.string s, .iface 121 (.pointer (some b))]), .iface 121 (.pointer (some b))] w fun e w' => e = .returned (.bool true) ∧ Below w.heap.size w w' := by
  obtain ⟨ms, h77⟩ := ifaceB_ok i77
  have h8 := @run_callFunc_extern P 41 _ Extern.ReflectliteType.typeOf fn41 (by kernel_rfl) (by kernel_rfl) (by kernel_rfl) (by kernel_rfl)
  have h32 := @run_callFunc_extern P 85 _ ext85 fn85 (by kernel_rfl) (by kernel_rfl) (by kernel_rfl) (by kernel_rfl)
  have tT := isTypeOf
  have cT := isComparable
  have mR := isMethodComparable
  go_enter fn24, nt24
  go_wp2_with (go_at_call 42; refine (in_wsame74 s b w).mono ?_; rintro e w' ⟨rfl, hx⟩)
  go_ret
  first | exact ⟨rfl, hx⟩ | exact ⟨rfl, rfl⟩
set_option maxHeartbeats 4000000 in
theorem is_wother74 (s : ByteArray) (a b : Addr) (ca cb : Array Value) (ta tb : TypeId) (w : World) (hne : a ≠ b) (ha : w.heap[a.block]? = some (.cells ca ta (0, 0))) (hb : w.heap[b.block]? = some (.cells cb tb (0, 0))) :
    Calls P 24 #[.iface 74 (.agg #[.string s, .iface 121 (.pointer (some a))]), .iface 121 (.pointer (some b))] w fun e w' => e = .returned (.bool false) ∧ Below w.heap.size w w' := by
  obtain ⟨ms, h77⟩ := ifaceB_ok i77
  have h8 := @run_callFunc_extern P 41 _ Extern.ReflectliteType.typeOf fn41 (by kernel_rfl) (by kernel_rfl) (by kernel_rfl) (by kernel_rfl)
  have h32 := @run_callFunc_extern P 85 _ ext85 fn85 (by kernel_rfl) (by kernel_rfl) (by kernel_rfl) (by kernel_rfl)
  have tT := isTypeOf
  have cT := isComparable
  have mR := isMethodComparable
  go_enter fn24, nt24
  go_wp2_with (go_at_call 42; refine (in_wother74 s a b ca cb ta tb w hne (lt_of_cells ha) (lt_of_cells hb) ha hb).mono ?_; rintro e w' ⟨rfl, hx⟩)
  go_ret
  first | exact ⟨rfl, hx⟩ | exact ⟨rfl, rfl⟩

theorem fn95 : P.funcs[95]? = some Go.Proofs.Tryd.f95 := by kernel_rfl
theorem nt95 : Go.Proofs.Tryd.f95.ntmps = 5 := by kernel_rfl
theorem nW1117 : lacksB P 117 102 = true := by kernel_rfl
theorem hW2117 : hasB P 117 105 = true := by kernel_rfl
theorem methodUnwrap117 (v : Value) (w : World) : (Go.method 257 117 v "Unwrap").run P w = .ok (95, v) w := by kernel_rfl

set_option maxHeartbeats 4000000 in
theorem unw117 (s : ByteArray) (v : Value) (w : World) (hv : v.oneCell' = true) : Calls P 95 #[.agg #[.string s, v]] w fun e w' => e = .returned v ∧ Below w.heap.size w w' := by
  go_enter fn95, nt95
  go_wp2
  go_ret
  exact ⟨rfl, (Below.refl _ w).alloc (Nat.le_refl _) _⟩
set_option maxHeartbeats 4000000 in
theorem in_wsame117 (s : ByteArray) (b : Addr) (w : World) :
    Calls P 42 #[.iface 117 (.agg #[.string s, .iface 121 (.pointer (some b))]), .iface 121 (.pointer (some b)), .bool true] w fun e w' => e = .returned (.bool true) ∧ Below w.heap.size w w' := by
  obtain ⟨ms, h77⟩ := ifaceB_ok i77
  obtain ⟨i, hi, hcmp⟩ := Option.map_eq_some_iff.1 isComp
  obtain ⟨j, hj, hjs⟩ := Option.map_eq_some_iff.1 isSize
  have nE := assert_lacks nE1
  have uE := assert_lacks nE2
  have vE := assert_lacks nE3
  have nW := assert_lacks nW1117
  have uW := assert_has hW2117
  have mU := methodUnwrap117
  have heq := fun w => run_eql_iface_ptr_same (P := P) w b h77 u130 hi hcmp hj
  have hty := run_eql_iface_types (P := P) 117 121 (.agg #[.string s, .iface 121 (.pointer (some b))]) (.pointer (some b)) h77 (by decide) w
  have hu := unw117 s (.iface 121 (.pointer (some b))) w rfl
  go_enter fn42, nt42
  go_wp2
  refine wp_loop_rounds 2 ?_
  rw [rounds_succ]
  go_wp2_with (go_at_call 95; refine hu.mono ?_; rintro e w' ⟨rfl, hb⟩)
  rw [rounds_succ]
  go_wp2
  go_ret
  exact ⟨rfl, by assumption⟩
set_option maxHeartbeats 4000000 in
theorem in_wother117 (s : ByteArray) (a b : Addr) (ca cb : Array Value) (ta tb : TypeId) (w : World) (hne : a ≠ b) (hal : a.block < w.heap.size) (hbl : b.block < w.heap.size) (ha : w.heap[a.block]? = some (.cells ca ta (0, 0))) (hb : w.heap[b.block]? = some (.cells cb tb (0, 0))) :
    Calls P 42 #[.iface 117 (.agg #[.string s, .iface 121 (.pointer (some a))]), .iface 121 (.pointer (some b)), .bool true] w fun e w' => e = .returned (.bool false) ∧ Below w.heap.size w w' := by
  obtain ⟨ms, h77⟩ := ifaceB_ok i77
  obtain ⟨i, hi, hcmp⟩ := Option.map_eq_some_iff.1 isComp
  obtain ⟨j, hj, hjs⟩ := Option.map_eq_some_iff.1 isSize
  have nE := assert_lacks nE1
  have uE := assert_lacks nE2
  have vE := assert_lacks nE3
  have nW := assert_lacks nW1117
  have uW := assert_has hW2117
  have mU := methodUnwrap117
  have heq : ∀ w' : World, Below w.heap.size w w' → (binOp .eql 53 (.iface 121 (.pointer (some a))) (.iface 121 (.pointer (some b)))).run P w' = .ok (.bool false) w' := fun w' hB => run_eql_iface_ptr_other (P := P) w' h77 u130 hi hcmp hj (by rw [hjs]; decide) hne ((hB.block _ hal).trans ha) ((hB.block _ hbl).trans hb)
  have hty := run_eql_iface_types (P := P) 117 121 (.agg #[.string s, .iface 121 (.pointer (some a))]) (.pointer (some b)) h77 (by decide) w
  have hu := unw117 s (.iface 121 (.pointer (some a))) w rfl
  go_enter fn42, nt42
  go_wp2
  refine wp_loop_rounds 2 ?_
  rw [rounds_succ]
  go_wp2_with (go_at_call 95; refine hu.mono ?_; rintro e w' ⟨rfl, hB⟩; have heq2 := heq w' hB)
  rw [rounds_succ]
  go_wp2
  go_ret
  exact ⟨rfl, by assumption⟩
set_option maxHeartbeats 4000000 in
theorem is_wsame117 (s : ByteArray) (b : Addr) (w : World) (_ : ∃ ca ta, w.heap[b.block]? = some (.cells ca ta (0, 0))) :
    Calls P 24 #[.iface 117 (.agg #[.string s, .iface 121 (.pointer (some b))]), .iface 121 (.pointer (some b))] w fun e w' => e = .returned (.bool true) ∧ Below w.heap.size w w' := by
  obtain ⟨ms, h77⟩ := ifaceB_ok i77
  have h8 := @run_callFunc_extern P 41 _ Extern.ReflectliteType.typeOf fn41 (by kernel_rfl) (by kernel_rfl) (by kernel_rfl) (by kernel_rfl)
  have h32 := @run_callFunc_extern P 85 _ ext85 fn85 (by kernel_rfl) (by kernel_rfl) (by kernel_rfl) (by kernel_rfl)
  have tT := isTypeOf
  have cT := isComparable
  have mR := isMethodComparable
  go_enter fn24, nt24
  go_wp2_with (go_at_call 42; refine (in_wsame117 s b w).mono ?_; rintro e w' ⟨rfl, hx⟩)
  go_ret
  first | exact ⟨rfl, hx⟩ | exact ⟨rfl, rfl⟩
set_option maxHeartbeats 4000000 in
theorem is_wother117 (s : ByteArray) (a b : Addr) (ca cb : Array Value) (ta tb : TypeId) (w : World) (hne : a ≠ b) (ha : w.heap[a.block]? = some (.cells ca ta (0, 0))) (hb : w.heap[b.block]? = some (.cells cb tb (0, 0))) :
    Calls P 24 #[.iface 117 (.agg #[.string s, .iface 121 (.pointer (some a))]), .iface 121 (.pointer (some b))] w fun e w' => e = .returned (.bool false) ∧ Below w.heap.size w w' := by
  obtain ⟨ms, h77⟩ := ifaceB_ok i77
  have h8 := @run_callFunc_extern P 41 _ Extern.ReflectliteType.typeOf fn41 (by kernel_rfl) (by kernel_rfl) (by kernel_rfl) (by kernel_rfl)
  have h32 := @run_callFunc_extern P 85 _ ext85 fn85 (by kernel_rfl) (by kernel_rfl) (by kernel_rfl) (by kernel_rfl)
  have tT := isTypeOf
  have cT := isComparable
  have mR := isMethodComparable
  go_enter fn24, nt24
  go_wp2_with (go_at_call 42; refine (in_wother117 s a b ca cb ta tb w hne (lt_of_cells ha) (lt_of_cells hb) ha hb).mono ?_; rintro e w' ⟨rfl, hx⟩)
  go_ret
  first | exact ⟨rfl, hx⟩ | exact ⟨rfl, rfl⟩

theorem S24 (A : Amb) (hA : HA A) (n : Nat) : Sound A P cH 24 s24 (f_errors_Is n) :=
  is_sounds (ws := [74, 117]) hA is_nil is_same is_other
  (fun wt hw => by
    simp only [List.mem_cons, List.not_mem_nil, or_false] at hw
    rcases hw with rfl | rfl
    · exact is_wsame74
    · exact is_wsame117
    )
  (fun wt hw => by
    simp only [List.mem_cons, List.not_mem_nil, or_false] at hw
    rcases hw with rfl | rfl
    · exact is_wother74
    · exact is_wother117
    )
end Go.Rb.R2
