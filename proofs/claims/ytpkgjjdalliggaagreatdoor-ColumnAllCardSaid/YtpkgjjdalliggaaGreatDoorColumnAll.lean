/- Plain law: which bytes columns are, and which columns bytes. Own work. -/
import Derived.Test.YtpkgjjdalliggaaGreatDoorLawE
import Derived.Test.YtpkgjjdalliggaaGreatDoorLawF
import Derived.Test.YtpkgjjdalliggaaGreatDoorLawB
import Derived.Test.YtpkgjjdalliggaaGreatDoorLawC
import Derived.Test.YtpkgjjdalliggaaGreatDoorCards
import Derived.Test.YtpkgjjdalliggaaGreatDoorTie
import Derived.SevenTiedAt
set_option autoImplicit false
set_option linter.unusedVariables false
set_option linter.unusedSimpArgs false
namespace Go.Rb.R4
open Go.Rb
theorem f3y {t : Int} (ht : -9223372036854775808 ≤ t ∧ t ≤ 9223372036854775807) {i : Nat} (hi : i < 5) : ∃ ty, [t, (1:Int), (2:Int), (3:Int), (4:Int)].getD i (0:Int) = ty ∧ -9223372036854775808 ≤ ty ∧ ty ≤ 9223372036854775807 := by
 have : i = 0 ∨ i = 1 ∨ i = 2 ∨ i = 3 ∨ i = 4 := by omega
 rcases this with rfl | rfl | rfl | rfl | rfl
 ·exact ⟨t, rfl, ht⟩
 ·exact ⟨1, rfl, by omega, by omega⟩
 ·exact ⟨2, rfl, by omega, by omega⟩
 ·exact ⟨3, rfl, by omega, by omega⟩
 ·exact ⟨4, rfl, by omega, by omega⟩
theorem f9q (a : Bool) : (!(a == a)) = false := by cases a <;> rfl
theorem d0g {g t m : Int} {p b : List Int} {l : List Vl} (ht : -9223372036854775808 ≤ t ∧ t ≤ 9223372036854775807) (hp : a3p p) (hl : ∀ v, v ∈ l → okV v) (hb : a3p b) :
  ∃ n y, a3y n (g, t, p, l, m, b, ()) = some y ∧ y.1.1 = true := by
 have hro := a1s
 obtain ⟨n, hn, hbeg⟩ : ∃ n, 1000000 ≤ n ∧ a3f n () = some ((true, ()), ()) := ⟨1000000, by omega, e4k⟩
 refine ⟨n, ?_⟩
 suffices h : Gets (a3y n (g, t, p, l, m, b, ())) fun y => y.1.1 = true from h
 unfold a3y
 rw [hbeg]
 simp only [Option.bind_some]
 rw [if_neg (by decide)]
 by_cases h60 : (60:Int) < (p.length : Int)
 ·rw [if_pos (by simpa using h60)]; exact Gets.some rfl
 rw [if_neg (by simpa using h60)]
 by_cases h20 : (10:Int) < (l.length : Int)
 ·rw [if_pos (by simpa using h20)]; exact Gets.some rfl
 rw [if_neg (by simpa using h20)]
 by_cases hb60 : (60:Int) < (b.length : Int)
 ·rw [if_pos (by simpa using hb60)]; exact Gets.some rfl
 rw [if_neg (by simpa using hb60)]
 refine Gets.iter (I := fun s : Int => ∃ i : Nat, s = (i : Int) ∧ i ≤ l.length) (μ := fun s => l.length - s.toNat) ⟨0, rfl, by omega⟩ (by simp <;> omega) ?_
 rintro rec _ ⟨i, rfl, hi⟩ hrec
 by_cases hil : i < l.length
 ·rw [if_pos (by simp <;> omega), a0f hil]
  refine Gets.dec (fun _ => Gets.some rfl) fun _ => ?_
  rw [a0g (by omega)]
  exact hrec _ ⟨i + 1, rfl, by omega⟩ (by simp <;> omega)
 rw [if_neg (by simp <;> omega)]
 have hfive : [t, (1:Int), (2:Int), (3:Int), (4:Int)].length = 5 := rfl
 have hsix : [g, (1:Int), (2:Int), (3:Int), (4:Int), (5:Int)].length = 6 := rfl
 rw [hfive]
 refine Gets.iter (I := fun s : Int => ∃ i : Nat, s = (i : Int) ∧ i ≤ 5) (μ := fun s => 5 - s.toNat) ⟨0, rfl, by omega⟩ (by simp <;> omega) ?_
 rintro rec2 _ ⟨j, rfl, hj⟩ hrec2
 by_cases hj5 : j < 5
 rotate_left
 ·rw [if_neg (by simp <;> omega)]; exact Gets.some rfl
 obtain ⟨ty, hty, hty1, hty2⟩ := f3y ht hj5
 rw [if_pos (by simp <;> omega), Int.toNat_natCast, hty]
 rw [hsix]
 refine Gets.iter (I := fun s : Int => ∃ i : Nat, s = (i : Int) ∧ i ≤ 6) (μ := fun s => 6 - s.toNat) ⟨0, rfl, by omega⟩ (by simp <;> omega) ?_
 rintro rec3 _ ⟨k, rfl, hk⟩ hrec3
 by_cases hk6 : k < 6
 ·obtain ⟨e, he⟩ : ∃ e, [g, (1:Int), (2:Int), (3:Int), (4:Int), (5:Int)].getD k (0:Int) = e := ⟨_, rfl⟩
  rw [if_pos (by simp <;> omega), Int.toNat_natCast, he, a0f hk6, a0f hj5, b6x]
  simp only [Option.bind_some]
  rw [a0f hk6, a0f hj5, c7p]
  simp only [Option.bind_some]
  rw [a0f hk6, a0f hj5, b3p hl (by omega) (by omega)]
  simp only [Option.bind_some]
  rw [a0f hk6, a0f hj5, b2f hl (by omega) (by omega)]
  simp only [Option.bind_some]
  rw [a0f hj5]
  refine Gets.bind (e9b hp (by omega) (by omega) (by omega)) ?_
  rintro _ ⟨l2, rfl, hl2, hv2, _⟩
  dsimp only
  rw [a0f hk6, a0f hj5, b3p hv2 (by omega) (by omega)]
  simp only [Option.bind_some]
  rw [a0f hk6, a0f hj5, b2f hv2 (by omega) (by omega)]
  simp only [Option.bind_some]
  have hgo : Gets (rec3 (IntKind.i64.wrap ((k : Int) + 1))) fun y => y.1.1 = true := by
   rw [a0g (by omega)]
   exact hrec3 _ ⟨k + 1, rfl, by omega⟩ (by simp <;> omega)
  cases b7i e ty <;> cases b3m e ty l <;> cases b3m e ty l2 <;>
   (dsimp only
    rw [if_neg (by simp), if_neg (by simp), if_neg (by simp), if_neg (by simp), if_neg (by simp), if_neg (by simp)]
    exact hgo)
 ·rw [if_neg (by simp <;> omega)]
  unfold b2o d3k
  dsimp only
  rw [if_pos (by omega)]
  simp only [Option.bind_some]
  obtain ⟨x, e, ok, hx, e1, e2⟩ := f0x (n := n) (t := ty) (m := m) ⟨hty1, hty2⟩ hb (by omega) hn
  rw [a0f hj5, e1]
  simp only [Option.bind_some]
  rw [a0f hj5, e2]
  simp only [Option.bind_some]
  rw [if_neg (by simp), if_neg (by simp), c7h hx (by omega)]
  simp only [Option.bind_some]
  unfold b6j f3o
  rw [if_neg (by decide)]
  simp only [Option.bind_some, decide_true]
  rw [if_neg (by decide), a0g (by omega)]
  exact hrec2 _ ⟨j + 1, rfl, by omega⟩ (by simp <;> omega)
end Go.Rb.R4

namespace Go.Proofs.YtpkgjjdalliggaaGreatDoor
open Go.ChangeShapes Go.WideShapes Go.ChangeAt Go.RowKit Go.Rb Go.Rb.R4
theorem c9p (x : a3d ([.int .i64, .int .i64, .sl .imm 1 (.int .u8), .sl .imm 32 (.st (.pair (.int .i64) (.pair (.int .i64) (.pair .str .unit)))), .int .i64, .sl .imm 1 (.int .u8)].map PS.val)) (hx : e1o [.int .i64, .int .i64, .sl .imm 1 (.int .u8), .sl .imm 32 (.st (.pair (.int .i64) (.pair (.int .i64) (.pair .str .unit)))), .int .i64, .sl .imm 1 (.int .u8)] x) : ∃ n y, a3y n x = some y ∧ y.1.1 = true := by
 obtain ⟨g, t, p, l, m, b, u⟩ := x
 obtain ⟨h0, h1, ⟨_, _, h2⟩, ⟨_, _, h3⟩, h4, ⟨_, _, h5⟩, _⟩ := hx
 exact d0g h1 h2 (fun v hv => ⟨(h3 v hv).1, (h3 v hv).2.1, (h3 v hv).2.2.1⟩) h5
theorem b9y : laidMetH Tryz.prog Rows.columnAllRow.laid = laidMet Tryz.prog (c3b.map fun x => (x.1, e5y "*errors.errorString" x.2)) := by
 funext W
 unfold laidMetH
 rw [show (Rows.columnAllRow.laid.filter fun x => x.2.handleName?.isSome) = [] by kernel_rfl]
 rfl
set_option maxRecDepth 100000 in
theorem c5m (os : Os) (started : os.Started) (H : Type) (enc : TypeId × Value → H) :
  ReturnsInHanded {} Tryz.checked os 5 .any (fun w args => (Rows.columnAllSpec.pre enc Tryz.prog Tryz.f5 Rows.columnAllRow.domain false w args ∧ laidMetH Tryz.prog Rows.columnAllRow.laid w) ∧ sizedMet enc Tryz.prog Tryz.f5 (OpenSpec.ofChange Rows.columnAllSpec) false w args)
   (Rows.columnAllSpec.post enc Tryz.prog Tryz.f5 false true false false) :=
 d8u (C := c5 0) (CK := Tryz.checked) (G := a3y) b9y f9s f3m (g0n rfl) own started (by kernel_rfl) fn5
  (ChangeSpec.witness_at (enc := enc) (C := Tryz.checked) (os := os) (X := fun w _ => laidMetH Tryz.prog Rows.columnAllRow.laid w) false (d7m os) #[.int .i64 0, .int .i64 0, .slice none 0 0, .slice none 0 0, .int .i64 0, .slice none 0 0] 8 rfl (by kernel_rfl) (by kernel_rfl) (by kernel_rfl) (by kernel_rfl) (by kernel_rfl) (by rw [b9y]; exact e9u os _))
  (by kernel_rfl) (by decide +kernel) (tys := [.int .i64, .int .i64, .sl .imm 1 (.int .u8), .sl .imm 32 (.st (.pair (.int .i64) (.pair (.int .i64) (.pair .str .unit)))), .int .i64, .sl .imm 1 (.int .u8)]) ⟨rfl, rfl, rfl, rfl, rfl, rfl, rfl, rfl, rfl, rfl, rfl, rfl, trivial⟩ (tab rfl) (fun A hA n => (S5 A hA n).of rfl) c9p rfl rfl (by kernel_rfl)
  (fun ds h => by
   match ds, h with
   | [d1, d2, d3, d4, d5, d6], _ => rfl)
theorem columnAll_row_holds : Rows.ColumnAllSaid :=
 OpenClaim.holds_of_wide 5 Tryz.f5 rfl rfl rfl rfl rfl rfl rfl ⟨rfl, rfl, rfl, rfl, rfl⟩ rfl rfl rfl rfl rfl (by kernel_rfl) fn5 (by kernel_rfl)
  (of_decide_eq_true (by kernel_rfl)) (by unfold Func.isWrapper; first | (rw [if_pos (by decide +kernel)]; kernel_rfl) | (rw [if_neg (by decide +kernel)]; exact ⟨rfl, rfl⟩))
  (fun os started H enc _ => c5m os started H enc)
theorem c0y : (Tryz.f5.params.toList.all fun t => !(Tryz.prog.wantsStandIn t)) = true := by kernel_rfl
theorem columnAll_holds : Rows.ColumnAllCardSaid :=
 Claim7.holds_tied_plain_at .later [] [.sentinel, .sentinel, .sentinel, .sentinel, .sentinel, .sentinel, .sentinel, .sentinel] true (true, "29378834b4a12b795c6ef6c89a59be7e2ceda101b8def5c7b40239596717662f") true
  columnAll_row_holds (fun _ h => by cases h) (by kernel_rfl) (fun _ h => by cases h) columnAll_row_tie rfl ⟨rfl, rfl⟩ (by kernel_rfl) rfl
  (fun f fn hf hfn => by
   obtain rfl : f = 5 := Option.some.inj ((show Tryz.prog.funcNamed Rows.columnAllRow.func = some 5 by kernel_rfl).symm.trans hf) |>.symm
   obtain rfl : fn = Tryz.f5 := (Option.some.inj (fn5.symm.trans hfn)).symm
   refine ⟨by kernel_rfl, fun j t ht => ?_⟩
   have h1 := List.all_eq_true.1 c0y t (Array.mem_toList_iff.2 (Array.mem_of_getElem? ht))
   have h2 : Tryz.prog.wantsStandIn t = false := by simpa using h1
   exact h2)
  (by kernel_rfl)
#print axioms columnAll_holds
end Go.Proofs.YtpkgjjdalliggaaGreatDoor
