/- Plain law: bytes of a column with some turned are just what the document has. Own work. -/
import Derived.Test.YtpkgjjdalliggaaGreatDoorLawE
import Derived.Test.YtpkgjjdalliggaaGreatDoorLawF
import Derived.Test.YtpkgjjdalliggaaGreatDoorLawB
import Derived.Test.YtpkgjjdalliggaaGreatDoorLawC
import Derived.Test.YtpkgjjdalliggaaGreatDoorCards
import Derived.Test.YtpkgjjdalliggaaGreatDoorTie
import Derived.SevenTiedAt
set_option autoImplicit false
set_option linter.unusedVariables false
set_option linter.unusedSimpArgs false
namespace Go.Rb.R4
open Go.Rb
theorem c3f {a c : Int} {p at' wi : List Int} (ha : 0 ≤ a ∧ a ≤ 255) (hc : 0 ≤ c ∧ c ≤ 255) (hp : a3o p) (hat : a3o at' ∧ at'.length = 3) (hwi : a3o wi ∧ wi.length = 3) :
  ∃ n y, a2z n (a, c, p, at', wi, ()) = some y ∧ y.1.1 = true := by
 have hro := a1t
 obtain ⟨n, hn, hbeg⟩ : ∃ n, 1000000 ≤ n ∧ a3f n () = some ((true, ()), ()) := ⟨1000000, by omega, e4t⟩
 refine ⟨n, ?_⟩
 suffices h : Gets (a2z n (a, c, p, at', wi, ())) fun y => y.1.1 = true from h
 unfold a2z
 rw [hbeg]
 simp only [Option.bind_some]
 rw [if_neg (by decide)]
 by_cases h60 : (60:Int) < (p.length : Int)
 ·rw [if_pos (by simpa using h60)]; exact Gets.some rfl
 rw [if_neg (by simpa using h60)]
 have hm0 := Int.tmod_nonneg 5 ha.1
 have hm1 : a.tmod 5 < 5 := Int.tmod_lt_of_pos a (by omega)
 have hk0 := Int.tmod_nonneg 4 hc.1
 have hk1 : c.tmod 4 < 4 := Int.tmod_lt_of_pos c (by omega)
 rw [a1e (x := c.tmod 4) (by omega) (by omega), a1e (x := 1 + c.tmod 4) (by omega) (by omega), a1e (x := a.tmod 5) (by omega) (by omega), a1e (x := 1 + a.tmod 5) (by omega) (by omega)]
 obtain ⟨k, hk⟩ : ∃ k, 1 + c.tmod 4 = k := ⟨_, rfl⟩
 obtain ⟨g, hg⟩ : ∃ g, 1 + a.tmod 5 = g := ⟨_, rfl⟩
 rw [hk, hg]
 have hk4 : 1 ≤ k ∧ k ≤ 4 := by omega
 have hg5 : 1 ≤ g ∧ g ≤ 5 := by omega
 refine Gets.bind (f0e hp (by omega) (by omega) (by omega)) ?_
 rintro _ ⟨l, rfl, hl, hv, hfk⟩
 have hf := hfk hk4
 dsimp only
 obtain ⟨u, hu⟩ : ∃ u, b7f g k = some u := by
  unfold b7f
  rw [if_pos ⟨hk4.1, hk4.2, hg5.1, hg5.2⟩]
  exact ⟨_, rfl⟩
 obtain ⟨u1, u2, u3, u4, u5, u6⟩ := b3u hu
 have hin := f3f ⟨u4, u5⟩ hk4 hf hv
 have hcl := e9r (u := u) hk4 hf hv (by omega)
 rw [b7a hv (by omega) (by omega)]
 unfold b4q
 rw [hu]
 dsimp only
 rw [if_pos (List.all_eq_true.2 hf)]
 simp only [Option.bind_some]
 refine Gets.iter (I := fun s : List Int × Int => ∃ (b : List Int) (i : Nat), s = (b, (i : Int)) ∧ i ≤ 3 ∧ a3o b ∧ b.length ≤ 32000) (μ := fun s => 3 - s.2.toNat) ⟨_, 0, rfl, by omega, hin, hcl⟩ (by simp <;> omega) ?_
 rintro rec _ ⟨b, i, rfl, hi3, hb, hbl2⟩ hrec
 dsimp only
 by_cases hi : i < 3
 rotate_left
 ·rw [if_neg (by simp <;> omega)]; exact Gets.some rfl
 rw [if_pos (by simp <;> omega)]
 by_cases h0 : 0 < b.length
 rotate_left
 ·rw [if_neg (by simp only [decide_eq_true_eq]; omega)]; exact Gets.some rfl
 rw [if_pos (by simp only [decide_eq_true_eq]; omega)]
 refine Gets.join (I := fun b' : List Int => a3o b' ∧ b'.length ≤ 32000) ?_ ?_
 ·rintro b' ⟨hb', hbl'⟩
  obtain ⟨x, e, ok, hx, e1, e2⟩ := e9b (n := n) (t := k) (m := (l.length : Int)) (by omega) hb' (by omega) (by omega)
  unfold a7w a5q
  dsimp only
  rw [e1]
  simp only [Option.map_some, Option.bind_some]
  rw [e2]
  simp only [Option.map_some, Option.bind_some]
  rw [if_neg (by simp), if_neg (by simp), c7e hx (by omega)]
  simp only [Option.bind_some]
  rw [if_neg (by decide), a0f (by omega)]
  exact hrec _ ⟨_, i + 1, rfl, by omega, hb', hbl'⟩ (by simp <;> omega)
 ·intro J hJ
  have hiw : i < wi.length := by omega
  have hia : i < at'.length := by omega
  have hx := hat.1 _ (List.getElem_mem hia)
  rw [a0g hiw]
  by_cases hw : (0:Int) < ((wi.getD ((i : Int)).toNat (0:Int)).tmod (4:Int))
  ·rw [if_pos (by simpa using hw), a0g hia, if_neg (by omega), a0g hiw, Int.toNat_natCast, a0i hia, a1e (x := at'[i]) (by omega) (by omega)]
   have hq0 := Int.tmod_nonneg (b.length : Int) hx.1
   have hq1 : at'[i].tmod (b.length : Int) < (b.length : Int) := Int.tmod_lt_of_pos _ (by omega)
   rw [a8d hq0 hq1]
   exact hJ _ ⟨hb.set _ (g0w _), by simpa using hbl2⟩
  ·rw [if_neg (by simpa using hw)]
   exact hJ _ ⟨hb, hbl2⟩
end Go.Rb.R4

namespace Go.Proofs.YtpkgjjdalliggaaGreatDoor
open Go.ChangeShapes Go.WideShapes Go.ChangeAt Go.RowKit Go.Rb Go.Rb.R4
theorem c1n (x : a3c ([.int .u8, .int .u8, .sl .imm 1 (.int .u8), .arr 3 (.int .u8), .arr 3 (.int .u8)].map PS.val)) (hx : e1t [.int .u8, .int .u8, .sl .imm 1 (.int .u8), .arr 3 (.int .u8), .arr 3 (.int .u8)] x) : ∃ n y, a2z n x = some y ∧ y.1.1 = true := by
 obtain ⟨a, c, b, d, e, u⟩ := x
 obtain ⟨h1, h2, ⟨_, _, h3⟩, ⟨h4, h5⟩, ⟨h6, h7⟩, _⟩ := hx
 exact c3f h1 h2 h3 ⟨h5, h4⟩ ⟨h7, h6⟩
theorem b5e : laidMetH Tryz.prog Rows.columnTurnedRow.laid = laidMet Tryz.prog (c2j.map fun x => (x.1, e7s "*errors.errorString" x.2)) := by
 funext W
 unfold laidMetH
 rw [show (Rows.columnTurnedRow.laid.filter fun x => x.2.handleName?.isSome) = [] by kernel_rfl]
 rfl
set_option maxRecDepth 100000 in
theorem c0k (os : Os) (started : os.Started) (H : Type) (enc : TypeId × Value → H) :
  ReturnsInHanded {} Tryz.checked os 7 .any (fun w args => (Rows.columnTurnedSpec.pre enc Tryz.prog Tryz.f7 Rows.columnTurnedRow.domain false w args ∧ laidMetH Tryz.prog Rows.columnTurnedRow.laid w) ∧ sizedMet enc Tryz.prog Tryz.f7 (OpenSpec.ofChange Rows.columnTurnedSpec) false w args)
   (Rows.columnTurnedSpec.post enc Tryz.prog Tryz.f7 false true false false) :=
 d9e (C := c7 0) (CK := Tryz.checked) (G := a2z) b5e g0g f4k (f9t rfl) own started (by kernel_rfl) fn7
  (ChangeSpec.witness_at (enc := enc) (C := Tryz.checked) (os := os) (X := fun w _ => laidMetH Tryz.prog Rows.columnTurnedRow.laid w) false (d7i os) #[.int .u8 0, .int .u8 0, .slice none 0 0, .agg #[.int .u8 0, .int .u8 0, .int .u8 0], .agg #[.int .u8 0, .int .u8 0, .int .u8 0]] 8 rfl (by kernel_rfl) (by kernel_rfl) (by kernel_rfl) (by kernel_rfl) (by kernel_rfl) (by rw [b5e]; exact e8s os _))
  (by kernel_rfl) (by decide +kernel) (tys := [.int .u8, .int .u8, .sl .imm 1 (.int .u8), .arr 3 (.int .u8), .arr 3 (.int .u8)]) ⟨rfl, rfl, rfl, rfl, rfl, rfl, rfl, rfl, rfl, rfl, trivial⟩ (tab rfl) (fun A hA n => (S7 A hA n).of rfl) c1n rfl rfl (by kernel_rfl)
  (fun ds h => by
   match ds, h with
   | [d1, d2, d3, d4, d5], _ => rfl)
theorem columnTurned_row_holds : Rows.ColumnTurnedSaid :=
 OpenClaim.holds_of_wide 7 Tryz.f7 rfl rfl rfl rfl rfl rfl rfl ⟨rfl, rfl, rfl, rfl, rfl⟩ rfl rfl rfl rfl rfl (by kernel_rfl) fn7 (by kernel_rfl)
  (of_decide_eq_true (by kernel_rfl)) (by unfold Func.isWrapper; first | (rw [if_pos (by decide +kernel)]; kernel_rfl) | (rw [if_neg (by decide +kernel)]; exact ⟨rfl, rfl⟩))
  (fun os started H enc _ => c0k os started H enc)
theorem b7e : (Tryz.f7.params.toList.all fun t => !(Tryz.prog.wantsStandIn t)) = true := by kernel_rfl
theorem columnTurned_holds : Rows.ColumnTurnedCardSaid :=
 Claim7.holds_tied_plain_at .later [] [.sentinel, .sentinel, .sentinel, .sentinel, .sentinel, .sentinel, .sentinel, .sentinel] true (true, "29378834b4a12b795c6ef6c89a59be7e2ceda101b8def5c7b40239596717662f") true
  columnTurned_row_holds (fun _ h => by cases h) (by kernel_rfl) (fun _ h => by cases h) columnTurned_row_tie rfl ⟨rfl, rfl⟩ (by kernel_rfl) rfl
  (fun f fn hf hfn => by
   obtain rfl : f = 7 := Option.some.inj ((show Tryz.prog.funcNamed Rows.columnTurnedRow.func = some 7 by kernel_rfl).symm.trans hf) |>.symm
   obtain rfl : fn = Tryz.f7 := (Option.some.inj (fn7.symm.trans hfn)).symm
   refine ⟨by kernel_rfl, fun j t ht => ?_⟩
   have h1 := List.all_eq_true.1 b7e t (Array.mem_toList_iff.2 (Array.mem_of_getElem? ht))
   have h2 : Tryz.prog.wantsStandIn t = false := by simpa using h1
   exact h2)
  (by kernel_rfl)
#print axioms columnTurned_holds
end Go.Proofs.YtpkgjjdalliggaaGreatDoor
