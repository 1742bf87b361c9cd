/- Plain law: a column comes back. Own work. -/
import Derived.Test.YtpkgjjdalliggaaGreatDoorLawE
import Derived.Test.YtpkgjjdalliggaaGreatDoorLawB
import Derived.Test.YtpkgjjdalliggaaGreatDoorLawC
import Derived.Test.YtpkgjjdalliggaaGreatDoorCards
import Derived.Test.YtpkgjjdalliggaaGreatDoorTie
import Derived.SevenTiedAt
set_option autoImplicit false
set_option linter.unusedVariables false
set_option linter.unusedSimpArgs false
namespace Go.Rb.R4
open Go.Rb

theorem f_column_Take_back {n : Nat} {t u : Int} {l : List Vl} (hu : usedV u t = some u) (hv : ∀ v, v ∈ l → okV v) (hf : ∀ v, v ∈ l → fitsV t v = true) (hl : l.length ≤ 1000) (hn : 1000000 ≤ n) :
    f_column_Take n (t, (l.length : Int), colB u t l, ()) = some ((l, u, true, ()), ()) := by
  obtain ⟨u1, u2, u3, u4, u5, _⟩ := usedV_may hu
  have hg : GoodC t (l.length : Int) (colB u t l) l u := ⟨by omega, by omega, rfl, hu, hf, hv, rfl⟩
  have hlen := colB_len (u := u) ⟨u2, u3⟩ hf hv hl
  obtain ⟨y, h1, h2⟩ := f_column_Take_post (n := n) (t := t) (m := (l.length : Int)) (by omega) (colB_in ⟨u4, u5⟩ ⟨u2, u3⟩ hf hv) (by omega) hn
  rcases h2 with ⟨l', e', rfl, hg'⟩ | ⟨_, hno⟩
  · obtain ⟨rfl, rfl⟩ := hg'.uniq hg
    exact h1
  · exact absurd hg (hno _ _)

theorem f_column_Take_none {n : Nat} {t m : Int} {b : List Int} (ht : -9223372036854775808 ≤ t ∧ t ≤ 9223372036854775807) (hb : Bytes b) (hl : b.length < 1000000) (hn : 1000000 ≤ n) (h : ∀ l e, ¬ GoodC t m b l e) :
    f_column_Take n (t, m, b, ()) = some (([], 0, false, ()), ()) := by
  obtain ⟨y, h1, h2⟩ := f_column_Take_post (m := m) ht hb hl hn
  rcases h2 with ⟨l, e, _, hg⟩ | ⟨rfl, _⟩
  · exact absurd hg (h l e)
  · exact h1

theorem columnBack_true {a c d e : Int} {b : List Int} (ha : 0 ≤ a ∧ a ≤ 255) (hc : 0 ≤ c ∧ c ≤ 255) (hb : Bytes b) (hd : 0 ≤ d ∧ d ≤ 65535) (he : 0 ≤ e ∧ e ≤ 255) :
    ∃ n y, f_law10_ColumnBack n (a, c, b, d, e, ()) = some y ∧ y.1.1 = true := by
  have hro := room_eq
  obtain ⟨n, hn, hbeg⟩ : ∃ n, 1000000 ≤ n ∧ f_law10_begun n () = some ((true, ()), ()) := ⟨1000000, by omega, begun_true⟩
  refine ⟨n, ?_⟩
  suffices h : Gets (f_law10_ColumnBack n (a, c, b, d, e, ())) fun y => y.1.1 = true from h
  unfold f_law10_ColumnBack
  rw [hbeg]
  simp only [Option.bind_some]
  rw [if_neg (by decide)]
  by_cases h60 : (60:Int) < (b.length : Int)
  · rw [if_pos (by simpa using h60)]; exact Gets.some rfl
  rw [if_neg (by simpa using h60)]
  have hm0 := Int.tmod_nonneg 5 ha.1
  have hm1 : a.tmod 5 < 5 := Int.tmod_lt_of_pos a (by omega)
  have hk0 := Int.tmod_nonneg 4 hc.1
  have hk1 : c.tmod 4 < 4 := Int.tmod_lt_of_pos c (by omega)
  have hlm : ((b.length : Int)).tdiv 3 = ((b.length / 3 : Nat) : Int) := tdiv_nat b.length 3
  rw [wrap_i64 (x := c.tmod 4) (by omega) (by omega), wrap_i64 (x := 1 + c.tmod 4) (by omega) (by omega), wrap_i64 (x := a.tmod 5) (by omega) (by omega), wrap_i64 (x := 1 + a.tmod 5) (by omega) (by omega), hlm, wrapI64 (by omega)]
  obtain ⟨k, hk⟩ : ∃ k, 1 + c.tmod 4 = k := ⟨_, rfl⟩
  obtain ⟨g, hg⟩ : ∃ g, 1 + a.tmod 5 = g := ⟨_, rfl⟩
  rw [hk, hg]
  have hk4 : 1 ≤ k ∧ k ≤ 4 := by omega
  have hg5 : 1 ≤ g ∧ g ≤ 5 := by omega
  refine Gets.bind (col_post hb (by omega) (by omega) (by omega)) ?_
  rintro _ ⟨l, rfl, hl, hv, hfk⟩
  have hf := hfk hk4
  dsimp only
  obtain ⟨u, hu⟩ : ∃ u, usedV g k = some u := by
    unfold usedV
    rw [if_pos ⟨hk4.1, hk4.2, hg5.1, hg5.2⟩]
    exact ⟨_, rfl⟩
  obtain ⟨u1, u2, u3, u4, u5, u6⟩ := usedV_may hu
  have hin := colB_in ⟨u4, u5⟩ hk4 hf hv
  have hcl := colB_len (u := u) hk4 hf hv (by omega)
  rw [f_column_Put_eq hv (by omega) (by omega)]
  unfold putColV
  rw [hu]
  dsimp only
  rw [if_pos (List.all_eq_true.2 hf)]
  simp only [Option.bind_some]
  obtain ⟨r, hr1, hr2⟩ := colB_head u k l
  have h2 : 2 ≤ (colB u k l).length := by rw [hr1, List.length_cons]; omega
  rw [if_neg (by decide), if_neg (by simp only [decide_eq_true_eq]; omega), f_column_Take_back u6 hv hf (by omega) hn]
  simp only [Option.bind_some]
  rw [f_column_Used_eq, hu]
  simp only [Option.bind_some]
  have hone : Bytes ([] ++ colB u k l ++ [e]) := by
    intro x hx
    simp only [List.nil_append, List.mem_append, List.mem_singleton] at hx
    rcases hx with hx | rfl
    · exact hin x hx
    · exact he
  rw [if_pos (by simp <;> omega), if_pos (by simp <;> omega), f_column_Take_none (by omega) hone (by simp <;> omega) hn (by
      rintro l' e' ⟨_, _, g1, g2, g3, g4, g5⟩
      have := (colB_prefix u1 hk4 hf hv g3 g4 (by omega) (s := [e]) (by simpa using g5.symm)).2.2
      simp at this)]
  simp only [Option.bind_some]
  rw [if_neg (by omega), wrap_i64 (x := d) (by omega) (by omega)]
  have hq0 := Int.tmod_nonneg ((colB u k l).length : Int) hd.1
  have hq1 : d.tmod ((colB u k l).length : Int) < ((colB u k l).length : Int) := Int.tmod_lt_of_pos d (by omega)
  rw [if_pos ⟨hq0, by omega⟩]
  have hsh : Bytes (List.drop (0:Int).toNat ((colB u k l).take (d.tmod ((colB u k l).length : Int)).toNat)) := by
    intro x hx
    exact hin x (List.mem_of_mem_take (List.mem_of_mem_drop hx))
  rw [f_column_Take_none (by omega) hsh (by simp <;> omega) hn (by
      rintro l' e' ⟨_, _, g1, g2, g3, g4, g5⟩
      have g6 : colB e' k l' = (colB u k l).take (d.tmod ((colB u k l).length : Int)).toNat := by simpa using g5
      have := (colB_prefix (usedV_may g2).1 hk4 g3 g4 hf hv (by omega) (s := (colB u k l).drop (d.tmod ((colB u k l).length : Int)).toNat) (by rw [g6, List.take_append_drop])).2.2
      have := congrArg List.length this
      simp at this
      omega)]
  simp only [Option.bind_some]
  rw [if_pos True.intro, if_pos True.intro, if_pos (by simp), SameValues_self (by omega) (by omega)]
  simp only [Option.bind_some]
  exact Gets.some rfl

end Go.Rb.R4

namespace Go.Proofs.YtpkgjjdalliggaaGreatDoor
open Go.ChangeShapes Go.WideShapes Go.ChangeAt Go.RowKit Go.Rb Go.Rb.R4

theorem columnBack_plain (x : argsDen ([.int .u8, .int .u8, .sl .imm 1 (.int .u8), .int .u16, .int .u8].map PS.val)) (hx : argsOk [.int .u8, .int .u8, .sl .imm 1 (.int .u8), .int .u16, .int .u8] x) : ∃ n y, f_law10_ColumnBack n x = some y ∧ y.1.1 = true := by
  obtain ⟨a, c, b, d, e, u⟩ := x
  obtain ⟨h1, h2, ⟨_, _, h3⟩, h4, h5, _⟩ := hx
  exact columnBack_true h1 h2 h3 h4 h5

theorem columnBack_laid : laidMetH Tryz.prog Rows.columnBackRow.laid = laidMet Tryz.prog (sents.map fun x => (x.1, sentD "*errors.errorString" x.2)) := by
  funext W
  unfold laidMetH
  rw [show (Rows.columnBackRow.laid.filter fun x => x.2.handleName?.isSome) = [] by kernel_rfl]
  rfl

set_option maxRecDepth 100000 in
theorem columnBack_lifted (os : Os) (started : os.Started) (H : Type) (enc : TypeId × Value → H) :
    ReturnsInHanded {} Tryz.checked os 6 .any (fun w args => (Rows.columnBackSpec.pre enc Tryz.prog Tryz.f6 Rows.columnBackRow.domain false w args ∧ laidMetH Tryz.prog Rows.columnBackRow.laid w) ∧ sizedMet enc Tryz.prog Tryz.f6 (OpenSpec.ofChange Rows.columnBackSpec) false w args)
      (Rows.columnBackSpec.post enc Tryz.prog Tryz.f6 false true false false) :=
  lifted_laid (C := c6 0) (CK := Tryz.checked) (G := f_law10_ColumnBack) columnBack_laid errTy sentsTy (glsOK rfl) own started (by kernel_rfl) fn6
    (ChangeSpec.witness_at (enc := enc) (C := Tryz.checked) (os := os) (X := fun w _ => laidMetH Tryz.prog Rows.columnBackRow.laid w) false (laidWorld os) #[.int .u8 0, .int .u8 0, .slice none 0 0, .int .u16 0, .int .u8 0] 8 rfl (by kernel_rfl) (by kernel_rfl) (by kernel_rfl) (by kernel_rfl) (by kernel_rfl) (by rw [columnBack_laid]; exact laid_met os _))
    (by kernel_rfl) (by decide +kernel) (tys := [.int .u8, .int .u8, .sl .imm 1 (.int .u8), .int .u16, .int .u8]) ⟨rfl, rfl, rfl, rfl, rfl, rfl, rfl, rfl, rfl, rfl, trivial⟩ (tab rfl) (fun A hA n => (S6 A hA n).of rfl) columnBack_plain rfl rfl (by kernel_rfl)
    (fun ds h => by
      match ds, h with
      | [d1, d2, d3, d4, d5], _ => rfl)

theorem columnBack_row_holds : Rows.ColumnBackSaid :=
  OpenClaim.holds_of_wide 6 Tryz.f6 rfl rfl rfl rfl rfl rfl rfl ⟨rfl, rfl, rfl, rfl, rfl⟩ rfl rfl rfl rfl rfl (by kernel_rfl) fn6 (by kernel_rfl)
    (of_decide_eq_true (by kernel_rfl)) (by unfold Func.isWrapper; first | (rw [if_pos (by decide +kernel)]; kernel_rfl) | (rw [if_neg (by decide +kernel)]; exact ⟨rfl, rfl⟩))
    (fun os started H enc _ => columnBack_lifted os started H enc)

theorem columnBack_noStandIn : (Tryz.f6.params.toList.all fun t => !(Tryz.prog.wantsStandIn t)) = true := by kernel_rfl
theorem columnBack_holds : Rows.ColumnBackCardSaid :=
  Claim7.holds_tied_plain_at .later [] [.sentinel, .sentinel, .sentinel, .sentinel, .sentinel, .sentinel, .sentinel, .sentinel] true (true, "29378834b4a12b795c6ef6c89a59be7e2ceda101b8def5c7b40239596717662f") true
    columnBack_row_holds (fun _ h => by cases h) (by kernel_rfl) (fun _ h => by cases h) columnBack_row_tie rfl ⟨rfl, rfl⟩ (by kernel_rfl) rfl
    (fun f fn hf hfn => by
      obtain rfl : f = 6 := Option.some.inj ((show Tryz.prog.funcNamed Rows.columnBackRow.func = some 6 by kernel_rfl).symm.trans hf) |>.symm
      obtain rfl : fn = Tryz.f6 := (Option.some.inj (fn6.symm.trans hfn)).symm
      refine ⟨by kernel_rfl, fun j t ht => ?_⟩
      have h1 := List.all_eq_true.1 columnBack_noStandIn t (Array.mem_toList_iff.2 (Array.mem_of_getElem? ht))
      have h2 : Tryz.prog.wantsStandIn t = false := by simpa using h1
      exact h2)
    (by kernel_rfl)
#print axioms columnBack_holds
end Go.Proofs.YtpkgjjdalliggaaGreatDoor
