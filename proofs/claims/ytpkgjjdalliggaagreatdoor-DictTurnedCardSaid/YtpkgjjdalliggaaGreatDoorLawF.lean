/- Plain law: bytes of values with some turned are just what the document has. Own work. -/
import Derived.Test.YtpkgjjdalliggaaGreatDoorLawC
import Derived.Test.YtpkgjjdalliggaaGreatDoorLawE
set_option linter.unusedVariables false
set_option linter.unusedSimpArgs false
namespace Go.Rb.R3
open Go.Rb

theorem Bytes.set {b : List Int} (h : Bytes b) (i : Nat) {x : Int} (hx : 0 ≤ x ∧ x ≤ 255) : Bytes (b.set i x) := by
  intro y hy
  rcases List.mem_or_eq_of_mem_set hy with hy | rfl
  · exact h y hy
  · exact hx

theorem u8_in (x : Int) : 0 ≤ IntKind.u8.wrap x ∧ IntKind.u8.wrap x ≤ 255 := by rw [wrap_mod8]; omega

theorem dictTurned_true {a : Int} {p at' wi : List Int} (ha : 0 ≤ a ∧ a ≤ 255) (hp : Bytes p) (hat : Bytes at' ∧ at'.length = 3) (hwi : Bytes wi ∧ wi.length = 3) :
    ∃ n y, f_law7_DictTurned n (a, p, at', wi, ()) = some y ∧ y.1.1 = true := by
  have hro := room_eq
  obtain ⟨n, hn, hbeg⟩ : ∃ n, 70000 ≤ n ∧ f_law7_begun n () = some ((true, ()), ()) := ⟨70000, by omega, begun_true⟩
  refine ⟨n, ?_⟩
  suffices h : Gets (f_law7_DictTurned n (a, p, at', wi, ())) fun y => y.1.1 = true from h
  unfold f_law7_DictTurned
  rw [hbeg]
  simp only [Option.bind_some]
  rw [if_neg (by decide)]
  by_cases h60 : (60:Int) < (p.length : Int)
  · rw [if_pos (by simpa using h60)]; exact Gets.some rfl
  rw [if_neg (by simpa using h60)]
  have hm0 := Int.tmod_nonneg 4 ha.1
  have hm1 : a.tmod 4 < 4 := Int.tmod_lt_of_pos a (by omega)
  rw [wrap_i64 (x := a.tmod 4) (by omega) (by omega), wrap_i64 (x := 1 + a.tmod 4) (by omega) (by omega)]
  obtain ⟨k, hk⟩ : ∃ k, 1 + a.tmod 4 = k := ⟨_, rfl⟩
  rw [hk]
  have hk4 : 1 ≤ k ∧ k ≤ 4 := by omega
  refine Gets.bind (some_post hp (by omega) hk4 (by omega)) ?_
  rintro _ ⟨l, rfl, hl, hr, hv⟩
  dsimp only
  have hin := dictB_in hr hv
  have hbl := dictB_len hr hv (by omega)
  rw [ref_Encode3_eq hv (by omega) (by omega), if_pos hr]
  simp only [Option.bind_some]
  refine Gets.iter (I := fun s : List Int × Int => ∃ (b : List Int) (i : Nat), s = (b, (i : Int)) ∧ i ≤ 3 ∧ Bytes b ∧ b.length ≤ 24000) (μ := fun s => 3 - s.2.toNat) ⟨_, 0, rfl, by omega, hin, hbl⟩ (by simp; omega) ?_
  rintro rec _ ⟨b, i, rfl, hi3, hb, hbl2⟩ hrec
  dsimp only
  by_cases hi : i < 3
  rotate_left
  · rw [if_neg (by simp; omega)]; exact Gets.some rfl
  rw [if_pos (by simp; omega)]
  by_cases h0 : 0 < b.length
  rotate_left
  · rw [if_neg (by simp only [decide_eq_true_eq]; omega)]; exact Gets.some rfl
  rw [if_pos (by simp only [decide_eq_true_eq]; omega)]
  refine Gets.join (I := fun b' : List Int => Bytes b' ∧ b'.length ≤ 24000) ?_ ?_
  · rintro b' ⟨hb', hbl'⟩
    rw [wrap_i64 (x := (l.length : Int) - 1) (by omega) (by omega), wrap_i64 (x := (l.length : Int) + 1) (by omega) (by omega)]
    refine Gets.iter (I := fun s : List Int × Int => ∃ m : Int, s = (b', m) ∧ (l.length : Int) - 1 ≤ m ∧ m ≤ (l.length : Int) + 2) (μ := fun s => ((l.length : Int) + 2 - s.2).toNat) ⟨_, rfl, by omega, by omega⟩ (by dsimp only; omega) ?_
    rintro rec2 _ ⟨m, rfl, hm1, hm2⟩ hrec2
    dsimp only
    by_cases hm : m ≤ (l.length : Int) + 1
    · rw [if_pos (by simpa using hm)]
      obtain ⟨x, ok, hx, e1, e2⟩ := dict_both (n := n) (t := k) (m := m) (by omega) hb' (by omega) (by omega)
      unfold f_lend_dict_Take f_lend_ref1_Decode
      dsimp only
      rw [e1]
      simp only [Option.map_some, Option.bind_some]
      rw [e2]
      simp only [Option.map_some, Option.bind_some]
      rw [if_neg (by simp), SameValues_self hx (by omega)]
      simp only [Option.bind_some]
      rw [if_neg (by decide), wrap_i64 (x := m + 1) (by omega) (by omega)]
      exact hrec2 _ ⟨_, rfl, by omega, by omega⟩ (by simp; omega)
    · rw [if_neg (by simpa using hm), wrap_succ (by omega)]
      exact hrec _ ⟨_, i + 1, rfl, by omega, hb', hbl'⟩ (by simp; omega)
  · intro J hJ
    have hiw : i < wi.length := by omega
    have hia : i < at'.length := by omega
    have hx := hat.1 _ (List.getElem_mem hia)
    rw [atI_nat hiw]
    by_cases hw : (0:Int) < ((wi.getD ((i : Int)).toNat (0:Int)).tmod (4:Int))
    · rw [if_pos (by simpa using hw), atI_nat hia, if_neg (by omega), atI_nat hiw, Int.toNat_natCast, getD_lt' hia, wrap_i64 (x := at'[i]) (by omega) (by omega)]
      have hq0 := Int.tmod_nonneg (b.length : Int) hx.1
      have hq1 : at'[i].tmod (b.length : Int) < (b.length : Int) := Int.tmod_lt_of_pos _ (by omega)
      rw [atI_pos hq0 hq1]
      exact hJ _ ⟨hb.set _ (u8_in _), by simpa using hbl2⟩
    · rw [if_neg (by simpa using hw)]
      exact hJ _ ⟨hb, hbl2⟩

end Go.Rb.R3
