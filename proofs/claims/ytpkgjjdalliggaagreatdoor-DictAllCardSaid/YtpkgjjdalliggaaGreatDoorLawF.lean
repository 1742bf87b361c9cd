/- Plain law: which bytes values are, and which values bytes. Own work. -/
import Derived.Test.YtpkgjjdalliggaaGreatDoorLawC
import Derived.Test.YtpkgjjdalliggaaGreatDoorLawE
set_option linter.unusedVariables false
set_option linter.unusedSimpArgs false
namespace Go.Rb.R3
open Go.Rb

theorem picks_Value_any {n : Nat} {b : List Int} {at' k : Int} (hb : Bytes b) (hl : b.length ≤ 60) (ha : 0 ≤ at' ∧ at' ≤ b.length) :
    Gets (f_play_Picks_Value n ((b, at', ()), k, ())) fun y => ∃ v a, y = ((v, ()), ((b, a, ()), ())) ∧ okV v ∧ 0 ≤ a ∧ a ≤ b.length := by
  have v0 : okV ((0:Int), (0:Int), [], ()) := by unfold okV; decide
  unfold f_play_Picks_Value
  refine Gets.bind (picks_Num_post hb hl ha) ?_
  rintro _ ⟨v, a, rfl, hv, ha2⟩
  refine Gets.join (I := fun s => s = ((b, a, ()), 0, 0, [], ())) ?_ ?_
  · rintro _ rfl
    dsimp only
    by_cases h1 : k = 1
    · subst h1
      rw [if_pos (by simp)]
      rcases nine hv with rfl | rfl | rfl | rfl | rfl | rfl | rfl | rfl | rfl <;>
        exact Gets.atI (by decide) (by decide) (Gets.some ⟨_, _, rfl, by unfold okV; decide, ha2⟩)
    rw [if_neg (by simpa using h1)]
    by_cases h2 : k = 2
    · subst h2
      rw [if_pos (by simp)]
      rcases nine hv with rfl | rfl | rfl | rfl | rfl | rfl | rfl | rfl | rfl <;>
        exact Gets.atI (by decide) (by decide) (Gets.some ⟨_, _, rfl, by unfold okV; decide, ha2⟩)
    rw [if_neg (by simpa using h2)]
    by_cases h3 : k = 3
    · subst h3
      rw [if_pos (by simp)]
      rcases nine hv with rfl | rfl | rfl | rfl | rfl | rfl | rfl | rfl | rfl <;>
        exact Gets.some ⟨_, _, rfl, by unfold okV; decide, ha2⟩
    rw [if_neg (by simpa using h3)]
    rcases nine hv with rfl | rfl | rfl | rfl | rfl | rfl | rfl | rfl | rfl <;>
      exact Gets.atI (by decide) (by decide) (Gets.some ⟨_, _, rfl, by unfold okV; decide, ha2⟩)
  · intro J hJ
    dsimp only
    by_cases h0 : v = 0
    · rw [if_pos (by simpa using h0)]
      unfold f_play_Picks_Over
      simp only [Option.bind_some]
      cases hd : (!decide ((b.length : Int) ≤ a)) with
      | true =>
        rw [if_pos rfl]
        exact Gets.some ⟨_, _, rfl, v0, ha2⟩
      | false =>
        rw [if_neg Bool.false_ne_true]
        exact hJ _ rfl
    · rw [if_neg (by simpa using h0)]
      exact hJ _ rfl

theorem some_any {n : Nat} {b : List Int} {k : Int} (hb : Bytes b) (hl : b.length ≤ 60) (hn : 100 ≤ n) :
    Gets (f_law7_some n (b, k, (30:Int), ())) fun y => ∃ l : List Vl, y = ((l, ()), ()) ∧ l.length ≤ 30 ∧ ∀ v, v ∈ l → okV v := by
  have hro := room_eq
  unfold f_law7_some f_play_Made
  simp only [Option.bind_some]
  refine Gets.iter (I := fun s => ∃ a l i, s = ((b, a, ()), l, i) ∧ (0 ≤ a ∧ a ≤ b.length) ∧ 0 ≤ i ∧ i ≤ 30 ∧ (l.length : Int) ≤ i ∧ ∀ v : Vl, v ∈ l → okV v)
    (μ := fun s => 30 - s.2.2.toNat) ⟨_, _, _, rfl, by omega, by omega, by omega, by simp, by simp⟩ (by simp; omega) ?_
  rintro rec _ ⟨a, l, i, rfl, h1, h2, h3, h4, h5⟩ hrec
  dsimp only
  by_cases hi : i < 30
  · rw [if_pos (by simpa using hi), wrap_i64 (x := i + 1) (by omega) (by omega)]
    refine Gets.bind (picks_Value_any hb hl h1) ?_
    rintro _ ⟨v, a2, rfl, hv, ha2⟩
    dsimp only
    by_cases hv0 : v.1 = 0
    · rw [if_neg (by simp [hv0])]
      exact hrec _ ⟨_, _, _, rfl, ha2, by omega, by omega, by omega, h5⟩ (by simp; omega)
    · rw [if_pos (by simp [hv0]), if_pos (by simp; omega)]
      refine hrec _ ⟨_, _, _, rfl, ha2, by omega, by omega, by simp; omega, ?_⟩ (by simp; omega)
      intro x hx
      rcases List.mem_append.1 hx with hx | hx
      · exact h5 x hx
      · simp only [List.mem_singleton] at hx; subst hx; exact hv
  · rw [if_neg (by simpa using hi)]
    exact Gets.some ⟨_, rfl, by omega, h5⟩

theorem five_at {t : Int} (ht : -9223372036854775808 ≤ t ∧ t ≤ 9223372036854775807) {i : Nat} (hi : i < 5) : ∃ ty, [t, (1:Int), (2:Int), (3:Int), (4:Int)].getD i (0:Int) = ty ∧ -9223372036854775808 ≤ ty ∧ ty ≤ 9223372036854775807 := by
  have : i = 0 ∨ i = 1 ∨ i = 2 ∨ i = 3 ∨ i = 4 := by omega
  rcases this with rfl | rfl | rfl | rfl | rfl
  · exact ⟨t, rfl, ht⟩
  · exact ⟨1, rfl, by omega, by omega⟩
  · exact ⟨2, rfl, by omega, by omega⟩
  · exact ⟨3, rfl, by omega, by omega⟩
  · exact ⟨4, rfl, by omega, by omega⟩

theorem dictAll_true {t m : Int} {p b : List Int} {l : List Vl} (ht : -9223372036854775808 ≤ t ∧ t ≤ 9223372036854775807) (hp : Bytes p) (hl : ∀ v, v ∈ l → okV v) (hb : Bytes b) :
    ∃ n y, f_law7_DictAll n (t, p, l, m, b, ()) = some y ∧ y.1.1 = true := by
  have hro := room_eq
  obtain ⟨n, hn, hbeg⟩ : ∃ n, 70000 ≤ n ∧ f_law7_begun n () = some ((true, ()), ()) := ⟨70000, by omega, begun_true⟩
  refine ⟨n, ?_⟩
  suffices h : Gets (f_law7_DictAll n (t, p, l, m, b, ())) fun y => y.1.1 = true from h
  unfold f_law7_DictAll
  rw [hbeg]
  simp only [Option.bind_some]
  rw [if_neg (by decide)]
  by_cases h60 : (60:Int) < (p.length : Int)
  · rw [if_pos (by simpa using h60)]; exact Gets.some rfl
  rw [if_neg (by simpa using h60)]
  by_cases h20 : (20:Int) < (l.length : Int)
  · rw [if_pos (by simpa using h20)]; exact Gets.some rfl
  rw [if_neg (by simpa using h20)]
  by_cases hb60 : (60:Int) < (b.length : Int)
  · rw [if_pos (by simpa using hb60)]; exact Gets.some rfl
  rw [if_neg (by simpa using hb60)]
  refine Gets.iter (I := fun s : Int => ∃ i : Nat, s = (i : Int) ∧ i ≤ l.length) (μ := fun s => l.length - s.toNat) ⟨0, rfl, by omega⟩ (by simp; omega) ?_
  rintro rec _ ⟨i, rfl, hi⟩ hrec
  by_cases hil : i < l.length
  · rw [if_pos (by simp; omega), atI_nat hil]
    refine Gets.dec (fun _ => Gets.some rfl) fun _ => ?_
    rw [wrap_succ (by omega)]
    exact hrec _ ⟨i + 1, rfl, by omega⟩ (by simp; omega)
  rw [if_neg (by simp; omega)]
  have hfive : [t, (1:Int), (2:Int), (3:Int), (4:Int)].length = 5 := rfl
  rw [hfive]
  refine Gets.iter (I := fun s : Int => ∃ i : Nat, s = (i : Int) ∧ i ≤ 5) (μ := fun s => 5 - s.toNat) ⟨0, rfl, by omega⟩ (by simp; omega) ?_
  rintro rec2 _ ⟨j, rfl, hj⟩ hrec2
  by_cases hj5 : j < 5
  rotate_left
  · rw [if_neg (by simp; omega)]; exact Gets.some rfl
  obtain ⟨ty, hty, hty1, hty2⟩ := five_at ht hj5
  rw [if_pos (by simp; omega), atI_nat hj5, Int.toNat_natCast, hty]
  refine Gets.bind (some_any hp (by omega) (by omega)) ?_
  rintro _ ⟨l2, rfl, hl2, hv2⟩
  dsimp only
  have htwo : ([l, l2] : List (List Vl)).length = 2 := rfl
  rw [htwo]
  refine Gets.iter (I := fun s : Int => ∃ i : Nat, s = (i : Int) ∧ i ≤ 2) (μ := fun s => 2 - s.toNat) ⟨0, rfl, by omega⟩ (by simp; omega) ?_
  rintro rec3 _ ⟨k, rfl, hk⟩ hrec3
  by_cases hk2 : k < 2
  · have hlot : ∃ q, ([l, l2] : List (List Vl)).getD k [] = q ∧ q.length ≤ 30 ∧ ∀ v, v ∈ q → okV v := by
      have : k = 0 ∨ k = 1 := by omega
      rcases this with rfl | rfl
      · exact ⟨l, rfl, by omega, hl⟩
      · exact ⟨l2, rfl, hl2, hv2⟩
    obtain ⟨q, hq, hql, hqv⟩ := hlot
    rw [if_pos (by simp; omega), atI_nat hj5, atI_nat hk2, Int.toNat_natCast, hq, f_dict_Put_eq hqv (by omega) (by omega)]
    simp only [Option.bind_some]
    rw [atI_nat hj5, atI_nat hk2, ref_Encode3_eq hqv (by omega) (by omega)]
    simp only [Option.bind_some]
    rw [if_neg (by simp), if_neg (by simp), wrap_succ (by omega)]
    exact hrec3 _ ⟨k + 1, rfl, by omega⟩ (by simp; omega)
  · rw [if_neg (by simp; omega)]
    unfold f_law0_Handed handedF
    dsimp only
    rw [if_pos (by omega)]
    simp only [Option.bind_some]
    obtain ⟨x, ok, hx, e1, e2⟩ := dict_both (n := n) (t := ty) (m := m) ⟨hty1, hty2⟩ hb (by omega) hn
    rw [atI_nat hj5, e1]
    simp only [Option.bind_some]
    rw [atI_nat hj5, e2]
    simp only [Option.bind_some]
    rw [if_neg (by simp), SameValues_self hx (by omega)]
    simp only [Option.bind_some]
    unfold f_law0_Same sameF
    rw [if_neg (by decide)]
    simp only [Option.bind_some, decide_true]
    rw [if_neg (by decide), wrap_succ (by omega)]
    exact hrec2 _ ⟨j + 1, rfl, by omega⟩ (by simp; omega)

end Go.Rb.R3
