/- Plain law: columns one by one, by runs, by few bits, by steps, as the program takes them. Own work. -/
import Derived.Test.YtpkgjjdalliggaaGreatDoorLawD
set_option autoImplicit false
set_option linter.unusedVariables false
set_option linter.unusedSimpArgs false
namespace Go.Rb.R4
open Go.Rb

/-- What was taken is just what the bytes are of. -/
def GoodE (e t m : Int) (b : List Int) (l : List Vl) : Prop := 0 ≤ m ∧ m ≤ 1000 ∧ (l.length : Int) = m ∧ encMay e t = true ∧ rightL t l = true ∧ (∀ v, v ∈ l → okV v) ∧ encB e t l = b

theorem GoodE.uniq {e t m : Int} {b : List Int} {l l' : List Vl} (h : GoodE e t m b l) (h' : GoodE e t m b l') : l = l' := by
  obtain ⟨_, _, g3, g4, g5, g6, g7⟩ := h
  obtain ⟨_, _, k3, k4, k5, k6, k7⟩ := h'
  exact (encB_prefix g4 g5 g6 k5 k6 (by omega) (s := []) (by rw [List.append_nil, g7, k7])).1

def TakeE (e t m : Int) (b : List Int) (y : (List Vl × Bool × Unit) × Unit) : Prop := (∃ l, y = ((l, true, ()), ()) ∧ GoodE e t m b l) ∨ (y = (([], false, ()), ()) ∧ ∀ l, ¬ GoodE e t m b l)

def ReadE (err : List Int → UV) (e t m : Int) (b : List Int) (y : (List Vl × UV × Unit) × Unit) : Prop := (∃ l, y = ((l, UV.nil, ()), ()) ∧ GoodE e t m b l) ∨ ((∃ msg, y = (([], err msg, ()), ())) ∧ ∀ l, ¬ GoodE e t m b l)

theorem good1 {t m : Int} {b : List Int} {l : List Vl} (h : GoodE 1 t m b l) : 0 ≤ m ∧ m ≤ 1000 ∧ (l.length : Int) = m ∧ rightL t l = true ∧ (∀ v, v ∈ l → okV v) ∧ l.flatMap oneV = b := by
  obtain ⟨g1, g2, g3, g4, g5, g6, g7⟩ := h
  exact ⟨g1, g2, g3, g5, g6, by simpa [encB] using g7⟩
theorem good2 {t m : Int} {b : List Int} {l : List Vl} (h : GoodE 2 t m b l) : 0 ≤ m ∧ m ≤ 1000 ∧ (l.length : Int) = m ∧ rightL t l = true ∧ (∀ v, v ∈ l → okV v) ∧ rleB l = b := by
  obtain ⟨g1, g2, g3, g4, g5, g6, g7⟩ := h
  exact ⟨g1, g2, g3, g5, g6, by simpa [encB] using g7⟩
theorem good3 {t m : Int} {b : List Int} {l : List Vl} : GoodE 3 t m b l ↔ Good t m b l := by
  constructor
  · rintro ⟨g1, g2, g3, g4, g5, g6, g7⟩
    exact ⟨g1, g2, g3, g5, g6, by simpa [encB] using g7⟩
  · rintro ⟨g1, g2, g3, g5, g6, g7⟩
    exact ⟨g1, g2, g3, by simp [encMay], g5, g6, by simpa [encB] using g7⟩
theorem good4 {t m : Int} {b : List Int} {l : List Vl} (h : GoodE 4 t m b l) : 0 ≤ m ∧ m ≤ 1000 ∧ (l.length : Int) = m ∧ t ≤ 3 ∧ rightL t l = true ∧ (∀ v, v ∈ l → okV v) ∧ packB l = b := by
  obtain ⟨g1, g2, g3, g4, g5, g6, g7⟩ := h
  exact ⟨g1, g2, g3, by simpa [encMay] using g4, g5, g6, by simpa [encB] using g7⟩
theorem good5 {t m : Int} {b : List Int} {l : List Vl} (h : GoodE 5 t m b l) : 0 ≤ m ∧ m ≤ 1000 ∧ (l.length : Int) = m ∧ t ≤ 2 ∧ rightL t l = true ∧ (∀ v, v ∈ l → okV v) ∧ deltaB 0 l = b := by
  obtain ⟨g1, g2, g3, g4, g5, g6, g7⟩ := h
  exact ⟨g1, g2, g3, by simpa [encMay] using g4, g5, g6, by simpa [encB] using g7⟩

theorem firstV_le {t : Int} {v : Vl} {s : List Int} {k : Nat} {v' : Vl} (h : rightV t v = true) (hv : okV v) (hf : firstV t (oneV v ++ s) = some (v', k)) : v' = v ∧ (oneV v ++ s).drop k = s := by
  rw [firstV_one h hv s] at hf
  simp only [Option.some.injEq, Prod.mk.injEq] at hf
  obtain ⟨rfl, rfl⟩ := hf
  exact ⟨rfl, by simp⟩

theorem f_plain_Take_post {n : Nat} {t m : Int} {b : List Int} (ht : -9223372036854775808 ≤ t ∧ t ≤ 9223372036854775807) (hb : Bytes b) (hl : b.length < 1000000) (hn : 70000 ≤ n) :
    Gets (f_plain_Take n (t, m, b, ())) (TakeE 1 t m b) := by
  have hro := room_eq
  have key : Gets (f_plain_read n (t, m, b, ())) (ReadE errA 1 t m b) := by
    have bad : ∀ msg, (∀ l, ¬ GoodE 1 t m b l) → Gets (some ((([] : List Vl), errA msg, ()), ())) (ReadE errA 1 t m b) := fun msg h => Gets.some (.inr ⟨⟨msg, rfl⟩, h⟩)
    unfold f_plain_read
    dsimp only
    by_cases h1 : m < 0
    · rw [if_pos (by simpa using h1)]
      exact bad _ fun l hg => by have := hg.1; omega
    rw [if_neg (by simpa using h1)]
    by_cases h2 : 1000 < m
    · rw [if_pos (by simpa using h2)]
      exact bad _ fun l hg => by have := hg.2.1; omega
    rw [if_neg (by simpa using h2)]
    obtain ⟨M, rfl⟩ : ∃ M : Nat, m = (M : Int) := ⟨_, (Int.toNat_of_nonneg (by omega)).symm⟩
    refine Gets.iter (I := fun s : List Vl × List Int × Int => ∃ (vs : List Vl) (rest : List Int), s = (vs, rest, (vs.length : Int)) ∧ vs.length ≤ M ∧ Bytes rest ∧ rest.length < 1000000 ∧ (∀ v, v ∈ vs → okV v) ∧ ∀ l, GoodE 1 t (M : Int) b l → vs = l.take vs.length ∧ rest = (l.drop vs.length).flatMap oneV)
      (μ := fun s => M - s.1.length) ⟨[], b, rfl, by simp, hb, hl, by simp, fun l hg => ⟨by simp, by simpa using (good1 hg).2.2.2.2.2.symm⟩⟩ (by simp <;> omega) ?_
    rintro rec _ ⟨vs, rest, rfl, g1, g2, g3, g4, g5⟩ hrec
    dsimp only
    by_cases h3 : vs.length < M
    · rw [if_pos (by simp <;> omega)]
      refine Gets.bind (f_plain_first_post (n := n) (t := t) g2 g3 (by omega)) fun y hy => ?_
      have hgood : ∀ l, GoodE 1 t (M : Int) b l → ∃ v r, rest = oneV v ++ r.flatMap oneV ∧ rightV t v = true ∧ okV v ∧ l.drop vs.length = v :: r := by
        intro l hg
        obtain ⟨_, e2⟩ := g5 l hg
        obtain ⟨_, _, q3, q4, q5, _⟩ := good1 hg
        have hlt : vs.length < l.length := by omega
        have e3 := List.drop_eq_getElem_cons hlt
        rw [e3, List.flatMap_cons] at e2
        exact ⟨l[vs.length], _, e2, (rightL_all q4).2.2 _ (List.getElem_mem _), q5 _ (List.getElem_mem _), e3⟩
      unfold FirstPA at hy
      cases hf : firstV t rest with
      | none =>
        rw [hf] at hy
        obtain ⟨v, msg, rfl⟩ := hy
        dsimp only
        rw [if_pos (by simp [errA])]
        refine bad _ fun l hg => ?_
        obtain ⟨v, r, e1, e2, e3, _⟩ := hgood l hg
        rw [e1, firstV_one e2 e3] at hf
        cases hf
      | some q =>
        obtain ⟨v, k⟩ := q
        rw [hf] at hy
        subst hy
        obtain ⟨q1, q2, q3, q4⟩ := firstV_ok ht g2 hf
        dsimp only
        rw [if_neg (by simp), if_pos (by simp <;> omega), if_pos (by omega)]
        simp only [Int.toNat_natCast, List.take_length]
        rw [wrap_succ (by omega)]
        refine hrec _ ⟨vs ++ [v], rest.drop k, by simp, by simp <;> omega, g2.drop _, by simp <;> omega, ?_, fun l hg => ?_⟩ (by simp <;> omega)
        · intro x hx
          rcases List.mem_append.1 hx with hx | hx
          · exact g4 x hx
          · simp at hx; subst hx; exact q1
        · obtain ⟨v', r, e1, e2, e3, e4⟩ := hgood l hg
          obtain ⟨e5, _⟩ := g5 l hg
          rw [e1] at hf
          obtain ⟨rfl, e6⟩ := firstV_le e2 e3 hf
          have hlt : vs.length < l.length := by
            rcases Nat.lt_or_ge vs.length l.length with h | h
            · exact h
            · rw [List.drop_eq_nil_iff.2 h] at e4; cases e4
          have e7 := List.drop_eq_getElem_cons hlt
          rw [e4] at e7
          obtain ⟨e8, e9⟩ := List.cons.inj e7
          rw [e1, e6, List.length_append, List.length_singleton, ← e9, List.take_succ_eq_append_getElem hlt, ← e5, e8]
          exact ⟨rfl, rfl⟩
    · have hM : vs.length = M := by omega
      rw [if_neg (by simp <;> omega), f_plain_Put_eq g4 (by omega) (by omega)]
      simp only [Option.bind_some]
      have huniq : ∀ l, GoodE 1 t (M : Int) b l → vs = l := by
        intro l hg
        have e1 := (g5 l hg).1
        have q3 := (good1 hg).2.2.1
        rwa [List.take_of_length_le (by omega)] at e1
      cases hr : rightL t vs with
      | false =>
        rw [if_pos (by simp)]
        refine bad _ fun l hg => ?_
        have := huniq l hg
        subst this
        rw [(good1 hg).2.2.2.1] at hr
        cases hr
      | true =>
        rw [if_neg (by simp)]
        unfold f_bytes_Equal
        simp only [Option.bind_some, if_true]
        by_cases hq : vs.flatMap oneV = b
        · rw [if_neg (by simp [hq])]
          exact Gets.some (.inl ⟨vs, rfl, by omega, by omega, by omega, by simp [encMay], hr, g4, by simpa [encB] using hq⟩)
        · rw [if_pos (by simp [hq])]
          refine bad _ fun l hg => ?_
          have := huniq l hg
          subst this
          exact hq (good1 hg).2.2.2.2.2
  unfold f_plain_Take
  refine Gets.bind key ?_
  rintro y (⟨l, rfl, hg⟩ | ⟨⟨msg, rfl⟩, hno⟩)
  · exact Gets.some (.inl ⟨l, rfl, hg⟩)
  · exact Gets.some (.inr ⟨rfl, hno⟩)

theorem f_rle_Take_post {n : Nat} {t m : Int} {b : List Int} (ht : -9223372036854775808 ≤ t ∧ t ≤ 9223372036854775807) (hb : Bytes b) (hl : b.length < 1000000) (hn : 1000000 ≤ n) :
    Gets (f_rle_Take n (t, m, b, ())) (TakeE 2 t m b) := by
  have hro := room_eq
  have key : Gets (f_rle_read n (t, m, b, ())) (ReadE errB 2 t m b) := by
    have bad : ∀ msg, (∀ l, ¬ GoodE 2 t m b l) → Gets (some ((([] : List Vl), errB msg, ()), ())) (ReadE errB 2 t m b) := fun msg h => Gets.some (.inr ⟨⟨msg, rfl⟩, h⟩)
    unfold f_rle_read
    dsimp only
    by_cases h1 : m < 0
    · rw [if_pos (by simpa using h1)]
      exact bad _ fun l hg => by have := hg.1; omega
    rw [if_neg (by simpa using h1)]
    by_cases h2 : 1000 < m
    · rw [if_pos (by simpa using h2)]
      exact bad _ fun l hg => by have := hg.2.1; omega
    rw [if_neg (by simpa using h2)]
    obtain ⟨M, rfl⟩ : ∃ M : Nat, m = (M : Int) := ⟨_, (Int.toNat_of_nonneg (by omega)).symm⟩
    refine Gets.iter (I := fun s : List Vl × List Int => ∃ (vs : List Vl) (rest : List Int), s = (vs, rest) ∧ vs.length ≤ M ∧ Bytes rest ∧ rest.length < 1000000 ∧ (∀ v, v ∈ vs → okV v) ∧ ∀ l, GoodE 2 t (M : Int) b l → vs = l.take vs.length ∧ rest = rleB (l.drop vs.length))
      (μ := fun s => s.2.length) ⟨[], b, rfl, by simp, hb, hl, by simp, fun l hg => ⟨by simp, by simpa using (good2 hg).2.2.2.2.2.symm⟩⟩ (by simp <;> omega) ?_
    rintro rec _ ⟨vs, rest, rfl, g1, g2, g3, g4, g5⟩ hrec
    dsimp only
    by_cases h3 : 0 < rest.length
    · rw [if_pos (by simp <;> omega), f_num_Take_eq g2 g3 (by omega)]
      simp only [Option.bind_some]
      have hgood : ∀ l, GoodE 2 t (M : Int) b l → ∃ v r, rest = putN (1 + runN v r) ++ (oneV v ++ rleB (r.drop (runN v r))) ∧ rightV t v = true ∧ okV v ∧ l.drop vs.length = v :: r ∧ vs.length + (1 + runN v r) ≤ M := by
        intro l hg
        obtain ⟨_, e2⟩ := g5 l hg
        obtain ⟨_, _, q3, q4, q5, _⟩ := good2 hg
        have hlt : vs.length < l.length := by
          rcases Nat.lt_or_ge vs.length l.length with h | h
          · exact h
          · rw [List.drop_eq_nil_iff.2 h, rleB_nil] at e2; rw [e2] at h3; simp at h3
        have e3 := List.drop_eq_getElem_cons hlt
        rw [e3, rleB_cons] at e2
        have e4 := runN_le l[vs.length] (l.drop (vs.length + 1))
        have e5 : (l.drop (vs.length + 1)).length = l.length - (vs.length + 1) := by simp
        exact ⟨l[vs.length], _, e2, (rightL_all q4).2.2 _ (List.getElem_mem _), q5 _ (List.getElem_mem _), e3, by omega⟩
      have hsz : ∀ {v r}, vs.length + (1 + runN v r) ≤ M → 1 + runN v r < 18446744073709551616 := by intro v r h; omega
      cases htk : takeN rest with
      | none =>
        dsimp only
        rw [if_pos (by simp)]
        refine bad _ fun l hg => ?_
        obtain ⟨v, r, e1, _, _, _, e5⟩ := hgood l hg
        rw [e1, takeN_put _ _ (hsz e5)] at htk
        cases htk
      | some q =>
        obtain ⟨u, k⟩ := q
        have hT := takeN_some g2 htk
        have hK := takeN_bytes g2 htk
        have hk1 := putN_len u
        dsimp only
        have hw : IntKind.u64.wrap (IntKind.i64.wrap ((M : Int) - (vs.length : Int))) = ((M - vs.length : Nat) : Int) := by
          rw [show ((M : Int) - (vs.length : Int)) = ((M - vs.length : Nat) : Int) by omega, wrapI64 (by omega), wrapU64 (by omega)]
        rw [if_neg (by simp), hw]
        by_cases h4 : M - vs.length < u
        · rw [if_pos (by simp <;> omega)]
          refine bad _ fun l hg => ?_
          obtain ⟨v, r, e1, _, _, _, e5⟩ := hgood l hg
          rw [e1, takeN_put _ _ (hsz e5)] at htk
          simp only [Option.some.injEq, Prod.mk.injEq] at htk
          omega
        · rw [if_neg (by simp <;> omega), if_pos (by omega)]
          simp only [Int.toNat_natCast, List.take_length]
          refine Gets.bind (f_rle_first_post (n := n) (t := t) (g2.drop k) (by simp <;> omega) (by omega)) fun y hy => ?_
          have hgood2 : ∀ l, GoodE 2 t (M : Int) b l → ∃ v r, u = 1 + runN v r ∧ rest.drop k = oneV v ++ rleB (r.drop (runN v r)) ∧ rightV t v = true ∧ okV v ∧ l.drop vs.length = v :: r := by
            intro l hg
            obtain ⟨v, r, e1, e2, e3, e4, e5⟩ := hgood l hg
            have htk' := htk
            rw [e1, takeN_put _ _ (hsz e5)] at htk'
            simp only [Option.some.injEq, Prod.mk.injEq] at htk'
            refine ⟨v, r, htk'.1.symm, ?_, e2, e3, e4⟩
            rw [e1, ← htk'.2]; simp
          unfold FirstPB at hy
          cases hf : firstV t (rest.drop k) with
          | none =>
            rw [hf] at hy
            obtain ⟨v, msg, rfl⟩ := hy
            dsimp only
            rw [if_pos (by simp [errB])]
            refine bad _ fun l hg => ?_
            obtain ⟨v, r, _, e1, e2, e3, _⟩ := hgood2 l hg
            rw [e1, firstV_one e2 e3] at hf
            cases hf
          | some q =>
            obtain ⟨v, k2⟩ := q
            rw [hf] at hy
            subst hy
            obtain ⟨q1, q2, q3, q4⟩ := firstV_ok ht (g2.drop k) hf
            rw [List.length_drop] at q3
            dsimp only
            rw [if_neg (by simp), wrapI64 (x := u) (by omega), f_Repeat_eq (by omega) (by omega)]
            simp only [Option.bind_some]
            have hw2 : IntKind.i64.wrap ((k : Int) + (k2 : Int)) = ((k + k2 : Nat) : Int) := by
              rw [show ((k : Int) + (k2 : Int)) = ((k + k2 : Nat) : Int) by omega, wrapI64 (by omega)]
            rw [if_pos (by simp <;> omega), hw2, if_pos (by omega)]
            simp only [Int.toNat_natCast]
            refine hrec _ ⟨vs ++ List.replicate u v, rest.drop (k + k2), rfl, by simp <;> omega, g2.drop _, by simp <;> omega, ?_, fun l hg => ?_⟩ (by simp <;> omega)
            · intro x hx
              rcases List.mem_append.1 hx with hx | hx
              · exact g4 x hx
              · rw [List.eq_of_mem_replicate hx]; exact q1
            · obtain ⟨v', r, e1, e2, e3, e4, e5⟩ := hgood2 l hg
              obtain ⟨e6, _⟩ := g5 l hg
              rw [e2] at hf
              obtain ⟨rfl, e7⟩ := firstV_le e3 e4 hf
              rw [← List.drop_drop, e2, e7]
              have hlen : (vs ++ List.replicate u v).length = vs.length + u := by simp
              have e8 : l.drop vs.length = List.replicate u v ++ r.drop (runN v r) := by
                rw [e5, e1, Nat.add_comm, List.replicate_succ, List.cons_append, ← run_split v r]
              have e9 : l.drop (vs.length + u) = r.drop (runN v r) := by
                rw [← List.drop_drop, e8, List.drop_left' (by simp)]
              rw [hlen, e9]
              refine ⟨?_, rfl⟩
              rw [List.take_add, ← e6, e8, List.take_left' (by simp)]
    · have hrest : rest = [] := by
        cases rest with
        | nil => rfl
        | cons => simp at h3
      subst hrest
      rw [if_neg (by simp), f_rle_Put_eq g4 (by omega) (by omega)]
      simp only [Option.bind_some]
      have huniq : ∀ l, GoodE 2 t (M : Int) b l → vs = l := by
        intro l hg
        obtain ⟨e1, e2⟩ := g5 l hg
        have e3 : l.length ≤ vs.length := by
          rcases Nat.lt_or_ge vs.length l.length with h | h
          · rw [List.drop_eq_getElem_cons h, rleB_cons] at e2
            have := congrArg List.length e2
            have hp := putN_len (1 + runN l[vs.length] (l.drop (vs.length + 1)))
            simp at this
            omega
          · exact h
        rwa [List.take_of_length_le e3] at e1
      cases hr : rightL t vs with
      | false =>
        rw [if_pos (by simp)]
        refine bad _ fun l hg => ?_
        have := huniq l hg
        subst this
        rw [(good2 hg).2.2.2.1] at hr
        cases hr
      | true =>
        rw [if_neg (by simp)]
        by_cases hlm : vs.length = M
        rotate_left
        · rw [if_pos (by simp <;> omega)]
          refine bad _ fun l hg => ?_
          have := huniq l hg
          subst this
          have := (good2 hg).2.2.1
          omega
        rw [if_neg (by simp <;> omega)]
        unfold f_bytes_Equal
        simp only [Option.bind_some, if_true]
        by_cases hq : rleB vs = b
        · rw [if_neg (by simp [hq])]
          exact Gets.some (.inl ⟨vs, rfl, by omega, by omega, by omega, by simp [encMay], hr, g4, by simpa [encB] using hq⟩)
        · rw [if_pos (by simp [hq])]
          refine bad _ fun l hg => ?_
          have := huniq l hg
          subst this
          exact hq (good2 hg).2.2.2.2.2
  unfold f_rle_Take
  refine Gets.bind key ?_
  rintro y (⟨l, rfl, hg⟩ | ⟨⟨msg, rfl⟩, hno⟩)
  · exact Gets.some (.inl ⟨l, rfl, hg⟩)
  · exact Gets.some (.inr ⟨rfl, hno⟩)

def errC (msg : List Int) : UV := UV.node t_pack_wrap (.pair (.str msg) (.pair (UV.sent g_pack_errForm) .unit))
def errF (msg : List Int) : UV := UV.node t_delta_wrap (.pair (.str msg) (.pair (UV.sent g_delta_errForm) .unit))

theorem num_val {t : Int} {v : Vl} (h : rightV t v = true) (ht : t ≤ 3) : v = (t, v.2.1, [], ()) := by
  obtain ⟨h1, h2⟩ := rightV_spec h
  obtain ⟨a, b, c, u⟩ := v
  dsimp only at h1 h2
  subst h1
  have hc : c = [] := by
    rcases h2 with h2 | h2 | h2 | h2 | h2
    · exact h2.2.2
    · exact h2.2.2.2
    · exact h2.2
    · exact h2.2.2
    · omega
  subst hc
  rfl

theorem f_delta_Take_post {n : Nat} {t m : Int} {b : List Int} (ht : -9223372036854775808 ≤ t ∧ t ≤ 9223372036854775807) (hb : Bytes b) (hl : b.length < 1000000) (hn : 70000 ≤ n) :
    Gets (f_delta_Take n (t, m, b, ())) (TakeE 5 t m b) := by
  have hro := room_eq
  have key : Gets (f_delta_read n (t, m, b, ())) (ReadE errF 5 t m b) := by
    have bad : ∀ msg, (∀ l, ¬ GoodE 5 t m b l) → Gets (some ((([] : List Vl), errF msg, ()), ())) (ReadE errF 5 t m b) := fun msg h => Gets.some (.inr ⟨⟨msg, rfl⟩, h⟩)
    unfold f_delta_read
    dsimp only
    by_cases h1 : m < 0
    · rw [if_pos (by simpa using h1)]
      exact bad _ fun l hg => by have := hg.1; omega
    rw [if_neg (by simpa using h1)]
    by_cases h2 : 1000 < m
    · rw [if_pos (by simpa using h2)]
      exact bad _ fun l hg => by have := hg.2.1; omega
    rw [if_neg (by simpa using h2)]
    obtain ⟨M, rfl⟩ : ∃ M : Nat, m = (M : Int) := ⟨_, (Int.toNat_of_nonneg (by omega)).symm⟩
    refine Gets.iter (I := fun s : List Vl × List Int × Int × Int => ∃ (vs : List Vl) (rest : List Int) (last : Int), s = (vs, rest, IntKind.u64.wrap last, (vs.length : Int)) ∧ (-9223372036854775808 ≤ last ∧ last ≤ 9223372036854775807) ∧ vs.length ≤ M ∧ Bytes rest ∧ rest.length < 1000000 ∧ (∀ v, v ∈ vs → okV v) ∧
        ∀ l, GoodE 5 t (M : Int) b l → vs = l.take vs.length ∧ rest = deltaB last (l.drop vs.length))
      (μ := fun s => M - s.1.length) ⟨[], b, 0, rfl, by omega, by simp, hb, hl, by simp, fun l hg => ⟨by simp, by simpa using (good5 hg).2.2.2.2.2.2.symm⟩⟩ (by simp <;> omega) ?_
    rintro rec _ ⟨vs, rest, last, rfl, g0, g1, g2, g3, g4, g5⟩ hrec
    dsimp only
    by_cases h3 : vs.length < M
    · rw [if_pos (by simp <;> omega), f_num_Take_eq g2 g3 (by omega)]
      simp only [Option.bind_some]
      have hgood : ∀ l, GoodE 5 t (M : Int) b l → ∃ (hlt : vs.length < l.length), rest = putN (zig (stepZ last l[vs.length].2.1)) ++ deltaB l[vs.length].2.1 (l.drop (vs.length + 1)) ∧ rightV t l[vs.length] = true ∧ okV l[vs.length] ∧ t ≤ 2 := by
        intro l hg
        obtain ⟨_, e2⟩ := g5 l hg
        obtain ⟨_, _, q3, q0, q4, q5, _⟩ := good5 hg
        have hlt : vs.length < l.length := by omega
        rw [List.drop_eq_getElem_cons hlt] at e2
        exact ⟨hlt, e2, (rightL_all q4).2.2 _ (List.getElem_mem _), q5 _ (List.getElem_mem _), q0⟩
      cases htk : takeN rest with
      | none =>
        dsimp only
        rw [if_pos (by simp)]
        refine bad _ fun l hg => ?_
        obtain ⟨hlt, e1, _⟩ := hgood l hg
        rw [e1, takeN_put _ _ (zig_step_lt _ _)] at htk
        cases htk
      | some q =>
        obtain ⟨u, k⟩ := q
        have hT := takeN_some g2 htk
        have hK := takeN_bytes g2 htk
        dsimp only
        rw [if_neg (by simp), f_num_Zag_eq hT.1]
        simp only [Option.bind_some]
        have hz := zag_in hT.1
        have hval : IntKind.u64.wrap (IntKind.u64.wrap last + IntKind.u64.wrap (zag u)) = IntKind.u64.wrap (IntKind.i64.wrap (last + zag u)) := by
          rw [wrap_mod64, wrap_mod64, wrap_mod64, wrap_mod64, wrapI64_mod]
          omega
        have hnew := i64_range (last + zag u)
        rw [hval, i64_u64 hnew, if_pos (by simp <;> omega), if_pos (by omega)]
        simp only [Int.toNat_natCast, List.take_length]
        rw [wrap_succ (by omega)]
        refine hrec _ ⟨vs ++ [(t, IntKind.i64.wrap (last + zag u), [], ())], rest.drop k, IntKind.i64.wrap (last + zag u), by simp, hnew, by simp <;> omega, g2.drop _, by simp <;> omega, ?_, fun l hg => ?_⟩ (by simp <;> omega)
        · intro x hx
          rcases List.mem_append.1 hx with hx | hx
          · exact g4 x hx
          · simp at hx; subst hx; exact ⟨ht, hnew, by simp, by simp⟩
        · obtain ⟨hlt, e1, e2, e3, e4⟩ := hgood l hg
          obtain ⟨e5, _⟩ := g5 l hg
          have htk' := htk
          rw [e1, takeN_put _ _ (zig_step_lt _ _)] at htk'
          simp only [Option.some.injEq, Prod.mk.injEq] at htk'
          have e6 : IntKind.i64.wrap (last + zag u) = l[vs.length].2.1 := by
            rw [← htk'.1, zag_zig]; exact stepZ_back e3.2.1
          have e7 := num_val e2 (by omega)
          rw [e6, ← e7, List.length_append, List.length_singleton, List.take_succ_eq_append_getElem hlt, ← e5]
          refine ⟨rfl, ?_⟩
          rw [e1, ← htk'.2]; simp
    · have hM : vs.length = M := by omega
      rw [if_neg (by simp <;> omega), f_delta_Put_eq g4 (by omega) (by omega)]
      simp only [Option.bind_some]
      have huniq : ∀ l, GoodE 5 t (M : Int) b l → vs = l := by
        intro l hg
        have e1 := (g5 l hg).1
        have q3 := (good5 hg).2.2.1
        rwa [List.take_of_length_le (by omega)] at e1
      by_cases hr : t ≤ 2 ∧ rightL t vs = true
      rotate_left
      · rw [if_neg hr, if_pos (by simp)]
        refine bad _ fun l hg => ?_
        have := huniq l hg
        subst this
        exact hr ⟨(good5 hg).2.2.2.1, (good5 hg).2.2.2.2.1⟩
      · rw [if_pos hr, if_neg (by simp)]
        unfold f_bytes_Equal
        simp only [Option.bind_some]
        by_cases hq : deltaB 0 vs = b
        · rw [if_neg (by simp [hq])]
          exact Gets.some (.inl ⟨vs, rfl, by omega, by omega, by omega, by simp [encMay, hr.1], hr.2, g4, by simpa [encB] using hq⟩)
        · rw [if_pos (by simp [hq])]
          refine bad _ fun l hg => ?_
          have := huniq l hg
          subst this
          exact hq (good5 hg).2.2.2.2.2.2
  unfold f_delta_Take
  refine Gets.bind key ?_
  rintro y (⟨l, rfl, hg⟩ | ⟨⟨msg, rfl⟩, hno⟩)
  · exact Gets.some (.inl ⟨l, rfl, hg⟩)
  · exact Gets.some (.inr ⟨rfl, hno⟩)

/-- What the bytes of a column of few bits say. -/
theorem pack_parts {t : Int} {l : List Vl} (hne : l ≠ []) (ht : t ≤ 3) (h : rightL t l = true) (hv : ∀ v, v ∈ l → okV v) : takeN (packB l) = some (zig (leastV l), (putN (zig (leastV l))).length) ∧ (putN (zig (leastV l))).length < (packB l).length ∧
    (packB l).getD (putN (zig (leastV l))).length 0 = ((widthL (aboveV l) : Nat) : Int) ∧ (packB l).drop ((putN (zig (leastV l))).length + 1) = bitsB (aboveV l) (widthL (aboveV l)) ∧
    takeB (bitsB (aboveV l) (widthL (aboveV l))) (l.length : Int) ((widthL (aboveV l) : Nat) : Int) = (aboveV l, true, ()) ∨ ¬ l.length ≤ 1000 := by
  rcases Nat.lt_or_ge 1000 l.length with h1 | h1
  · exact .inr (by omega)
  have hlr := least_range hv
  have hz := zig_lt hlr.1 hlr.2
  have hw := width_above hv
  refine .inl ?_
  rw [packB_cons hne]
  refine ⟨takeN_put _ _ hz, by simp, ?_, ?_, ?_⟩
  · rw [List.getD_eq_getElem?_getD, List.getElem?_append_right (Nat.le_refl _), Nat.sub_self]; rfl
  · rw [← List.drop_drop, List.drop_left]; rfl
  · have hbb := bitsL_bitsB (above_small hv)
    rw [above_len] at hbb
    unfold takeB
    simp only [Int.toNat_natCast]
    rw [hbb, if_pos ⟨by omega, by omega, by omega, by omega, by rw [bitsB_len, above_len], rfl⟩]

theorem f_pack_Take_post {n : Nat} {t m : Int} {b : List Int} (ht : -9223372036854775808 ≤ t ∧ t ≤ 9223372036854775807) (hb : Bytes b) (hl : b.length < 1000000) (hn : 70000 ≤ n) :
    Gets (f_pack_Take n (t, m, b, ())) (TakeE 4 t m b) := by
  have hro := room_eq
  have key : Gets (f_pack_read n (t, m, b, ())) (ReadE errC 4 t m b) := by
    have bad : ∀ msg, (∀ l, ¬ GoodE 4 t m b l) → Gets (some ((([] : List Vl), errC msg, ()), ())) (ReadE errC 4 t m b) := fun msg h => Gets.some (.inr ⟨⟨msg, rfl⟩, h⟩)
    unfold f_pack_read
    dsimp only
    by_cases h1 : m < 0
    · rw [if_pos (by simpa using h1)]
      exact bad _ fun l hg => by have := hg.1; omega
    rw [if_neg (by simpa using h1)]
    by_cases h2 : 1000 < m
    · rw [if_pos (by simpa using h2)]
      exact bad _ fun l hg => by have := hg.2.1; omega
    rw [if_neg (by simpa using h2)]
    obtain ⟨M, rfl⟩ : ∃ M : Nat, m = (M : Int) := ⟨_, (Int.toNat_of_nonneg (by omega)).symm⟩
    refine Gets.join (I := fun vs : List Vl => vs.length = M ∧ (∀ v, v ∈ vs → okV v) ∧ ∀ l, GoodE 4 t (M : Int) b l → vs = l) ?_ ?_
    · rintro vs ⟨hM, g4, huniq⟩
      rw [f_pack_Put_eq g4 (by omega) (by omega)]
      simp only [Option.bind_some]
      by_cases hr : t ≤ 3 ∧ rightL t vs = true
      rotate_left
      · rw [if_neg hr, if_pos (by simp)]
        refine bad _ fun l hg => ?_
        have := huniq l hg
        subst this
        exact hr ⟨(good4 hg).2.2.2.1, (good4 hg).2.2.2.2.1⟩
      · rw [if_pos hr, if_neg (by simp)]
        unfold f_bytes_Equal
        simp only [Option.bind_some]
        by_cases hq : packB vs = b
        · rw [if_neg (by simp [hq])]
          exact Gets.some (.inl ⟨vs, rfl, by omega, by omega, by omega, by simp [encMay, hr.1], hr.2, g4, by simpa [encB] using hq⟩)
        · rw [if_pos (by simp [hq])]
          refine bad _ fun l hg => ?_
          have := huniq l hg
          subst this
          exact hq (good4 hg).2.2.2.2.2.2
    · intro J hJ
      by_cases h3 : M = 0
      · subst h3
        rw [if_neg (by simp)]
        refine hJ _ ⟨rfl, by simp, fun l hg => ?_⟩
        have := (good4 hg).2.2.1
        cases l with
        | nil => rfl
        | cons => simp at this; omega
      have hparts : ∀ l, GoodE 4 t (M : Int) b l → l.length = M ∧ t ≤ 3 ∧ (∀ v, v ∈ l → rightV t v = true ∧ okV v) ∧ takeN b = some (zig (leastV l), (putN (zig (leastV l))).length) ∧ (putN (zig (leastV l))).length < b.length ∧
          b.getD (putN (zig (leastV l))).length 0 = ((widthL (aboveV l) : Nat) : Int) ∧ b.drop ((putN (zig (leastV l))).length + 1) = bitsB (aboveV l) (widthL (aboveV l)) ∧
          takeB (bitsB (aboveV l) (widthL (aboveV l))) (M : Int) ((widthL (aboveV l) : Nat) : Int) = (aboveV l, true, ()) := by
        intro l hg
        obtain ⟨_, _, q3, q4, q5, q6, q7⟩ := good4 hg
        have hlm : l.length = M := by omega
        have hne : l ≠ [] := by rintro rfl; simp at hlm; omega
        rcases pack_parts hne q4 q5 q6 with h | h
        · rw [q7, hlm] at h
          exact ⟨hlm, q4, rightL_both q5 q6, h⟩
        · omega
      rw [if_pos (by simp <;> omega), f_num_Take_eq hb hl (by omega)]
      simp only [Option.bind_some]
      cases htk : takeN b with
      | none =>
        dsimp only
        rw [if_pos (by simp)]
        refine bad _ fun l hg => ?_
        rw [(hparts l hg).2.2.2.1] at htk
        cases htk
      | some q =>
        obtain ⟨u, k⟩ := q
        have hT := takeN_some hb htk
        dsimp only
        rw [if_neg (by simp)]
        by_cases h4 : k = b.length
        · rw [if_pos (by simp <;> omega)]
          refine bad _ fun l hg => ?_
          obtain ⟨_, _, _, e1, e2, _⟩ := hparts l hg
          rw [e1] at htk
          simp only [Option.some.injEq, Prod.mk.injEq] at htk
          omega
        have hk : k < b.length := by omega
        obtain ⟨c, hc1, hc2, hc3⟩ := hb.get hk
        rw [if_neg (by simp <;> omega), wrap_succ (by omega), if_pos (by omega), atI_nat hk]
        simp only [Int.toNat_natCast, List.take_length]
        rw [hc1, wrapI64 (by omega), f_bits_Take_eq (hb.drop _) (by simp <;> omega) (by omega)]
        simp only [Option.bind_some]
        have hgood : ∀ l, GoodE 4 t (M : Int) b l → u = zig (leastV l) ∧ takeB (b.drop (k + 1)) (M : Int) (c : Int) = (aboveV l, true, ()) := by
          intro l hg
          obtain ⟨_, _, _, e1, e2, e3, e4, e5⟩ := hparts l hg
          rw [e1] at htk
          simp only [Option.some.injEq, Prod.mk.injEq] at htk
          obtain ⟨rfl, rfl⟩ := htk
          rw [hc1] at e3
          exact ⟨rfl, by rw [e4, e3]; exact e5⟩
        obtain ⟨al, aok, hab⟩ : ∃ al aok, takeB (b.drop (k + 1)) (M : Int) (c : Int) = (al, aok, ()) := ⟨_, _, rfl⟩
        rw [hab] at hgood ⊢
        have hal : aok = true → al.length = M ∧ Nums al := by
          intro h
          unfold takeB at hab
          split at hab
          · rename_i hcnd
            simp only [Prod.mk.injEq] at hab
            rw [← hab.1]
            refine ⟨?_, bitsL_nums (by simp <;> omega)⟩
            rw [bitsL_len]; simp
          · simp only [Prod.mk.injEq] at hab
            rw [← hab.2.1] at h; cases h
        cases aok with
        | false =>
          rw [if_pos (by simp)]
          refine bad _ fun l hg => ?_
          have := (hgood l hg).2
          simp at this
        | true =>
          obtain ⟨hal1, hal2⟩ := hal rfl
          rw [if_neg (by simp)]
          have hz := zag_in hT.1
          refine Gets.iter (I := fun s : List Vl × Int => ∃ i : Nat, i ≤ M ∧ s = ((al.take i).map (fun a => (t, IntKind.i64.wrap (IntKind.u64.wrap (IntKind.u64.wrap (zag u) + a)), [], ())), (i : Int))) (μ := fun s => M - s.2.toNat) ⟨0, by omega, by simp⟩ (by simp <;> omega) ?_
          rintro rec _ ⟨i, hi, rfl⟩ hrec
          dsimp only
          by_cases h5 : i < M
          · have h6 : i < al.length := by omega
            rw [if_pos (by simp <;> omega), atI_nat h6, f_num_Zag_eq hT.1]
            simp only [Option.bind_some, Int.toNat_natCast]
            rw [getD_lt' h6, if_pos (by simp <;> omega), wrap_succ (by omega)]
            exact hrec _ ⟨i + 1, by omega, by rw [map_take _ h6]⟩ (by simp <;> omega)
          · obtain rfl : i = M := by omega
            rw [if_neg (by simp <;> omega), List.take_of_length_le (by omega)]
            refine hJ _ ⟨by simp <;> omega, ?_, fun l hg => ?_⟩
            · intro v hv
              obtain ⟨a, _, rfl⟩ := List.mem_map.1 hv
              exact ⟨ht, i64_range _, by simp, by simp⟩
            · obtain ⟨e1, e2⟩ := hgood l hg
              simp only [Prod.mk.injEq, and_true] at e2
              obtain ⟨_, q2, q3, _⟩ := hparts l hg
              rw [e2, e1]
              unfold aboveV
              rw [List.map_map]
              conv => rhs; rw [← List.map_id l]
              refine List.map_congr_left fun v hv => ?_
              obtain ⟨r1, r2⟩ := q3 v hv
              simp only [Function.comp_apply, id, zag_zig]
              have e3 : IntKind.i64.wrap (IntKind.u64.wrap (IntKind.u64.wrap (leastV l) + (v.2.1 - leastV l))) = v.2.1 := by
                have := r2.2.1
                rw [wrap_mod64, wrap_mod64, wrapI64_mod]
                omega
              rw [e3]
              exact (num_val r1 (by omega)).symm
  unfold f_pack_Take
  refine Gets.bind key ?_
  rintro y (⟨l, rfl, hg⟩ | ⟨⟨msg, rfl⟩, hno⟩)
  · exact Gets.some (.inl ⟨l, rfl, hg⟩)
  · exact Gets.some (.inr ⟨rfl, hno⟩)

theorem f_dict_Take_postE {n : Nat} {t m : Int} {b : List Int} (ht : -9223372036854775808 ≤ t ∧ t ≤ 9223372036854775807) (hb : Bytes b) (hl : b.length < 1000000) (hn : 70000 ≤ n) :
    Gets (f_dict_Take n (t, m, b, ())) (TakeE 3 t m b) := by
  refine (f_dict_Take_post (m := m) ht hb hl hn).mono fun y hy => ?_
  rcases hy with ⟨l, h, hg⟩ | ⟨h, hno⟩
  · exact .inl ⟨l, h, good3.2 hg⟩
  · exact .inr ⟨h, fun l hg => hno l (good3.1 hg)⟩

end Go.Rb.R4

namespace Go.Rb.R4
open Go.Rb

theorem Bytes.take {b : List Int} (h : Bytes b) (k : Nat) : Bytes (b.take k) := fun x hx => h x (List.mem_of_mem_take hx)

theorem f_column_Used_eq (n : Nat) (e t : Int) : f_column_Used n (e, t, ()) = some (match usedV e t with | some u => (u, true, ()) | none => (0, false, ()), ()) := by
  unfold f_column_Used usedV
  dsimp only
  by_cases h1 : t < 1
  · rw [if_pos (by simpa using h1), if_neg (by omega)]
  rw [if_neg (by simpa using h1)]
  by_cases h2 : 4 < t
  · rw [if_pos (by simpa using h2), if_neg (by omega)]
  rw [if_neg (by simpa using h2)]
  by_cases h3 : e = 5 ∨ e = 4 ∨ e = 3 ∨ e = 2 ∨ e = 1
  · have ht : t = 1 ∨ t = 2 ∨ t = 3 ∨ t = 4 := by omega
    rcases h3 with rfl | rfl | rfl | rfl | rfl <;> rcases ht with rfl | rfl | rfl | rfl <;> decide
  · have h5 : ¬ e = 5 := by omega
    have h4 : ¬ e = 4 := by omega
    have h33 : ¬ e = 3 := by omega
    have h22 : ¬ e = 2 := by omega
    have h11 : ¬ e = 1 := by omega
    have hno : ¬ (1 ≤ t ∧ t ≤ 4 ∧ 1 ≤ e ∧ e ≤ 5) := by omega
    rw [if_neg hno]
    simp [h5, h4, h33, h22, h11]

theorem f_value_Fits_eq (n : Nat) (t : Int) (v : Vl) : f_value_Fits n (t, v, ()) = some ((fitsV t v, ()), ()) := by
  unfold f_value_Fits fitsV
  dsimp only
  rw [f_value_May_eq]
  simp only [Option.bind_some]
  cases mayV v with
  | false => rfl
  | true =>
    rw [if_pos rfl]
    by_cases h1 : 1 ≤ t
    · by_cases h2 : t ≤ 4
      · by_cases h3 : v.1 = 0 <;> simp [h1, h2, h3]
      · simp [h1, h2]
    · simp [h1]

/-- A column as bytes, if it may be. -/
def putColV (e t : Int) (l : List Vl) : Option (List Int) :=
  match usedV e t with
  | some u => if l.all (fitsV t) = true then some (colB u t l) else none
  | none => none

def headB (u : Int) (l : List Vl) : List Int := if l.any isN then u :: 1 :: nullB (l.map isN) else [u, 0]

theorem headB_col (u t : Int) (l : List Vl) : headB u l ++ encB u t (someV l) = colB u t l := by
  unfold headB colB
  split <;> simp

theorem headB_len (u : Int) {l : List Vl} (hl : l.length ≤ 1000) : (headB u l).length ≤ 200 := by
  unfold headB
  split
  · simp only [List.length_cons, nullB_len, List.length_map]; omega
  · simp

theorem f_column_Put_eq {n : Nat} {e t : Int} {l : List Vl} (hv : ∀ v, v ∈ l → okV v) (hl : l.length ≤ 1000) (hn : 2000 ≤ n) :
    f_column_Put n (e, t, l, ()) = some (match putColV e t l with | some b => (b, true, ()) | none => ([], false, ()), ()) := by
  have hro := room_eq
  unfold f_column_Put putColV
  dsimp only
  rw [f_column_Used_eq]
  simp only [Option.bind_some]
  cases hu : usedV e t with
  | none => rfl
  | some u =>
    obtain ⟨u1, u2, u3, u4, u5, _⟩ := usedV_may hu
    dsimp only
    rw [if_neg (by simp), f_ContainsFunc_eq (q := fun v => !fitsV t v) (fun v _ => by unfold f_column_Put_1; dsimp only; rw [f_value_Fits_eq]; rfl) (by omega) (by omega)]
    simp only [Option.bind_some]
    by_cases hf : l.all (fitsV t) = true
    rotate_left
    · rw [if_neg hf, if_pos]
      rw [List.any_eq_true]
      have hf' : l.all (fitsV t) = false := by simpa using hf
      rw [List.all_eq_false] at hf'
      obtain ⟨x, hx, h⟩ := hf'
      exact ⟨x, hx, by simpa using h⟩
    · have hfa : ∀ v, v ∈ l → fitsV t v = true := List.all_eq_true.1 hf
      have hany : l.any (fun v => !fitsV t v) = false := by rw [List.any_eq_false]; intro x hx; simp [hfa x hx]
      have hr := someV_right ⟨u2, u3⟩ hfa
      have hok := someV_ok hv
      have hsl := someV_len l
      rw [if_pos hf, if_neg (by rw [hany]; simp)]
      dsimp only
      have hEL := encB_len (e := u) hr hok (by omega)
      have hHL := headB_len u hl
      have hcat : ∀ b : List Int, b = encB u t (someV l) → (if ((headB u l).length + b.length) * 1 ≤ room then (some (((headB u l) ++ b, true, ()), ()) : Option ((List Int × Bool × Unit) × Unit)) else none) = some ((colB u t l, true, ()), ()) := by
        rintro b rfl
        rw [if_pos (by omega), headB_col]
      refine join_intro (I := fun s q => s = headB u l ∧ q = some ((colB u t l, true, ()), ())) ?_ ?_
      · rintro _ _ ⟨rfl, rfl⟩
        unfold f_column_codecs f_slices_Clone_Lapi_Value_api_Value
        simp only [Option.bind_some]
        rw [f_DeleteFunc_eq (p := fun c => (f_column_nothing n (c, ())).bind fun r => some r.1.1) (q := isN) (fun v _ => rfl) (by omega) (by omega)]
        simp only [Option.bind_some]
        have hsv : (l.filter fun v => !isN v) = someV l := rfl
        rw [hsv]
        by_cases c1 : u = 1
        · subst c1
          rw [if_pos rfl, f_plain_Put_eq hok (by omega) hn, if_pos hr]
          simp only [Option.bind_some]
          rw [if_neg (by simp)]
          exact hcat _ (by simp [encB])
        rw [if_neg c1]
        by_cases c2 : u = 2
        · subst c2
          rw [if_pos rfl, f_rle_Put_eq hok (by omega) hn, if_pos hr]
          simp only [Option.bind_some]
          rw [if_neg (by simp)]
          exact hcat _ (by simp [encB])
        rw [if_neg c2]
        by_cases c3 : u = 3
        · subst c3
          rw [if_pos rfl, f_dict_Put_eq hok (by omega) hn, if_pos hr]
          simp only [Option.bind_some]
          rw [if_neg (by simp)]
          exact hcat _ (by simp [encB])
        rw [if_neg c3]
        unfold encMay at u1
        simp only [Bool.or_eq_true, Bool.and_eq_true, decide_eq_true_eq] at u1
        by_cases c4 : u = 4
        · subst c4
          rw [if_pos rfl, f_pack_Put_eq hok (by omega) hn, if_pos ⟨by omega, hr⟩]
          simp only [Option.bind_some]
          rw [if_neg (by simp)]
          exact hcat _ (by simp [encB])
        rw [if_neg c4]
        obtain rfl : u = 5 := by omega
        rw [if_pos rfl, f_delta_Put_eq hok (by omega) hn, if_pos ⟨by omega, hr⟩]
        simp only [Option.bind_some]
        rw [if_neg (by simp)]
        exact hcat _ (by simp [encB])
      · intro J hJ
        rw [f_ContainsFunc_eq (p := fun c => (f_column_nothing n (c, ())).bind fun r => some r.1.1) (q := isN) (fun v _ => rfl) (by omega) (by omega)]
        simp only [Option.bind_some]
        rw [wrap_u8 (by omega) (by omega)]
        cases ha : l.any isN with
        | false =>
          rw [if_neg (by simp)]
          exact hJ _ _ ⟨by unfold headB; rw [ha]; rfl, rfl⟩
        | true =>
          rw [if_pos rfl]
          refine iter_run' (st := fun i => ((l.take i).map isN, (i : Int))) l.length (by simp) ?_ ?_ (by omega)
          · intro rec i hi
            dsimp only
            rw [if_pos (by simp <;> omega), atI_nat hi, Int.toNat_natCast, getD_lt' hi]
            unfold f_column_nothing
            simp only [Option.bind_some]
            rw [if_pos (by simp <;> omega), wrap_succ (by omega), map_take _ hi]
            rfl
          · intro rec
            dsimp only
            rw [if_neg (by simp), List.take_length, if_pos (by simp), f_nulls_Put_eq (by simp <;> omega) (by simp <;> omega)]
            simp only [Option.bind_some]
            have hnl := nullB_len (l.map isN)
            rw [List.length_map] at hnl
            rw [if_pos (by simp <;> omega), if_pos (by simp <;> omega)]
            exact hJ _ _ ⟨by unfold headB; rw [ha]; rfl, rfl⟩

/-! ### Taken -/

def GoodC (t m : Int) (b : List Int) (l : List Vl) (e : Int) : Prop := 0 ≤ m ∧ m ≤ 1000 ∧ (l.length : Int) = m ∧ usedV e t = some e ∧ (∀ v, v ∈ l → fitsV t v = true) ∧ (∀ v, v ∈ l → okV v) ∧ colB e t l = b

theorem GoodC.uniq {t m e e' : Int} {b : List Int} {l l' : List Vl} (h : GoodC t m b l e) (h' : GoodC t m b l' e') : l = l' ∧ e = e' := by
  obtain ⟨_, _, g3, g4, g5, g6, g7⟩ := h
  obtain ⟨_, _, k3, k4, k5, k6, k7⟩ := h'
  obtain ⟨u1, u2, u3, _⟩ := usedV_may g4
  obtain ⟨h1, h2, _⟩ := colB_prefix u1 ⟨u2, u3⟩ g5 g6 k5 k6 (by omega) (s := []) (by rw [List.append_nil, g7, k7])
  exact ⟨h2, h1⟩

def TakeC (t m : Int) (b : List Int) (y : (List Vl × Int × Bool × Unit) × Unit) : Prop := (∃ l e, y = ((l, e, true, ()), ()) ∧ GoodC t m b l e) ∨ (y = (([], 0, false, ()), ()) ∧ ∀ l e, ¬ GoodC t m b l e)

theorem good_head {t m e : Int} {b : List Int} {l : List Vl} (h : GoodC t m b l e) : b.getD 0 0 = e ∧ 2 ≤ b.length ∧ b.getD 1 0 = (if l.any isN then 1 else 0) ∧ b.drop 2 = (if l.any isN then nullB (l.map isN) ++ encB e t (someV l) else encB e t (someV l)) := by
  obtain ⟨_, _, _, _, _, _, rfl⟩ := h
  unfold colB
  split <;> simp

theorem ok_null : okV ((0:Int), (0:Int), [], ()) := by unfold okV; decide

theorem f_column_Take_post {n : Nat} {t m : Int} {b : List Int} (ht : -9223372036854775808 ≤ t ∧ t ≤ 9223372036854775807) (hb : Bytes b) (hl : b.length < 1000000) (hn : 1000000 ≤ n) :
    Gets (f_column_Take n (t, m, b, ())) (TakeC t m b) := by
  have hro := room_eq
  have bad : (∀ l e, ¬ GoodC t m b l e) → Gets (some ((([] : List Vl), (0:Int), false, ()), ())) (TakeC t m b) := fun h => Gets.some (.inr ⟨rfl, h⟩)
  unfold f_column_Take
  dsimp only
  by_cases h1 : m < 0
  · rw [if_pos (by simpa using h1)]
    exact bad fun l e hg => by have := hg.1; omega
  rw [if_neg (by simpa using h1)]
  by_cases h2 : 1000 < m
  · rw [if_pos (by simpa using h2)]
    exact bad fun l e hg => by have := hg.2.1; omega
  rw [if_neg (by simpa using h2)]
  obtain ⟨M, rfl⟩ : ∃ M : Nat, m = (M : Int) := ⟨_, (Int.toNat_of_nonneg (by omega)).symm⟩
  by_cases h3 : b.length < 2
  · rw [if_pos (by simp <;> omega)]
    exact bad fun l e hg => by have := (good_head hg).2.1; omega
  rw [if_neg (by simp <;> omega)]
  unfold f_column_codecs
  simp only [Option.bind_some]
  obtain ⟨e, he1, he2, _⟩ := hb.get (i := 0) (by omega)
  have e0 : ((0:Int)).toNat = 0 := rfl
  rw [atI_pos (by omega) (by omega), if_pos (by omega), if_pos (by omega), e0, he1, wrapI64 (x := e) (by omega)]
  have hE : ∀ l e', GoodC t (M : Int) b l e' → e' = (e : Int) := fun l e' hg => by rw [← (good_head hg).1, he1]
  refine Gets.join (I := fun s : List Int × List Bool => Bytes s.1 ∧ s.1.length < 1000000 ∧ s.2.length ≤ 1000 ∧ ∀ l e', GoodC t (M : Int) b l e' → s.2 = l.map isN ∧ s.1 = encB (e : Int) t (someV l)) ?_ ?_
  · rintro ⟨rest, set⟩ ⟨r1, r2, r3, r4⟩
    dsimp only at r1 r2 r3 r4 ⊢
    by_cases h5 : 1 ≤ e ∧ e ≤ 5
    rotate_left
    · rw [if_pos]
      · refine bad fun l e' hg => ?_
        have h6 := hE l e' hg
        obtain ⟨_, _, _, u4, u5, _⟩ := usedV_may hg.2.2.2.1
        omega
      · simp only [Bool.not_eq_true', Bool.or_eq_false_iff, decide_eq_false_iff_not]
        repeat' apply And.intro
        all_goals first | trivial | omega
    rw [if_neg (by
      simp only [Bool.not_eq_true', Bool.or_eq_false_iff, decide_eq_false_iff_not]
      omega)]
    by_cases h6 : set.length = M
    rotate_left
    · rw [if_pos (by simp <;> omega)]
      refine bad fun l e' hg => ?_
      have h7 := congrArg List.length (r4 l e' hg).1
      have := hg.2.2.1
      simp at h7
      omega
    rw [if_neg (by simp <;> omega), f_nulls_Count_eq (by omega) (by omega)]
    simp only [Option.bind_some]
    have hcl := List.countP_le_length (p := fun b : Bool => b) (l := set)
    obtain ⟨cnt, hcnt⟩ : ∃ cnt, set.countP (fun b => b) = cnt := ⟨_, rfl⟩
    rw [hcnt] at hcl ⊢
    have hw : IntKind.i64.wrap ((M : Int) - (cnt : Int)) = ((M - cnt : Nat) : Int) := by
      rw [show ((M : Int) - (cnt : Int)) = ((M - cnt : Nat) : Int) by omega, wrapI64 (by omega)]
    rw [hw]
    have hE2 : ∀ l e', GoodC t (M : Int) b l e' → GoodE (e : Int) t ((M - cnt : Nat) : Int) rest (someV l) := by
      intro l e' hg
      obtain ⟨q1, q2⟩ := r4 l e' hg
      have h7 := hE l e' hg
      obtain ⟨g1, g2, g3, g4, g5, g6, g7⟩ := hg
      obtain ⟨u1, u2, u3, _⟩ := usedV_may g4
      have h8 := someV_count l
      rw [← q1, hcnt] at h8
      subst h7
      exact ⟨by omega, by omega, by omega, u1, someV_right ⟨u2, u3⟩ g5, someV_ok g6, q2.symm⟩
    -- behind the values
    have tail : ∀ sm, GoodE (e : Int) t ((M - cnt : Nat) : Int) rest sm → Gets (iterF (fun rec27 (s26 : (List (Int × Int × List Int × Unit)) × (List (Int × Int × List Int × Unit)) × Int) => (if (decide (s26.2.2 < (set.length : Int))) = true then (atI s26.2.2 set.length (if (set.getD s26.2.2.toNat false) = true then (if (s26.1.length + ([((0:Int), (0:Int), [], ())] : List (Int × Int × List Int × Unit)).length) * 32 ≤ room then (rec27 ((s26.1 ++ ([((0:Int), (0:Int), [], ())] : List (Int × Int × List Int × Unit))), s26.2.1, (IntKind.i64.wrap (s26.2.2 + (1:Int))))) else none) else (atI (0:Int) s26.2.1.length (if (s26.1.length + ([(s26.2.1.getD 0 ((0:Int), (0:Int), [], ()))] : List (Int × Int × List Int × Unit)).length) * 32 ≤ room then (if 0 ≤ (1:Int) ∧ (1:Int) ≤ (s26.2.1.length : Int) then (rec27 ((s26.1 ++ ([(s26.2.1.getD 0 ((0:Int), (0:Int), [], ()))] : List (Int × Int × List Int × Unit))), ((s26.2.1.take (s26.2.1.length : Int).toNat).drop (1:Int).toNat), (IntKind.i64.wrap (s26.2.2 + (1:Int))))) else none) else none)))) else (atI (0:Int) b.length ((f_lend_column_Put n ((e : Int), t, s26.1, ())).bind fun (y28 : (List Int × Bool × Unit) × ((List (Int × Int × List Int × Unit)) × Unit)) => (if (!y28.1.2.1) = true then (some (([], (0:Int), false, ()), ())) else ((f_bytes_Equal n (y28.1.1, b, ())).bind fun (y29 : (Bool × Unit) × (Unit)) => (if (!y29.1.1) = true then (some (([], (0:Int), false, ()), ())) else (atI (0:Int) b.length (some ((y28.2.1, (e : Int), true, ()), ())))))))))) n ([], sm, (0:Int))) (TakeC t (M : Int) b) := by
      intro sm hsm
      obtain ⟨p1, p2, p3, p4, p5, p6, p7⟩ := hsm
      have hgl : ∀ l e', GoodC t (M : Int) b l e' → mixV set sm = l := by
        intro l e' hg
        obtain ⟨q1, q2⟩ := r4 l e' hg
        have := (hE2 l e' hg).uniq ⟨p1, p2, p3, p4, p5, p6, p7⟩
        rw [q1, ← this]
        exact mixV_back hg.2.2.2.2.1
      refine Gets.iter (I := fun s : List Vl × List Vl × Int => ∃ (acc r : List Vl) (i : Nat), s = (acc, r, (i : Int)) ∧ i ≤ set.length ∧ acc.length = i ∧ acc ++ mixV (set.drop i) r = mixV set sm ∧ r.length + (set.drop i).countP (fun b => b) = (set.drop i).length ∧ (∀ v, v ∈ acc → okV v) ∧ ∀ v, v ∈ r → okV v)
        (μ := fun s => set.length - s.2.2.toNat) ⟨[], sm, 0, rfl, by omega, rfl, by simp, by rw [List.drop_zero, hcnt]; omega, by simp, p6⟩ (by simp <;> omega) ?_
      rintro rec _ ⟨acc, r, i, rfl, k1, k2, k3, k4, k5, k6⟩ hrec
      dsimp only
      by_cases hi : i < set.length
      · rw [if_pos (by simp <;> omega), atI_nat hi, Int.toNat_natCast, getD_lt' hi, wrap_succ (by omega)]
        have hd := List.drop_eq_getElem_cons hi
        rw [hd] at k3 k4
        have hdl : (set.drop (i + 1)).length = set.length - (i + 1) := by simp
        by_cases hx : set[i] = true
        · rw [hx] at k3 k4
          have hc1 : List.countP (fun b => b) (true :: set.drop (i + 1)) = List.countP (fun b => b) (set.drop (i + 1)) + 1 := by rw [List.countP_cons]; rfl
          rw [if_pos hx, if_pos (by simp <;> omega)]
          refine hrec _ ⟨acc ++ [((0:Int), (0:Int), [], ())], r, i + 1, rfl, by omega, by simp <;> omega, by rw [← k3]; simp [mixV], by rw [hc1, List.length_cons] at k4; omega, ?_, k6⟩ (by simp <;> omega)
          intro v hv
          rcases List.mem_append.1 hv with hv | hv
          · exact k5 v hv
          · simp at hv; subst hv; exact ok_null
        · have hx' : set[i] = false := by simpa using hx
          rw [hx'] at k3 k4
          have hc1 : List.countP (fun b => b) (false :: set.drop (i + 1)) = List.countP (fun b => b) (set.drop (i + 1)) := by rw [List.countP_cons]; rfl
          rw [hc1, List.length_cons] at k4
          have hcl2 := List.countP_le_length (p := fun b : Bool => b) (l := set.drop (i + 1))
          cases r with
          | nil => simp at k4; omega
          | cons v r =>
            have hrl : (v :: r).length ≤ set.length := by omega
            rw [if_neg hx, atI_pos (by omega) (by simp <;> omega), if_pos (by simp <;> omega), if_pos (by simp <;> omega)]
            simp only [Int.toNat_natCast, List.take_length]
            have e1 : (v :: r).getD 0 ((0:Int), (0:Int), [], ()) = v := rfl
            have e2 : (v :: r).drop ((1:Int)).toNat = r := rfl
            rw [e1, e2]
            refine hrec _ ⟨acc ++ [v], r, i + 1, rfl, by omega, by simp <;> omega, by rw [← k3]; simp [mixV], by simp at k4; omega, ?_, fun x hx => k6 x (List.mem_cons_of_mem _ hx)⟩ (by simp <;> omega)
            intro x hx
            rcases List.mem_append.1 hx with hx | hx
            · exact k5 x hx
            · simp at hx; subst hx; exact k6 _ (by simp)
      · obtain rfl : i = set.length := by omega
        have hacc : acc = mixV set sm := by
          rw [← k3, List.drop_length]; simp [mixV]
        rw [if_neg (by simp), atI_pos (by omega) (by omega)]
        unfold f_lend_column_Put
        dsimp only
        rw [f_column_Put_eq k5 (by omega) (by omega)]
        simp only [Option.map_some, Option.bind_some]
        have hgood' : ∀ l e', GoodC t (M : Int) b l e' → putColV (e : Int) t acc = some b := by
          intro l e' hg
          have h7 := hE l e' hg
          have h8 := hgl l e' hg
          rw [hacc, h8]
          obtain ⟨g1, g2, g3, g4, g5, g6, g7⟩ := hg
          unfold putColV
          rw [h7] at g4 g7
          rw [g4]
          dsimp only
          rw [if_pos (List.all_eq_true.2 g5), g7]
        cases hp : putColV (e : Int) t acc with
        | none =>
          dsimp only
          rw [if_pos (by simp)]
          refine bad fun l e' hg => ?_
          have := hgood' l e' hg
          rw [hp] at this
          cases this
        | some c =>
          dsimp only
          rw [if_neg (by simp)]
          unfold f_bytes_Equal
          simp only [Option.bind_some]
          by_cases hq : c = b
          · rw [if_neg (by simp [hq]), atI_pos (by omega) (by omega)]
            unfold putColV at hp
            cases hu : usedV (e : Int) t with
            | none => rw [hu] at hp; cases hp
            | some u =>
              rw [hu] at hp
              dsimp only at hp
              split at hp
              · rename_i hall
                simp only [Option.some.injEq] at hp
                have hue : u = (e : Int) := by
                  obtain ⟨rr, hr1, _⟩ := colB_head u t acc
                  rw [hp, hq] at hr1
                  rw [hr1] at he1
                  simpa using he1
                subst hue
                refine Gets.some (.inl ⟨acc, _, rfl, by omega, by omega, by omega, hu, List.all_eq_true.1 hall, k5, by rw [hp, hq]⟩)
              · cases hp
          · rw [if_pos (by simp [hq])]
            refine bad fun l e' hg => ?_
            have := hgood' l e' hg
            rw [hp] at this
            exact hq (Option.some.inj this)
    by_cases c1 : e = 1
    · subst c1
      rw [if_pos (show ((1 : Nat) : Int) = 1 from rfl)]
      refine Gets.bind (f_plain_Take_post (m := ((M - cnt : Nat) : Int)) ht r1 r2 (by omega)) ?_
      rintro y (⟨sm, rfl, hg⟩ | ⟨rfl, hno⟩)
      · rw [if_neg (by simp)]; exact tail sm hg
      · rw [if_pos (by simp)]; exact bad fun l e' hg => hno _ (hE2 l e' hg)
    rw [if_neg (by omega)]
    by_cases c2 : e = 2
    · subst c2
      rw [if_pos (show ((2 : Nat) : Int) = 2 from rfl)]
      refine Gets.bind (f_rle_Take_post (m := ((M - cnt : Nat) : Int)) ht r1 r2 (by omega)) ?_
      rintro y (⟨sm, rfl, hg⟩ | ⟨rfl, hno⟩)
      · rw [if_neg (by simp)]; exact tail sm hg
      · rw [if_pos (by simp)]; exact bad fun l e' hg => hno _ (hE2 l e' hg)
    rw [if_neg (by omega)]
    by_cases c3 : e = 3
    · subst c3
      rw [if_pos (show ((3 : Nat) : Int) = 3 from rfl)]
      refine Gets.bind (f_dict_Take_postE (m := ((M - cnt : Nat) : Int)) ht r1 r2 (by omega)) ?_
      rintro y (⟨sm, rfl, hg⟩ | ⟨rfl, hno⟩)
      · rw [if_neg (by simp)]; exact tail sm hg
      · rw [if_pos (by simp)]; exact bad fun l e' hg => hno _ (hE2 l e' hg)
    rw [if_neg (by omega)]
    by_cases c4 : e = 4
    · subst c4
      rw [if_pos (show ((4 : Nat) : Int) = 4 from rfl)]
      refine Gets.bind (f_pack_Take_post (m := ((M - cnt : Nat) : Int)) ht r1 r2 (by omega)) ?_
      rintro y (⟨sm, rfl, hg⟩ | ⟨rfl, hno⟩)
      · rw [if_neg (by simp)]; exact tail sm hg
      · rw [if_pos (by simp)]; exact bad fun l e' hg => hno _ (hE2 l e' hg)
    rw [if_neg (by omega)]
    obtain rfl : e = 5 := by omega
    rw [if_pos (show ((5 : Nat) : Int) = 5 from rfl)]
    refine Gets.bind (f_delta_Take_post (m := ((M - cnt : Nat) : Int)) ht r1 r2 (by omega)) ?_
    rintro y (⟨sm, rfl, hg⟩ | ⟨rfl, hno⟩)
    · rw [if_neg (by simp)]; exact tail sm hg
    · rw [if_pos (by simp)]; exact bad fun l e' hg => hno _ (hE2 l e' hg)
  · intro J hJ
    obtain ⟨f, hf1, hf2, _⟩ := hb.get (i := 1) (by omega)
    have e1 : ((1:Int)).toNat = 1 := rfl
    have e2 : ((2:Int)).toNat = 2 := rfl
    have hmany : IntKind.i64.wrap ((IntKind.i64.wrap ((M : Int) + (7:Int))).tdiv (8:Int)) = (((M + 7) / 8 : Nat) : Int) := by
      rw [show ((M : Int) + 7) = ((M + 7 : Nat) : Int) by omega, wrapI64 (by omega), show ((8 : Int)) = ((8 : Nat) : Int) from rfl, tdiv_nat, wrapI64 (by omega)]
    simp only [hmany, Int.toNat_natCast, List.take_length, e1, e2, e0, List.drop_zero, atI_pos (show (0:Int) ≤ 1 by omega) (show (1:Int) < (b.length : Int) by omega), hf1]
    have plain : (∀ l e', GoodC t (M : Int) b l e' → l.any isN = false) → Gets (J (b.drop 2, List.replicate M false)) (TakeC t (M : Int) b) := by
      intro h
      refine hJ _ ⟨hb.drop _, by simp <;> omega, by simp <;> omega, fun l e' hg => ?_⟩
      have h7 := (good_head hg).2.2.2
      have h8 := h l e' hg
      rw [h8] at h7
      have h9 := any_map_false h8
      have := hg.2.2.1
      dsimp only
      rw [h9, h7, hE l e' hg]
      exact ⟨by congr 1; omega, rfl⟩
    by_cases h7 : f = 1
    · subst h7
      rw [if_pos (by simp)]
      by_cases h8 : (M + 7) / 8 ≤ (b.drop 2).length
      · rw [if_pos (by simp only [decide_eq_true_eq]; omega), if_pos (by omega), f_nulls_Take_eq ((hb.drop _).take _) (by simp <;> omega) (by omega)]
        simp only [Option.bind_some]
        rw [if_pos (by omega)]
        refine hJ _ ⟨(hb.drop _).drop _, by simp <;> omega, ?_, fun l e' hg => ?_⟩
        · unfold takeNulls
          split
          · dsimp only; rw [nullL_len]; simp <;> omega
          · simp
        · have h10 := (good_head hg).2.2.1
          rw [hf1] at h10
          have h11 : l.any isN = true := by
            cases h : l.any isN with
            | true => rfl
            | false => rw [h] at h10; simp at h10
          have h12 := (good_head hg).2.2.2
          rw [h11, if_pos rfl] at h12
          have h13 := nullB_len (l.map isN)
          rw [List.length_map] at h13
          have h14 := hg.2.2.1
          have hlM : l.length = M := by omega
          rw [hlM] at h13
          have h15 : (b.drop 2).take ((M + 7) / 8) = nullB (l.map isN) := by rw [h12, List.take_left' h13]
          have h16 : (b.drop 2).drop ((M + 7) / 8) = encB e' t (someV l) := by rw [h12, List.drop_left' h13]
          dsimp only
          rw [h15, h16, hE l e' hg]
          refine ⟨?_, rfl⟩
          have h17 := nullL_back (l.map isN)
          rw [List.length_map, hlM] at h17
          unfold takeNulls
          simp only [Int.toNat_natCast]
          rw [h17, if_pos ⟨by omega, by omega, h13, rfl⟩]
      · rw [if_neg (by simp only [decide_eq_true_eq]; omega)]
        refine plain fun l e' hg => ?_
        exfalso
        have h10 := (good_head hg).2.2.1
        rw [hf1] at h10
        have h11 : l.any isN = true := by
          cases h : l.any isN with
          | true => rfl
          | false => rw [h] at h10; simp at h10
        have h12 := (good_head hg).2.2.2
        rw [h11, if_pos rfl] at h12
        have h13 := nullB_len (l.map isN)
        rw [List.length_map] at h13
        have h14 := hg.2.2.1
        rw [h12, List.length_append] at h8
        omega
    · rw [if_neg (by simp <;> omega)]
      refine plain fun l e' hg => ?_
      have h10 := (good_head hg).2.2.1
      rw [hf1] at h10
      cases h : l.any isN with
      | false => rfl
      | true => rw [h] at h10; simp at h10; omega

end Go.Rb.R4

namespace Go.Rb.R4
open Go.Rb

theorem nine {v : Int} (h : 0 ≤ v ∧ v < 9) : v = 0 ∨ v = 1 ∨ v = 2 ∨ v = 3 ∨ v = 4 ∨ v = 5 ∨ v = 6 ∨ v = 7 ∨ v = 8 := by omega

theorem picks_Num_post {n : Nat} {b : List Int} {at' : Int} (hb : Bytes b) (hl : b.length ≤ 60) (ha : 0 ≤ at' ∧ at' ≤ b.length) :
    Gets (f_play_Picks_Num n ((b, at', ()), (9:Int), ())) fun y => ∃ v a, y = ((v, ()), ((b, a, ()), ())) ∧ (0 ≤ v ∧ v < 9) ∧ 0 ≤ a ∧ a ≤ b.length := by
  unfold f_play_Picks_Num
  dsimp only
  by_cases h : (b.length : Int) ≤ at'
  · rw [if_pos (by simpa using h)]
    exact Gets.some ⟨_, _, rfl, by omega, ha⟩
  · rw [if_neg (by simpa using h), wrap_i64 (x := at' + 1) (by omega) (by omega), wrap_i64 (x := at' + 1 - 1) (by omega) (by omega), show at' + 1 - 1 = at' by omega]
    refine Gets.atI (by omega) (by omega) ?_
    rw [if_neg (by decide)]
    have hx : b.getD at'.toNat 0 ∈ b := by
      rw [getD_lt' (show at'.toNat < b.length by omega)]
      exact List.getElem_mem _
    have h2 := hb _ hx
    rw [wrap_i64 (by omega) (by omega)]
    refine Gets.some ⟨_, _, rfl, ⟨?_, ?_⟩, by omega, by omega⟩
    · exact Int.tmod_nonneg _ h2.1
    · exact Int.tmod_lt_of_pos _ (by omega)

/-- A value drawn: one of the kind that is asked for, or nothing. -/
theorem picks_Value_post {n : Nat} {b : List Int} {at' k : Int} (hb : Bytes b) (hl : b.length ≤ 60) (ha : 0 ≤ at' ∧ at' ≤ b.length) :
    Gets (f_play_Picks_Value n ((b, at', ()), k, ())) fun y => ∃ v a, y = ((v, ()), ((b, a, ()), ())) ∧ (okV v ∧ (1 ≤ k ∧ k ≤ 4 → fitsV k v = true)) ∧ 0 ≤ a ∧ a ≤ b.length := by
  have v0 : okV ((0:Int), (0:Int), [], ()) ∧ (1 ≤ k ∧ k ≤ 4 → fitsV k ((0:Int), (0:Int), [], ()) = true) := by
    refine ⟨by unfold okV; decide, fun h => ?_⟩
    have : k = 1 ∨ k = 2 ∨ k = 3 ∨ k = 4 := by omega
    rcases this with rfl | rfl | rfl | rfl <;> decide
  unfold f_play_Picks_Value
  refine Gets.bind (picks_Num_post hb hl ha) ?_
  rintro _ ⟨v, a, rfl, hv, ha2⟩
  refine Gets.join (I := fun s => s = ((b, a, ()), 0, 0, [], ())) ?_ ?_
  · rintro _ rfl
    dsimp only
    by_cases h1 : k = 1
    · subst h1
      rw [if_pos (by simp)]
      rcases nine hv with rfl | rfl | rfl | rfl | rfl | rfl | rfl | rfl | rfl <;>
        exact Gets.atI (by decide) (by decide) (Gets.some ⟨_, _, rfl, ⟨by unfold okV; decide, fun _ => by decide⟩, ha2⟩)
    rw [if_neg (by simpa using h1)]
    by_cases h2 : k = 2
    · subst h2
      rw [if_pos (by simp)]
      rcases nine hv with rfl | rfl | rfl | rfl | rfl | rfl | rfl | rfl | rfl <;>
        exact Gets.atI (by decide) (by decide) (Gets.some ⟨_, _, rfl, ⟨by unfold okV; decide, fun _ => by decide⟩, ha2⟩)
    rw [if_neg (by simpa using h2)]
    by_cases h3 : k = 3
    · subst h3
      rw [if_pos (by simp)]
      rcases nine hv with rfl | rfl | rfl | rfl | rfl | rfl | rfl | rfl | rfl <;>
        exact Gets.some ⟨_, _, rfl, ⟨by unfold okV; decide, fun _ => by decide⟩, ha2⟩
    rw [if_neg (by simpa using h3)]
    have h4 : ∀ v, fitsV 4 v = true → 1 ≤ k ∧ k ≤ 4 → fitsV k v = true := fun v h hk => by
      obtain rfl : k = 4 := by omega
      exact h
    rcases nine hv with rfl | rfl | rfl | rfl | rfl | rfl | rfl | rfl | rfl <;>
      exact Gets.atI (by decide) (by decide) (Gets.some ⟨_, _, rfl, ⟨by unfold okV; decide, h4 _ (by decide)⟩, ha2⟩)
  · intro J hJ
    dsimp only
    by_cases h0 : v = 0
    · rw [if_pos (by simpa using h0)]
      unfold f_play_Picks_Over
      simp only [Option.bind_some]
      cases hd : (!decide ((b.length : Int) ≤ a)) with
      | true =>
        rw [if_pos rfl]
        exact Gets.some ⟨_, _, rfl, v0, ha2⟩
      | false =>
        rw [if_neg Bool.false_ne_true]
        exact hJ _ rfl
    · rw [if_neg (by simpa using h0)]
      exact hJ _ rfl

theorem col_post {n : Nat} {b : List Int} {k m : Int} (hb : Bytes b) (hl : b.length ≤ 60) (hm : 0 ≤ m ∧ m ≤ 20) (hn : 100 ≤ n) :
    Gets (f_law10_col n (b, k, m, ())) fun y => ∃ l : List Vl, y = ((l, ()), ()) ∧ l.length ≤ 20 ∧ (∀ v, v ∈ l → okV v) ∧ (1 ≤ k ∧ k ≤ 4 → ∀ v, v ∈ l → fitsV k v = true) := by
  have hro := room_eq
  unfold f_law10_col f_play_Made
  simp only [Option.bind_some]
  refine Gets.iter (I := fun s => ∃ a l i, s = ((b, a, ()), l, i) ∧ (0 ≤ a ∧ a ≤ b.length) ∧ 0 ≤ i ∧ i ≤ m ∧ (l.length : Int) ≤ i ∧ (∀ v : Vl, v ∈ l → okV v) ∧ (1 ≤ k ∧ k ≤ 4 → ∀ v, v ∈ l → fitsV k v = true))
    (μ := fun s => (m - s.2.2).toNat) ⟨_, _, _, rfl, by omega, by omega, by omega, by simp, by simp, by simp⟩ (by simp <;> omega) ?_
  rintro rec _ ⟨a, l, i, rfl, h1, h2, h3, h4, h5, h6⟩ hrec
  dsimp only
  by_cases hi : i < m
  · rw [if_pos (by simpa using hi), wrap_i64 (x := i + 1) (by omega) (by omega)]
    refine Gets.bind (picks_Value_post hb hl h1) ?_
    rintro _ ⟨v, a2, rfl, ⟨hv1, hv2⟩, ha2⟩
    dsimp only
    rw [if_pos (by simp <;> omega)]
    refine hrec _ ⟨_, _, _, rfl, ha2, by omega, by omega, by simp <;> omega, ?_, ?_⟩ (by simp <;> omega)
    · intro x hx
      rcases List.mem_append.1 hx with hx | hx
      · exact h5 x hx
      · simp only [List.mem_singleton] at hx; subst hx; exact hv1
    · intro hk x hx
      rcases List.mem_append.1 hx with hx | hx
      · exact h6 hk x hx
      · simp only [List.mem_singleton] at hx; subst hx; exact hv2 hk
  · rw [if_neg (by simpa using hi)]
    exact Gets.some ⟨_, rfl, by omega, h5, h6⟩

theorem SameValues_self {n : Nat} {l : List Vl} (hl : l.length ≤ 1000) (hn : 2000 ≤ n) : f_ref1_SameValues n (l, l, ()) = some ((true, ()), ()) := by
  unfold f_ref1_SameValues
  dsimp only
  rw [if_neg (by simp)]
  refine iter_run' (st := fun i => (i : Int)) l.length rfl ?_ ?_ (by omega)
  · intro rec i hi
    rw [if_pos (by simp <;> omega), atI_nat hi, atI_nat hi, if_neg (by simp), wrap_succ (by omega)]
  · intro rec
    rw [if_neg (by simp)]

theorem begun_true : f_law10_begun 1000000 () = some ((true, ()), ()) := by decide +kernel

theorem Bytes.set {b : List Int} (h : Bytes b) (i : Nat) {x : Int} (hx : 0 ≤ x ∧ x ≤ 255) : Bytes (b.set i x) := by
  intro y hy
  rcases List.mem_or_eq_of_mem_set hy with hy | rfl
  · exact h y hy
  · exact hx

end Go.Rb.R4
