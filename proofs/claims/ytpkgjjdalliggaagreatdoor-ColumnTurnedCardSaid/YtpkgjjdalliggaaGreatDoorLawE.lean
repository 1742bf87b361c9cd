/- Plain law: columns one by one, by runs, by few bits, by steps, as the program takes them. Own work. -/
import Derived.Test.YtpkgjjdalliggaaGreatDoorLawD
set_option autoImplicit false
set_option linter.unusedVariables false
set_option linter.unusedSimpArgs false
namespace Go.Rb.R4
open Go.Rb
def a4t (e t m : Int) (b : List Int) (l : List Vl) : Prop := 0 ≤ m ∧ m ≤ 1000 ∧ (l.length : Int) = m ∧ a6x e t = true ∧ a1k t l = true ∧ (∀ v, v ∈ l → okV v) ∧ encB e t l = b
theorem a4t.uniq {e t m : Int} {b : List Int} {l l' : List Vl} (h : a4t e t m b l) (h' : a4t e t m b l') : l = l' := by
 obtain ⟨_, _, g3, g4, g5, g6, g7⟩ := h
 obtain ⟨_, _, k3, k4, k5, k6, k7⟩ := h'
 exact (c0h g4 g5 g6 k5 k6 (by omega) (s := []) (by rw [List.append_nil, g7, k7])).1
def d9r (e t m : Int) (b : List Int) (y : (List Vl × Bool × Unit) × Unit) : Prop := (∃ l, y = ((l, true, ()), ()) ∧ a4t e t m b l) ∨ (y = (([], false, ()), ()) ∧ ∀ l, ¬ a4t e t m b l)
def d4h (err : List Int → UV) (e t m : Int) (b : List Int) (y : (List Vl × UV × Unit) × Unit) : Prop := (∃ l, y = ((l, UV.nil, ()), ()) ∧ a4t e t m b l) ∨ ((∃ msg, y = (([], err msg, ()), ())) ∧ ∀ l, ¬ a4t e t m b l)
theorem d5s {t m : Int} {b : List Int} {l : List Vl} (h : a4t 1 t m b l) : 0 ≤ m ∧ m ≤ 1000 ∧ (l.length : Int) = m ∧ a1k t l = true ∧ (∀ v, v ∈ l → okV v) ∧ l.flatMap oneV = b := by
 obtain ⟨g1, g2, g3, g4, g5, g6, g7⟩ := h
 exact ⟨g1, g2, g3, g5, g6, by simpa [encB] using g7⟩
theorem d6b {t m : Int} {b : List Int} {l : List Vl} (h : a4t 2 t m b l) : 0 ≤ m ∧ m ≤ 1000 ∧ (l.length : Int) = m ∧ a1k t l = true ∧ (∀ v, v ∈ l → okV v) ∧ rleB l = b := by
 obtain ⟨g1, g2, g3, g4, g5, g6, g7⟩ := h
 exact ⟨g1, g2, g3, g5, g6, by simpa [encB] using g7⟩
theorem f5r {t m : Int} {b : List Int} {l : List Vl} : a4t 3 t m b l ↔ Good t m b l := by
 constructor
 ·rintro ⟨g1, g2, g3, g4, g5, g6, g7⟩
  exact ⟨g1, g2, g3, g5, g6, by simpa [encB] using g7⟩
 ·rintro ⟨g1, g2, g3, g5, g6, g7⟩
  exact ⟨g1, g2, g3, by simp [a6x], g5, g6, by simpa [encB] using g7⟩
theorem d5g {t m : Int} {b : List Int} {l : List Vl} (h : a4t 4 t m b l) : 0 ≤ m ∧ m ≤ 1000 ∧ (l.length : Int) = m ∧ t ≤ 3 ∧ a1k t l = true ∧ (∀ v, v ∈ l → okV v) ∧ b7c l = b := by
 obtain ⟨g1, g2, g3, g4, g5, g6, g7⟩ := h
 exact ⟨g1, g2, g3, by simpa [a6x] using g4, g5, g6, by simpa [encB] using g7⟩
theorem d3j {t m : Int} {b : List Int} {l : List Vl} (h : a4t 5 t m b l) : 0 ≤ m ∧ m ≤ 1000 ∧ (l.length : Int) = m ∧ t ≤ 2 ∧ a1k t l = true ∧ (∀ v, v ∈ l → okV v) ∧ a6g 0 l = b := by
 obtain ⟨g1, g2, g3, g4, g5, g6, g7⟩ := h
 exact ⟨g1, g2, g3, by simpa [a6x] using g4, g5, g6, by simpa [encB] using g7⟩
theorem b4x {t : Int} {v : Vl} {s : List Int} {k : Nat} {v' : Vl} (h : a0r t v = true) (hv : okV v) (hf : a3s t (oneV v ++ s) = some (v', k)) : v' = v ∧ (oneV v ++ s).drop k = s := by
 rw [b1o h hv s] at hf
 simp only [Option.some.injEq, Prod.mk.injEq] at hf
 obtain ⟨rfl, rfl⟩ := hf
 exact ⟨rfl, by simp⟩
theorem c2u {n : Nat} {t m : Int} {b : List Int} (ht : -9223372036854775808 ≤ t ∧ t ≤ 9223372036854775807) (hb : a3o b) (hl : b.length < 1000000) (hn : 70000 ≤ n) :
  Gets (b0g n (t, m, b, ())) (d9r 1 t m b) := by
 have hro := a1t
 have key : Gets (a9v n (t, m, b, ())) (d4h errA 1 t m b) := by
  have bad : ∀ msg, (∀ l, ¬ a4t 1 t m b l) → Gets (some ((([] : List Vl), errA msg, ()), ())) (d4h errA 1 t m b) := fun msg h => Gets.some (.inr ⟨⟨msg, rfl⟩, h⟩)
  unfold a9v
  dsimp only
  by_cases h1 : m < 0
  ·rw [if_pos (by simpa using h1)]
   exact bad _ fun l hg => by have := hg.1; omega
  rw [if_neg (by simpa using h1)]
  by_cases h2 : 1000 < m
  ·rw [if_pos (by simpa using h2)]
   exact bad _ fun l hg => by have := hg.2.1; omega
  rw [if_neg (by simpa using h2)]
  obtain ⟨M, rfl⟩ : ∃ M : Nat, m = (M : Int) := ⟨_, (Int.toNat_of_nonneg (by omega)).symm⟩
  refine Gets.iter (I := fun s : List Vl × List Int × Int => ∃ (vs : List Vl) (rest : List Int), s = (vs, rest, (vs.length : Int)) ∧ vs.length ≤ M ∧ a3o rest ∧ rest.length < 1000000 ∧ (∀ v, v ∈ vs → okV v) ∧ ∀ l, a4t 1 t (M : Int) b l → vs = l.take vs.length ∧ rest = (l.drop vs.length).flatMap oneV)
   (μ := fun s => M - s.1.length) ⟨[], b, rfl, by simp, hb, hl, by simp, fun l hg => ⟨by simp, by simpa using (d5s hg).2.2.2.2.2.symm⟩⟩ (by simp <;> omega) ?_
  rintro rec _ ⟨vs, rest, rfl, g1, g2, g3, g4, g5⟩ hrec
  dsimp only
  by_cases h3 : vs.length < M
  ·rw [if_pos (by simp <;> omega)]
   refine Gets.bind (c1i (n := n) (t := t) g2 g3 (by omega)) fun y hy => ?_
   have hgood : ∀ l, a4t 1 t (M : Int) b l → ∃ v r, rest = oneV v ++ r.flatMap oneV ∧ a0r t v = true ∧ okV v ∧ l.drop vs.length = v :: r := by
    intro l hg
    obtain ⟨_, e2⟩ := g5 l hg
    obtain ⟨_, _, q3, q4, q5, _⟩ := d5s hg
    have hlt : vs.length < l.length := by omega
    have e3 := List.drop_eq_getElem_cons hlt
    rw [e3, List.flatMap_cons] at e2
    exact ⟨l[vs.length], _, e2, (a2x q4).2.2 _ (List.getElem_mem _), q5 _ (List.getElem_mem _), e3⟩
   unfold b8i at hy
   cases hf : a3s t rest with
   | none =>
    rw [hf] at hy
    obtain ⟨v, msg, rfl⟩ := hy
    dsimp only
    rw [if_pos (by simp [errA])]
    refine bad _ fun l hg => ?_
    obtain ⟨v, r, e1, e2, e3, _⟩ := hgood l hg
    rw [e1, b1o e2 e3] at hf
    cases hf
   | some q =>
    obtain ⟨v, k⟩ := q
    rw [hf] at hy
    subst hy
    obtain ⟨q1, q2, q3, q4⟩ := b5c ht g2 hf
    dsimp only
    rw [if_neg (by simp), if_pos (by simp <;> omega), if_pos (by omega)]
    simp only [Int.toNat_natCast, List.take_length]
    rw [a0f (by omega)]
    refine hrec _ ⟨vs ++ [v], rest.drop k, by simp, by simp <;> omega, g2.drop _, by simp <;> omega, ?_, fun l hg => ?_⟩ (by simp <;> omega)
    ·intro x hx
     rcases List.mem_append.1 hx with hx | hx
     ·exact g4 x hx
     ·simp at hx; subst hx; exact q1
    ·obtain ⟨v', r, e1, e2, e3, e4⟩ := hgood l hg
     obtain ⟨e5, _⟩ := g5 l hg
     rw [e1] at hf
     obtain ⟨rfl, e6⟩ := b4x e2 e3 hf
     have hlt : vs.length < l.length := by
      rcases Nat.lt_or_ge vs.length l.length with h | h
      ·exact h
      ·rw [List.drop_eq_nil_iff.2 h] at e4; cases e4
     have e7 := List.drop_eq_getElem_cons hlt
     rw [e4] at e7
     obtain ⟨e8, e9⟩ := List.cons.inj e7
     rw [e1, e6, List.length_append, List.length_singleton, ← e9, List.take_succ_eq_append_getElem hlt, ← e5, e8]
     exact ⟨rfl, rfl⟩
  ·have hM : vs.length = M := by omega
   rw [if_neg (by simp <;> omega), c0a g4 (by omega) (by omega)]
   simp only [Option.bind_some]
   have huniq : ∀ l, a4t 1 t (M : Int) b l → vs = l := by
    intro l hg
    have e1 := (g5 l hg).1
    have q3 := (d5s hg).2.2.1
    rwa [List.take_of_length_le (by omega)] at e1
   cases hr : a1k t vs with
   | false =>
    rw [if_pos (by simp)]
    refine bad _ fun l hg => ?_
    have := huniq l hg
    subst this
    rw [(d5s hg).2.2.2.1] at hr
    cases hr
   | true =>
    rw [if_neg (by simp)]
    unfold a0j
    simp only [Option.bind_some, if_true]
    by_cases hq : vs.flatMap oneV = b
    ·rw [if_neg (by simp [hq])]
     exact Gets.some (.inl ⟨vs, rfl, by omega, by omega, by omega, by simp [a6x], hr, g4, by simpa [encB] using hq⟩)
    ·rw [if_pos (by simp [hq])]
     refine bad _ fun l hg => ?_
     have := huniq l hg
     subst this
     exact hq (d5s hg).2.2.2.2.2
 unfold b0g
 refine Gets.bind key ?_
 rintro y (⟨l, rfl, hg⟩ | ⟨⟨msg, rfl⟩, hno⟩)
 ·exact Gets.some (.inl ⟨l, rfl, hg⟩)
 ·exact Gets.some (.inr ⟨rfl, hno⟩)
theorem c7s {n : Nat} {t m : Int} {b : List Int} (ht : -9223372036854775808 ≤ t ∧ t ≤ 9223372036854775807) (hb : a3o b) (hl : b.length < 1000000) (hn : 1000000 ≤ n) :
  Gets (b2v n (t, m, b, ())) (d9r 2 t m b) := by
 have hro := a1t
 have key : Gets (b3a n (t, m, b, ())) (d4h errB 2 t m b) := by
  have bad : ∀ msg, (∀ l, ¬ a4t 2 t m b l) → Gets (some ((([] : List Vl), errB msg, ()), ())) (d4h errB 2 t m b) := fun msg h => Gets.some (.inr ⟨⟨msg, rfl⟩, h⟩)
  unfold b3a
  dsimp only
  by_cases h1 : m < 0
  ·rw [if_pos (by simpa using h1)]
   exact bad _ fun l hg => by have := hg.1; omega
  rw [if_neg (by simpa using h1)]
  by_cases h2 : 1000 < m
  ·rw [if_pos (by simpa using h2)]
   exact bad _ fun l hg => by have := hg.2.1; omega
  rw [if_neg (by simpa using h2)]
  obtain ⟨M, rfl⟩ : ∃ M : Nat, m = (M : Int) := ⟨_, (Int.toNat_of_nonneg (by omega)).symm⟩
  refine Gets.iter (I := fun s : List Vl × List Int => ∃ (vs : List Vl) (rest : List Int), s = (vs, rest) ∧ vs.length ≤ M ∧ a3o rest ∧ rest.length < 1000000 ∧ (∀ v, v ∈ vs → okV v) ∧ ∀ l, a4t 2 t (M : Int) b l → vs = l.take vs.length ∧ rest = rleB (l.drop vs.length))
   (μ := fun s => s.2.length) ⟨[], b, rfl, by simp, hb, hl, by simp, fun l hg => ⟨by simp, by simpa using (d6b hg).2.2.2.2.2.symm⟩⟩ (by simp <;> omega) ?_
  rintro rec _ ⟨vs, rest, rfl, g1, g2, g3, g4, g5⟩ hrec
  dsimp only
  by_cases h3 : 0 < rest.length
  ·rw [if_pos (by simp <;> omega), a5z g2 g3 (by omega)]
   simp only [Option.bind_some]
   have hgood : ∀ l, a4t 2 t (M : Int) b l → ∃ v r, rest = putN (1 + runN v r) ++ (oneV v ++ rleB (r.drop (runN v r))) ∧ a0r t v = true ∧ okV v ∧ l.drop vs.length = v :: r ∧ vs.length + (1 + runN v r) ≤ M := by
    intro l hg
    obtain ⟨_, e2⟩ := g5 l hg
    obtain ⟨_, _, q3, q4, q5, _⟩ := d6b hg
    have hlt : vs.length < l.length := by
     rcases Nat.lt_or_ge vs.length l.length with h | h
     ·exact h
     ·rw [List.drop_eq_nil_iff.2 h, b9k] at e2; rw [e2] at h3; simp at h3
    have e3 := List.drop_eq_getElem_cons hlt
    rw [e3, b0w] at e2
    have e4 := c2o l[vs.length] (l.drop (vs.length + 1))
    have e5 : (l.drop (vs.length + 1)).length = l.length - (vs.length + 1) := by simp
    exact ⟨l[vs.length], _, e2, (a2x q4).2.2 _ (List.getElem_mem _), q5 _ (List.getElem_mem _), e3, by omega⟩
   have hsz : ∀ {v r}, vs.length + (1 + runN v r) ≤ M → 1 + runN v r < 18446744073709551616 := by intro v r h; omega
   cases htk : a4e rest with
   | none =>
    dsimp only
    rw [if_pos (by simp)]
    refine bad _ fun l hg => ?_
    obtain ⟨v, r, e1, _, _, _, e5⟩ := hgood l hg
    rw [e1, a5w _ _ (hsz e5)] at htk
    cases htk
   | some q =>
    obtain ⟨u, k⟩ := q
    have hT := a2y g2 htk
    have hK := b1p g2 htk
    have hk1 := b6o u
    dsimp only
    have hw : IntKind.u64.wrap (IntKind.i64.wrap ((M : Int) - (vs.length : Int))) = ((M - vs.length : Nat) : Int) := by
     rw [show ((M : Int) - (vs.length : Int)) = ((M - vs.length : Nat) : Int) by omega, a0x (by omega), a2s (by omega)]
    rw [if_neg (by simp), hw]
    by_cases h4 : M - vs.length < u
    ·rw [if_pos (by simp <;> omega)]
     refine bad _ fun l hg => ?_
     obtain ⟨v, r, e1, _, _, _, e5⟩ := hgood l hg
     rw [e1, a5w _ _ (hsz e5)] at htk
     simp only [Option.some.injEq, Prod.mk.injEq] at htk
     omega
    ·rw [if_neg (by simp <;> omega), if_pos (by omega)]
     simp only [Int.toNat_natCast, List.take_length]
     refine Gets.bind (c5h (n := n) (t := t) (g2.drop k) (by simp <;> omega) (by omega)) fun y hy => ?_
     have hgood2 : ∀ l, a4t 2 t (M : Int) b l → ∃ v r, u = 1 + runN v r ∧ rest.drop k = oneV v ++ rleB (r.drop (runN v r)) ∧ a0r t v = true ∧ okV v ∧ l.drop vs.length = v :: r := by
      intro l hg
      obtain ⟨v, r, e1, e2, e3, e4, e5⟩ := hgood l hg
      have htk' := htk
      rw [e1, a5w _ _ (hsz e5)] at htk'
      simp only [Option.some.injEq, Prod.mk.injEq] at htk'
      refine ⟨v, r, htk'.1.symm, ?_, e2, e3, e4⟩
      rw [e1, ← htk'.2]; simp
     unfold b7w at hy
     cases hf : a3s t (rest.drop k) with
     | none =>
      rw [hf] at hy
      obtain ⟨v, msg, rfl⟩ := hy
      dsimp only
      rw [if_pos (by simp [errB])]
      refine bad _ fun l hg => ?_
      obtain ⟨v, r, _, e1, e2, e3, _⟩ := hgood2 l hg
      rw [e1, b1o e2 e3] at hf
      cases hf
     | some q =>
      obtain ⟨v, k2⟩ := q
      rw [hf] at hy
      subst hy
      obtain ⟨q1, q2, q3, q4⟩ := b5c ht (g2.drop k) hf
      rw [List.length_drop] at q3
      dsimp only
      rw [if_neg (by simp), a0x (x := u) (by omega), d9j (by omega) (by omega)]
      simp only [Option.bind_some]
      have hw2 : IntKind.i64.wrap ((k : Int) + (k2 : Int)) = ((k + k2 : Nat) : Int) := by
       rw [show ((k : Int) + (k2 : Int)) = ((k + k2 : Nat) : Int) by omega, a0x (by omega)]
      rw [if_pos (by simp <;> omega), hw2, if_pos (by omega)]
      simp only [Int.toNat_natCast]
      refine hrec _ ⟨vs ++ List.replicate u v, rest.drop (k + k2), rfl, by simp <;> omega, g2.drop _, by simp <;> omega, ?_, fun l hg => ?_⟩ (by simp <;> omega)
      ·intro x hx
       rcases List.mem_append.1 hx with hx | hx
       ·exact g4 x hx
       ·rw [List.eq_of_mem_replicate hx]; exact q1
      ·obtain ⟨v', r, e1, e2, e3, e4, e5⟩ := hgood2 l hg
       obtain ⟨e6, _⟩ := g5 l hg
       rw [e2] at hf
       obtain ⟨rfl, e7⟩ := b4x e3 e4 hf
       rw [← List.drop_drop, e2, e7]
       have hlen : (vs ++ List.replicate u v).length = vs.length + u := by simp
       have e8 : l.drop vs.length = List.replicate u v ++ r.drop (runN v r) := by
        rw [e5, e1, Nat.add_comm, List.replicate_succ, List.cons_append, ← b5o v r]
       have e9 : l.drop (vs.length + u) = r.drop (runN v r) := by
        rw [← List.drop_drop, e8, List.drop_left' (by simp)]
       rw [hlen, e9]
       refine ⟨?_, rfl⟩
       rw [List.take_add, ← e6, e8, List.take_left' (by simp)]
  ·have hrest : rest = [] := by
    cases rest with
    | nil => rfl
    | cons => simp at h3
   subst hrest
   rw [if_neg (by simp), c4i g4 (by omega) (by omega)]
   simp only [Option.bind_some]
   have huniq : ∀ l, a4t 2 t (M : Int) b l → vs = l := by
    intro l hg
    obtain ⟨e1, e2⟩ := g5 l hg
    have e3 : l.length ≤ vs.length := by
     rcases Nat.lt_or_ge vs.length l.length with h | h
     ·rw [List.drop_eq_getElem_cons h, b0w] at e2
      have := congrArg List.length e2
      have hp := b6o (1 + runN l[vs.length] (l.drop (vs.length + 1)))
      simp at this
      omega
     ·exact h
    rwa [List.take_of_length_le e3] at e1
   cases hr : a1k t vs with
   | false =>
    rw [if_pos (by simp)]
    refine bad _ fun l hg => ?_
    have := huniq l hg
    subst this
    rw [(d6b hg).2.2.2.1] at hr
    cases hr
   | true =>
    rw [if_neg (by simp)]
    by_cases hlm : vs.length = M
    rotate_left
    ·rw [if_pos (by simp <;> omega)]
     refine bad _ fun l hg => ?_
     have := huniq l hg
     subst this
     have := (d6b hg).2.2.1
     omega
    rw [if_neg (by simp <;> omega)]
    unfold a0j
    simp only [Option.bind_some, if_true]
    by_cases hq : rleB vs = b
    ·rw [if_neg (by simp [hq])]
     exact Gets.some (.inl ⟨vs, rfl, by omega, by omega, by omega, by simp [a6x], hr, g4, by simpa [encB] using hq⟩)
    ·rw [if_pos (by simp [hq])]
     refine bad _ fun l hg => ?_
     have := huniq l hg
     subst this
     exact hq (d6b hg).2.2.2.2.2
 unfold b2v
 refine Gets.bind key ?_
 rintro y (⟨l, rfl, hg⟩ | ⟨⟨msg, rfl⟩, hno⟩)
 ·exact Gets.some (.inl ⟨l, rfl, hg⟩)
 ·exact Gets.some (.inr ⟨rfl, hno⟩)
def errC (msg : List Int) : UV := UV.node a7c (.pair (.str msg) (.pair (UV.sent a3q) .unit))
def errF (msg : List Int) : UV := UV.node a7z (.pair (.str msg) (.pair (UV.sent a4c) .unit))
theorem d3e {t : Int} {v : Vl} (h : a0r t v = true) (ht : t ≤ 3) : v = (t, v.2.1, [], ()) := by
 obtain ⟨h1, h2⟩ := a2n h
 obtain ⟨a, b, c, u⟩ := v
 dsimp only at h1 h2
 subst h1
 have hc : c = [] := by
  rcases h2 with h2 | h2 | h2 | h2 | h2
  ·exact h2.2.2
  ·exact h2.2.2.2
  ·exact h2.2
  ·exact h2.2.2
  ·omega
 subst hc
 rfl
theorem c3p {n : Nat} {t m : Int} {b : List Int} (ht : -9223372036854775808 ≤ t ∧ t ≤ 9223372036854775807) (hb : a3o b) (hl : b.length < 1000000) (hn : 70000 ≤ n) :
  Gets (b0f n (t, m, b, ())) (d9r 5 t m b) := by
 have hro := a1t
 have key : Gets (a9z n (t, m, b, ())) (d4h errF 5 t m b) := by
  have bad : ∀ msg, (∀ l, ¬ a4t 5 t m b l) → Gets (some ((([] : List Vl), errF msg, ()), ())) (d4h errF 5 t m b) := fun msg h => Gets.some (.inr ⟨⟨msg, rfl⟩, h⟩)
  unfold a9z
  dsimp only
  by_cases h1 : m < 0
  ·rw [if_pos (by simpa using h1)]
   exact bad _ fun l hg => by have := hg.1; omega
  rw [if_neg (by simpa using h1)]
  by_cases h2 : 1000 < m
  ·rw [if_pos (by simpa using h2)]
   exact bad _ fun l hg => by have := hg.2.1; omega
  rw [if_neg (by simpa using h2)]
  obtain ⟨M, rfl⟩ : ∃ M : Nat, m = (M : Int) := ⟨_, (Int.toNat_of_nonneg (by omega)).symm⟩
  refine Gets.iter (I := fun s : List Vl × List Int × Int × Int => ∃ (vs : List Vl) (rest : List Int) (last : Int), s = (vs, rest, IntKind.u64.wrap last, (vs.length : Int)) ∧ (-9223372036854775808 ≤ last ∧ last ≤ 9223372036854775807) ∧ vs.length ≤ M ∧ a3o rest ∧ rest.length < 1000000 ∧ (∀ v, v ∈ vs → okV v) ∧
    ∀ l, a4t 5 t (M : Int) b l → vs = l.take vs.length ∧ rest = a6g last (l.drop vs.length))
   (μ := fun s => M - s.1.length) ⟨[], b, 0, rfl, by omega, by simp, hb, hl, by simp, fun l hg => ⟨by simp, by simpa using (d3j hg).2.2.2.2.2.2.symm⟩⟩ (by simp <;> omega) ?_
  rintro rec _ ⟨vs, rest, last, rfl, g0, g1, g2, g3, g4, g5⟩ hrec
  dsimp only
  by_cases h3 : vs.length < M
  ·rw [if_pos (by simp <;> omega), a5z g2 g3 (by omega)]
   simp only [Option.bind_some]
   have hgood : ∀ l, a4t 5 t (M : Int) b l → ∃ (hlt : vs.length < l.length), rest = putN (zig (c3q last l[vs.length].2.1)) ++ a6g l[vs.length].2.1 (l.drop (vs.length + 1)) ∧ a0r t l[vs.length] = true ∧ okV l[vs.length] ∧ t ≤ 2 := by
    intro l hg
    obtain ⟨_, e2⟩ := g5 l hg
    obtain ⟨_, _, q3, q0, q4, q5, _⟩ := d3j hg
    have hlt : vs.length < l.length := by omega
    rw [List.drop_eq_getElem_cons hlt] at e2
    exact ⟨hlt, e2, (a2x q4).2.2 _ (List.getElem_mem _), q5 _ (List.getElem_mem _), q0⟩
   cases htk : a4e rest with
   | none =>
    dsimp only
    rw [if_pos (by simp)]
    refine bad _ fun l hg => ?_
    obtain ⟨hlt, e1, _⟩ := hgood l hg
    rw [e1, a5w _ _ (a8h _ _)] at htk
    cases htk
   | some q =>
    obtain ⟨u, k⟩ := q
    have hT := a2y g2 htk
    have hK := b1p g2 htk
    dsimp only
    rw [if_neg (by simp), b2c hT.1]
    simp only [Option.bind_some]
    have hz := d7k hT.1
    have hval : IntKind.u64.wrap (IntKind.u64.wrap last + IntKind.u64.wrap (zag u)) = IntKind.u64.wrap (IntKind.i64.wrap (last + zag u)) := by
     rw [a2g, a2g, a2g, a2g, a8i]
     omega
    have hnew := b8s (last + zag u)
    rw [hval, d8d hnew, if_pos (by simp <;> omega), if_pos (by omega)]
    simp only [Int.toNat_natCast, List.take_length]
    rw [a0f (by omega)]
    refine hrec _ ⟨vs ++ [(t, IntKind.i64.wrap (last + zag u), [], ())], rest.drop k, IntKind.i64.wrap (last + zag u), by simp, hnew, by simp <;> omega, g2.drop _, by simp <;> omega, ?_, fun l hg => ?_⟩ (by simp <;> omega)
    ·intro x hx
     rcases List.mem_append.1 hx with hx | hx
     ·exact g4 x hx
     ·simp at hx; subst hx; exact ⟨ht, hnew, by simp, by simp⟩
    ·obtain ⟨hlt, e1, e2, e3, e4⟩ := hgood l hg
     obtain ⟨e5, _⟩ := g5 l hg
     have htk' := htk
     rw [e1, a5w _ _ (a8h _ _)] at htk'
     simp only [Option.some.injEq, Prod.mk.injEq] at htk'
     have e6 : IntKind.i64.wrap (last + zag u) = l[vs.length].2.1 := by
      rw [← htk'.1, b6p]; exact b9d e3.2.1
     have e7 := d3e e2 (by omega)
     rw [e6, ← e7, List.length_append, List.length_singleton, List.take_succ_eq_append_getElem hlt, ← e5]
     refine ⟨rfl, ?_⟩
     rw [e1, ← htk'.2]; simp
  ·have hM : vs.length = M := by omega
   rw [if_neg (by simp <;> omega), b9z g4 (by omega) (by omega)]
   simp only [Option.bind_some]
   have huniq : ∀ l, a4t 5 t (M : Int) b l → vs = l := by
    intro l hg
    have e1 := (g5 l hg).1
    have q3 := (d3j hg).2.2.1
    rwa [List.take_of_length_le (by omega)] at e1
   by_cases hr : t ≤ 2 ∧ a1k t vs = true
   rotate_left
   ·rw [if_neg hr, if_pos (by simp)]
    refine bad _ fun l hg => ?_
    have := huniq l hg
    subst this
    exact hr ⟨(d3j hg).2.2.2.1, (d3j hg).2.2.2.2.1⟩
   ·rw [if_pos hr, if_neg (by simp)]
    unfold a0j
    simp only [Option.bind_some]
    by_cases hq : a6g 0 vs = b
    ·rw [if_neg (by simp [hq])]
     exact Gets.some (.inl ⟨vs, rfl, by omega, by omega, by omega, by simp [a6x, hr.1], hr.2, g4, by simpa [encB] using hq⟩)
    ·rw [if_pos (by simp [hq])]
     refine bad _ fun l hg => ?_
     have := huniq l hg
     subst this
     exact hq (d3j hg).2.2.2.2.2.2
 unfold b0f
 refine Gets.bind key ?_
 rintro y (⟨l, rfl, hg⟩ | ⟨⟨msg, rfl⟩, hno⟩)
 ·exact Gets.some (.inl ⟨l, rfl, hg⟩)
 ·exact Gets.some (.inr ⟨rfl, hno⟩)
theorem d0x {t : Int} {l : List Vl} (hne : l ≠ []) (ht : t ≤ 3) (h : a1k t l = true) (hv : ∀ v, v ∈ l → okV v) : a4e (b7c l) = some (zig (a3w l), (putN (zig (a3w l))).length) ∧ (putN (zig (a3w l))).length < (b7c l).length ∧
  (b7c l).getD (putN (zig (a3w l))).length 0 = ((a3j (a1z l) : Nat) : Int) ∧ (b7c l).drop ((putN (zig (a3w l))).length + 1) = a7j (a1z l) (a3j (a1z l)) ∧
  b4a (a7j (a1z l) (a3j (a1z l))) (l.length : Int) ((a3j (a1z l) : Nat) : Int) = (a1z l, true, ()) ∨ ¬ l.length ≤ 1000 := by
 rcases Nat.lt_or_ge 1000 l.length with h1 | h1
 ·exact .inr (by omega)
 have hlr := b1j hv
 have hz := b4e hlr.1 hlr.2
 have hw := b3p hv
 refine .inl ?_
 rw [b1k hne]
 refine ⟨a5w _ _ hz, by simp, ?_, ?_, ?_⟩
 ·rw [List.getD_eq_getElem?_getD, List.getElem?_append_right (Nat.le_refl _), Nat.sub_self]; rfl
 ·rw [← List.drop_drop, List.drop_left]; rfl
 ·have hbb := b3v (c0i hv)
  rw [a3m] at hbb
  unfold b4a
  simp only [Int.toNat_natCast]
  rw [hbb, if_pos ⟨by omega, by omega, by omega, by omega, by rw [a4g, a3m], rfl⟩]
theorem c5i {n : Nat} {t m : Int} {b : List Int} (ht : -9223372036854775808 ≤ t ∧ t ≤ 9223372036854775807) (hb : a3o b) (hl : b.length < 1000000) (hn : 70000 ≤ n) :
  Gets (b1h n (t, m, b, ())) (d9r 4 t m b) := by
 have hro := a1t
 have key : Gets (b1n n (t, m, b, ())) (d4h errC 4 t m b) := by
  have bad : ∀ msg, (∀ l, ¬ a4t 4 t m b l) → Gets (some ((([] : List Vl), errC msg, ()), ())) (d4h errC 4 t m b) := fun msg h => Gets.some (.inr ⟨⟨msg, rfl⟩, h⟩)
  unfold b1n
  dsimp only
  by_cases h1 : m < 0
  ·rw [if_pos (by simpa using h1)]
   exact bad _ fun l hg => by have := hg.1; omega
  rw [if_neg (by simpa using h1)]
  by_cases h2 : 1000 < m
  ·rw [if_pos (by simpa using h2)]
   exact bad _ fun l hg => by have := hg.2.1; omega
  rw [if_neg (by simpa using h2)]
  obtain ⟨M, rfl⟩ : ∃ M : Nat, m = (M : Int) := ⟨_, (Int.toNat_of_nonneg (by omega)).symm⟩
  refine Gets.join (I := fun vs : List Vl => vs.length = M ∧ (∀ v, v ∈ vs → okV v) ∧ ∀ l, a4t 4 t (M : Int) b l → vs = l) ?_ ?_
  ·rintro vs ⟨hM, g4, huniq⟩
   rw [c2e g4 (by omega) (by omega)]
   simp only [Option.bind_some]
   by_cases hr : t ≤ 3 ∧ a1k t vs = true
   rotate_left
   ·rw [if_neg hr, if_pos (by simp)]
    refine bad _ fun l hg => ?_
    have := huniq l hg
    subst this
    exact hr ⟨(d5g hg).2.2.2.1, (d5g hg).2.2.2.2.1⟩
   ·rw [if_pos hr, if_neg (by simp)]
    unfold a0j
    simp only [Option.bind_some]
    by_cases hq : b7c vs = b
    ·rw [if_neg (by simp [hq])]
     exact Gets.some (.inl ⟨vs, rfl, by omega, by omega, by omega, by simp [a6x, hr.1], hr.2, g4, by simpa [encB] using hq⟩)
    ·rw [if_pos (by simp [hq])]
     refine bad _ fun l hg => ?_
     have := huniq l hg
     subst this
     exact hq (d5g hg).2.2.2.2.2.2
  ·intro J hJ
   by_cases h3 : M = 0
   ·subst h3
    rw [if_neg (by simp)]
    refine hJ _ ⟨rfl, by simp, fun l hg => ?_⟩
    have := (d5g hg).2.2.1
    cases l with
    | nil => rfl
    | cons => simp at this; omega
   have hparts : ∀ l, a4t 4 t (M : Int) b l → l.length = M ∧ t ≤ 3 ∧ (∀ v, v ∈ l → a0r t v = true ∧ okV v) ∧ a4e b = some (zig (a3w l), (putN (zig (a3w l))).length) ∧ (putN (zig (a3w l))).length < b.length ∧
     b.getD (putN (zig (a3w l))).length 0 = ((a3j (a1z l) : Nat) : Int) ∧ b.drop ((putN (zig (a3w l))).length + 1) = a7j (a1z l) (a3j (a1z l)) ∧
     b4a (a7j (a1z l) (a3j (a1z l))) (M : Int) ((a3j (a1z l) : Nat) : Int) = (a1z l, true, ()) := by
    intro l hg
    obtain ⟨_, _, q3, q4, q5, q6, q7⟩ := d5g hg
    have hlm : l.length = M := by omega
    have hne : l ≠ [] := by rintro rfl; simp at hlm; omega
    rcases d0x hne q4 q5 q6 with h | h
    ·rw [q7, hlm] at h
     exact ⟨hlm, q4, a5m q5 q6, h⟩
    ·omega
   rw [if_pos (by simp <;> omega), a5z hb hl (by omega)]
   simp only [Option.bind_some]
   cases htk : a4e b with
   | none =>
    dsimp only
    rw [if_pos (by simp)]
    refine bad _ fun l hg => ?_
    rw [(hparts l hg).2.2.2.1] at htk
    cases htk
   | some q =>
    obtain ⟨u, k⟩ := q
    have hT := a2y hb htk
    dsimp only
    rw [if_neg (by simp)]
    by_cases h4 : k = b.length
    ·rw [if_pos (by simp <;> omega)]
     refine bad _ fun l hg => ?_
     obtain ⟨_, _, _, e1, e2, _⟩ := hparts l hg
     rw [e1] at htk
     simp only [Option.some.injEq, Prod.mk.injEq] at htk
     omega
    have hk : k < b.length := by omega
    obtain ⟨c, hc1, hc2, hc3⟩ := hb.get hk
    rw [if_neg (by simp <;> omega), a0f (by omega), if_pos (by omega), a0g hk]
    simp only [Int.toNat_natCast, List.take_length]
    rw [hc1, a0x (by omega), b4w (hb.drop _) (by simp <;> omega) (by omega)]
    simp only [Option.bind_some]
    have hgood : ∀ l, a4t 4 t (M : Int) b l → u = zig (a3w l) ∧ b4a (b.drop (k + 1)) (M : Int) (c : Int) = (a1z l, true, ()) := by
     intro l hg
     obtain ⟨_, _, _, e1, e2, e3, e4, e5⟩ := hparts l hg
     rw [e1] at htk
     simp only [Option.some.injEq, Prod.mk.injEq] at htk
     obtain ⟨rfl, rfl⟩ := htk
     rw [hc1] at e3
     exact ⟨rfl, by rw [e4, e3]; exact e5⟩
    obtain ⟨al, aok, hab⟩ : ∃ al aok, b4a (b.drop (k + 1)) (M : Int) (c : Int) = (al, aok, ()) := ⟨_, _, rfl⟩
    rw [hab] at hgood ⊢
    have hal : aok = true → al.length = M ∧ Nums al := by
     intro h
     unfold b4a at hab
     split at hab
     ·rename_i hcnd
      simp only [Prod.mk.injEq] at hab
      rw [← hab.1]
      refine ⟨?_, b2z (by simp <;> omega)⟩
      rw [b0o]; simp
     ·simp only [Prod.mk.injEq] at hab
      rw [← hab.2.1] at h; cases h
    cases aok with
    | false =>
     rw [if_pos (by simp)]
     refine bad _ fun l hg => ?_
     have := (hgood l hg).2
     simp at this
    | true =>
     obtain ⟨hal1, hal2⟩ := hal rfl
     rw [if_neg (by simp)]
     have hz := d7k hT.1
     refine Gets.iter (I := fun s : List Vl × Int => ∃ i : Nat, i ≤ M ∧ s = ((al.take i).map (fun a => (t, IntKind.i64.wrap (IntKind.u64.wrap (IntKind.u64.wrap (zag u) + a)), [], ())), (i : Int))) (μ := fun s => M - s.2.toNat) ⟨0, by omega, by simp⟩ (by simp <;> omega) ?_
     rintro rec _ ⟨i, hi, rfl⟩ hrec
     dsimp only
     by_cases h5 : i < M
     ·have h6 : i < al.length := by omega
      rw [if_pos (by simp <;> omega), a0g h6, b2c hT.1]
      simp only [Option.bind_some, Int.toNat_natCast]
      rw [a0i h6, if_pos (by simp <;> omega), a0f (by omega)]
      exact hrec _ ⟨i + 1, by omega, by rw [map_take _ h6]⟩ (by simp <;> omega)
     ·obtain rfl : i = M := by omega
      rw [if_neg (by simp <;> omega), List.take_of_length_le (by omega)]
      refine hJ _ ⟨by simp <;> omega, ?_, fun l hg => ?_⟩
      ·intro v hv
       obtain ⟨a, _, rfl⟩ := List.mem_map.1 hv
       exact ⟨ht, b8s _, by simp, by simp⟩
      ·obtain ⟨e1, e2⟩ := hgood l hg
       simp only [Prod.mk.injEq, and_true] at e2
       obtain ⟨_, q2, q3, _⟩ := hparts l hg
       rw [e2, e1]
       unfold a1z
       rw [List.map_map]
       conv => rhs; rw [← List.map_id l]
       refine List.map_congr_left fun v hv => ?_
       obtain ⟨r1, r2⟩ := q3 v hv
       simp only [Function.comp_apply, id, b6p]
       have e3 : IntKind.i64.wrap (IntKind.u64.wrap (IntKind.u64.wrap (a3w l) + (v.2.1 - a3w l))) = v.2.1 := by
        have := r2.2.1
        rw [a2g, a2g, a8i]
        omega
       rw [e3]
       exact (d3e r1 (by omega)).symm
 unfold b1h
 refine Gets.bind key ?_
 rintro y (⟨l, rfl, hg⟩ | ⟨⟨msg, rfl⟩, hno⟩)
 ·exact Gets.some (.inl ⟨l, rfl, hg⟩)
 ·exact Gets.some (.inr ⟨rfl, hno⟩)
theorem c2m {n : Nat} {t m : Int} {b : List Int} (ht : -9223372036854775808 ≤ t ∧ t ≤ 9223372036854775807) (hb : a3o b) (hl : b.length < 1000000) (hn : 70000 ≤ n) :
  Gets (a9s n (t, m, b, ())) (d9r 3 t m b) := by
 refine (c5g (m := m) ht hb hl hn).mono fun y hy => ?_
 rcases hy with ⟨l, h, hg⟩ | ⟨h, hno⟩
 ·exact .inl ⟨l, h, f5r.2 hg⟩
 ·exact .inr ⟨h, fun l hg => hno l (f5r.1 hg)⟩
end Go.Rb.R4

namespace Go.Rb.R4
open Go.Rb
theorem a3o.take {b : List Int} (h : a3o b) (k : Nat) : a3o (b.take k) := fun x hx => h x (List.mem_of_mem_take hx)
theorem c5d (n : Nat) (e t : Int) : a2p n (e, t, ()) = some (match b7f e t with | some u => (u, true, ()) | none => (0, false, ()), ()) := by
 unfold a2p b7f
 dsimp only
 by_cases h1 : t < 1
 ·rw [if_pos (by simpa using h1), if_neg (by omega)]
 rw [if_neg (by simpa using h1)]
 by_cases h2 : 4 < t
 ·rw [if_pos (by simpa using h2), if_neg (by omega)]
 rw [if_neg (by simpa using h2)]
 by_cases h3 : e = 5 ∨ e = 4 ∨ e = 3 ∨ e = 2 ∨ e = 1
 ·have ht : t = 1 ∨ t = 2 ∨ t = 3 ∨ t = 4 := by omega
  rcases h3 with rfl | rfl | rfl | rfl | rfl <;> rcases ht with rfl | rfl | rfl | rfl <;> decide
 ·have h5 : ¬ e = 5 := by omega
  have h4 : ¬ e = 4 := by omega
  have h33 : ¬ e = 3 := by omega
  have h22 : ¬ e = 2 := by omega
  have h11 : ¬ e = 1 := by omega
  have hno : ¬ (1 ≤ t ∧ t ≤ 4 ∧ 1 ≤ e ∧ e ≤ 5) := by omega
  rw [if_neg hno]
  simp [h5, h4, h33, h22, h11]
theorem c9j (n : Nat) (t : Int) (v : Vl) : b0h n (t, v, ()) = some ((a8c t v, ()), ()) := by
 unfold b0h a8c
 dsimp only
 rw [a7k]
 simp only [Option.bind_some]
 cases mayV v with
 | false => rfl
 | true =>
  rw [if_pos rfl]
  by_cases h1 : 1 ≤ t
  ·by_cases h2 : t ≤ 4
   ·by_cases h3 : v.1 = 0 <;> simp [h1, h2, h3]
   ·simp [h1, h2]
  ·simp [h1]
def b4q (e t : Int) (l : List Vl) : Option (List Int) :=
 match b7f e t with
 | some u => if l.all (a8c t) = true then some (colB u t l) else none
 | none => none
def c5b (u : Int) (l : List Vl) : List Int := if l.any isN then u :: 1 :: b2h (l.map isN) else [u, 0]
theorem d7o (u t : Int) (l : List Vl) : c5b u l ++ encB u t (a4k l) = colB u t l := by
 unfold c5b colB
 split <;> simp
theorem d5j (u : Int) {l : List Vl} (hl : l.length ≤ 1000) : (c5b u l).length ≤ 200 := by
 unfold c5b
 split
 ·simp only [List.length_cons, b0r, List.length_map]; omega
 ·simp
theorem c8q {n : Nat} {e t : Int} {l : List Vl} (hv : ∀ v, v ∈ l → okV v) (hl : l.length ≤ 1000) (hn : 2000 ≤ n) :
  a1g n (e, t, l, ()) = some (match b4q e t l with | some b => (b, true, ()) | none => ([], false, ()), ()) := by
 have hro := a1t
 unfold a1g b4q
 dsimp only
 rw [c5d]
 simp only [Option.bind_some]
 cases hu : b7f e t with
 | none => rfl
 | some u =>
  obtain ⟨u1, u2, u3, u4, u5, _⟩ := b3u hu
  dsimp only
  rw [if_neg (by simp), b5i (q := fun v => !a8c t v) (fun v _ => by unfold a9h; dsimp only; rw [c9j]; rfl) (by omega) (by omega)]
  simp only [Option.bind_some]
  by_cases hf : l.all (a8c t) = true
  rotate_left
  ·rw [if_neg hf, if_pos]
   rw [List.any_eq_true]
   have hf' : l.all (a8c t) = false := by simpa using hf
   rw [List.all_eq_false] at hf'
   obtain ⟨x, hx, h⟩ := hf'
   exact ⟨x, hx, by simpa using h⟩
  ·have hfa : ∀ v, v ∈ l → a8c t v = true := List.all_eq_true.1 hf
   have hany : l.any (fun v => !a8c t v) = false := by rw [List.any_eq_false]; intro x hx; simp [hfa x hx]
   have hr := a8a ⟨u2, u3⟩ hfa
   have hok := b1u hv
   have hsl := b8m l
   rw [if_pos hf, if_neg (by rw [hany]; simp)]
   dsimp only
   have hEL := d2j (e := u) hr hok (by omega)
   have hHL := d5j u hl
   have hcat : ∀ b : List Int, b = encB u t (a4k l) → (if ((c5b u l).length + b.length) * 1 ≤ room then (some (((c5b u l) ++ b, true, ()), ()) : Option ((List Int × Bool × Unit) × Unit)) else none) = some ((colB u t l, true, ()), ()) := by
    rintro b rfl
    rw [if_pos (by omega), d7o]
   refine a9u (I := fun s q => s = c5b u l ∧ q = some ((colB u t l, true, ()), ())) ?_ ?_
   ·rintro _ _ ⟨rfl, rfl⟩
    unfold a5k a0u
    simp only [Option.bind_some]
    rw [c8o (p := fun c => (a3i n (c, ())).bind fun r => some r.1.1) (q := isN) (fun v _ => rfl) (by omega) (by omega)]
    simp only [Option.bind_some]
    have hsv : (l.filter fun v => !isN v) = a4k l := rfl
    rw [hsv]
    by_cases c1 : u = 1
    ·subst c1
     rw [if_pos rfl, c0a hok (by omega) hn, if_pos hr]
     simp only [Option.bind_some]
     rw [if_neg (by simp)]
     exact hcat _ (by simp [encB])
    rw [if_neg c1]
    by_cases c2 : u = 2
    ·subst c2
     rw [if_pos rfl, c4i hok (by omega) hn, if_pos hr]
     simp only [Option.bind_some]
     rw [if_neg (by simp)]
     exact hcat _ (by simp [encB])
    rw [if_neg c2]
    by_cases c3 : u = 3
    ·subst c3
     rw [if_pos rfl, b5v hok (by omega) hn, if_pos hr]
     simp only [Option.bind_some]
     rw [if_neg (by simp)]
     exact hcat _ (by simp [encB])
    rw [if_neg c3]
    unfold a6x at u1
    simp only [Bool.or_eq_true, Bool.and_eq_true, decide_eq_true_eq] at u1
    by_cases c4 : u = 4
    ·subst c4
     rw [if_pos rfl, c2e hok (by omega) hn, if_pos ⟨by omega, hr⟩]
     simp only [Option.bind_some]
     rw [if_neg (by simp)]
     exact hcat _ (by simp [encB])
    rw [if_neg c4]
    obtain rfl : u = 5 := by omega
    rw [if_pos rfl, b9z hok (by omega) hn, if_pos ⟨by omega, hr⟩]
    simp only [Option.bind_some]
    rw [if_neg (by simp)]
    exact hcat _ (by simp [encB])
   ·intro J hJ
    rw [b5i (p := fun c => (a3i n (c, ())).bind fun r => some r.1.1) (q := isN) (fun v _ => rfl) (by omega) (by omega)]
    simp only [Option.bind_some]
    rw [b3d (by omega) (by omega)]
    cases ha : l.any isN with
    | false =>
     rw [if_neg (by simp)]
     exact hJ _ _ ⟨by unfold c5b; rw [ha]; rfl, rfl⟩
    | true =>
     rw [if_pos rfl]
     refine a0z (st := fun i => ((l.take i).map isN, (i : Int))) l.length (by simp) ?_ ?_ (by omega)
     ·intro rec i hi
      dsimp only
      rw [if_pos (by simp <;> omega), a0g hi, Int.toNat_natCast, a0i hi]
      unfold a3i
      simp only [Option.bind_some]
      rw [if_pos (by simp <;> omega), a0f (by omega), map_take _ hi]
      rfl
     ·intro rec
      dsimp only
      rw [if_neg (by simp), List.take_length, if_pos (by simp), c0c (by simp <;> omega) (by simp <;> omega)]
      simp only [Option.bind_some]
      have hnl := b0r (l.map isN)
      rw [List.length_map] at hnl
      rw [if_pos (by simp <;> omega), if_pos (by simp <;> omega)]
      exact hJ _ _ ⟨by unfold c5b; rw [ha]; rfl, rfl⟩
def b3x (t m : Int) (b : List Int) (l : List Vl) (e : Int) : Prop := 0 ≤ m ∧ m ≤ 1000 ∧ (l.length : Int) = m ∧ b7f e t = some e ∧ (∀ v, v ∈ l → a8c t v = true) ∧ (∀ v, v ∈ l → okV v) ∧ colB e t l = b
theorem b3x.uniq {t m e e' : Int} {b : List Int} {l l' : List Vl} (h : b3x t m b l e) (h' : b3x t m b l' e') : l = l' ∧ e = e' := by
 obtain ⟨_, _, g3, g4, g5, g6, g7⟩ := h
 obtain ⟨_, _, k3, k4, k5, k6, k7⟩ := h'
 obtain ⟨u1, u2, u3, _⟩ := b3u g4
 obtain ⟨h1, h2, _⟩ := d9k u1 ⟨u2, u3⟩ g5 g6 k5 k6 (by omega) (s := []) (by rw [List.append_nil, g7, k7])
 exact ⟨h2, h1⟩
def d9p (t m : Int) (b : List Int) (y : (List Vl × Int × Bool × Unit) × Unit) : Prop := (∃ l e, y = ((l, e, true, ()), ()) ∧ b3x t m b l e) ∨ (y = (([], 0, false, ()), ()) ∧ ∀ l e, ¬ b3x t m b l e)
theorem c5m : ∀ (bs : List Bool) (l : List Vl), (mixV bs l).length = bs.length
 | [], _ => rfl
 | true :: bs, l => by unfold mixV; rw [List.length_cons, c5m bs l, List.length_cons]
 | false :: bs, l => by unfold mixV; rw [List.length_cons, c5m bs l.tail, List.length_cons]
theorem a5j {t m e : Int} {b : List Int} {l : List Vl} (h : b3x t m b l e) : b.getD 0 0 = e ∧ 2 ≤ b.length ∧ b.getD 1 0 = (if l.any isN then 1 else 0) ∧ b.drop 2 = (if l.any isN then b2h (l.map isN) ++ encB e t (a4k l) else encB e t (a4k l)) := by
 obtain ⟨_, _, _, _, _, _, rfl⟩ := h
 unfold colB
 split <;> simp
theorem d9q : okV ((0:Int), (0:Int), [], ()) := by unfold okV; decide
theorem c1q {n : Nat} {t m : Int} {b : List Int} (ht : -9223372036854775808 ≤ t ∧ t ≤ 9223372036854775807) (hb : a3o b) (hl : b.length < 1000000) (hn : 1000000 ≤ n) :
  Gets (a1c n (t, m, b, ())) (d9p t m b) := by
 have hro := a1t
 have bad : (∀ l e, ¬ b3x t m b l e) → Gets (some ((([] : List Vl), (0:Int), false, ()), ())) (d9p t m b) := fun h => Gets.some (.inr ⟨rfl, h⟩)
 unfold a1c
 dsimp only
 by_cases h1 : m < 0
 ·rw [if_pos (by simpa using h1)]
  exact bad fun l e hg => by have := hg.1; omega
 rw [if_neg (by simpa using h1)]
 by_cases h2 : 1000 < m
 ·rw [if_pos (by simpa using h2)]
  exact bad fun l e hg => by have := hg.2.1; omega
 rw [if_neg (by simpa using h2)]
 obtain ⟨M, rfl⟩ : ∃ M : Nat, m = (M : Int) := ⟨_, (Int.toNat_of_nonneg (by omega)).symm⟩
 by_cases h3 : b.length < 2
 ·rw [if_pos (by simp <;> omega)]
  exact bad fun l e hg => by have := (a5j hg).2.1; omega
 rw [if_neg (by simp <;> omega)]
 unfold a5k
 simp only [Option.bind_some]
 obtain ⟨e, he1, he2, _⟩ := hb.get (i := 0) (by omega)
 have e0 : ((0:Int)).toNat = 0 := rfl
 rw [a8d (by omega) (by omega), if_pos (by omega), if_pos (by omega), e0, he1, a0x (x := e) (by omega)]
 have hE : ∀ l e', b3x t (M : Int) b l e' → e' = (e : Int) := fun l e' hg => by rw [← (a5j hg).1, he1]
 refine Gets.join (I := fun s : List Int × List Bool => a3o s.1 ∧ s.1.length < 1000000 ∧ s.2.length ≤ 1000 ∧ ∀ l e', b3x t (M : Int) b l e' → s.2 = l.map isN ∧ s.1 = encB (e : Int) t (a4k l)) ?_ ?_
 ·rintro ⟨rest, set⟩ ⟨r1, r2, r3, r4⟩
  dsimp only at r1 r2 r3 r4 ⊢
  by_cases h5 : 1 ≤ e ∧ e ≤ 5
  rotate_left
  ·rw [if_pos]
   ·refine bad fun l e' hg => ?_
    have h6 := hE l e' hg
    obtain ⟨_, _, _, u4, u5, _⟩ := b3u hg.2.2.2.1
    omega
   ·simp only [Bool.not_eq_true', Bool.or_eq_false_iff, decide_eq_false_iff_not]
    repeat' apply And.intro
    all_goals first | trivial | omega
  rw [if_neg (by
   simp only [Bool.not_eq_true', Bool.or_eq_false_iff, decide_eq_false_iff_not]
   omega)]
  by_cases h6 : set.length = M
  rotate_left
  ·rw [if_pos (by simp <;> omega)]
   refine bad fun l e' hg => ?_
   have h7 := congrArg List.length (r4 l e' hg).1
   have := hg.2.2.1
   simp at h7
   omega
  rw [if_neg (by simp <;> omega), c5a (by omega) (by omega)]
  simp only [Option.bind_some]
  have hcl := List.countP_le_length (p := fun b : Bool => b) (l := set)
  obtain ⟨cnt, hcnt⟩ : ∃ cnt, set.countP (fun b => b) = cnt := ⟨_, rfl⟩
  rw [hcnt] at hcl ⊢
  have hw : IntKind.i64.wrap ((M : Int) - (cnt : Int)) = ((M - cnt : Nat) : Int) := by
   rw [show ((M : Int) - (cnt : Int)) = ((M - cnt : Nat) : Int) by omega, a0x (by omega)]
  rw [hw]
  have hE2 : ∀ l e', b3x t (M : Int) b l e' → a4t (e : Int) t ((M - cnt : Nat) : Int) rest (a4k l) := by
   intro l e' hg
   obtain ⟨q1, q2⟩ := r4 l e' hg
   have h7 := hE l e' hg
   obtain ⟨g1, g2, g3, g4, g5, g6, g7⟩ := hg
   obtain ⟨u1, u2, u3, _⟩ := b3u g4
   have h8 := b3s l
   rw [← q1, hcnt] at h8
   subst h7
   exact ⟨by omega, by omega, by omega, u1, a8a ⟨u2, u3⟩ g5, b1u g6, q2.symm⟩
  have tail : ∀ sm, a4t (e : Int) t ((M - cnt : Nat) : Int) rest sm → Gets (a1d (fun rec27 (s26 : (List (Int × Int × List Int × Unit)) × (List (Int × Int × List Int × Unit)) × Int) => (if (decide (s26.2.2 < (set.length : Int))) = true then (atI s26.2.2 set.length (if (set.getD s26.2.2.toNat false) = true then (if (s26.1.length + ([((0:Int), (0:Int), [], ())] : List (Int × Int × List Int × Unit)).length) * 32 ≤ room then (rec27 ((s26.1 ++ ([((0:Int), (0:Int), [], ())] : List (Int × Int × List Int × Unit))), s26.2.1, (IntKind.i64.wrap (s26.2.2 + 1)))) else none) else (atI (0:Int) s26.2.1.length (if (s26.1.length + ([(s26.2.1.getD 0 ((0:Int), (0:Int), [], ()))] : List (Int × Int × List Int × Unit)).length) * 32 ≤ room then (if 0 ≤ (1:Int) ∧ (1:Int) ≤ (s26.2.1.length : Int) then (rec27 ((s26.1 ++ ([(s26.2.1.getD 0 ((0:Int), (0:Int), [], ()))] : List (Int × Int × List Int × Unit))), ((s26.2.1.take (s26.2.1.length : Int).toNat).drop (1:Int).toNat), (IntKind.i64.wrap (s26.2.2 + 1)))) else none) else none)))) else (atI (0:Int) b.length ((a2w n ((e : Int), t, s26.1, ())).bind fun y28 => (if (!y28.1.2.1) = true then (some (([], (0:Int), false, ()), ())) else ((a0j n (y28.1.1, b, ())).bind fun y29 => (if (!y29.1.1) = true then (some (([], (0:Int), false, ()), ())) else (atI (0:Int) b.length (some ((y28.2.1, (e : Int), true, ()), ())))))))))) n ([], sm, (0:Int))) (d9p t (M : Int) b) := by
   intro sm hsm
   obtain ⟨p1, p2, p3, p4, p5, p6, p7⟩ := hsm
   have hgl : ∀ l e', b3x t (M : Int) b l e' → mixV set sm = l := by
    intro l e' hg
    obtain ⟨q1, q2⟩ := r4 l e' hg
    have := (hE2 l e' hg).uniq ⟨p1, p2, p3, p4, p5, p6, p7⟩
    rw [q1, ← this]
    exact b8b hg.2.2.2.2.1
   refine Gets.iter (I := fun s : List Vl × List Vl × Int => ∃ (acc r : List Vl) (i : Nat), s = (acc, r, (i : Int)) ∧ i ≤ set.length ∧ acc.length = i ∧ acc ++ mixV (set.drop i) r = mixV set sm ∧ r.length + (set.drop i).countP (fun b => b) = (set.drop i).length ∧ (∀ v, v ∈ acc → okV v) ∧ ∀ v, v ∈ r → okV v)
    (μ := fun s => set.length - s.2.2.toNat) ⟨[], sm, 0, rfl, by omega, rfl, by simp, by rw [List.drop_zero, hcnt]; omega, by simp, p6⟩ (by simp <;> omega) ?_
   rintro rec _ ⟨acc, r, i, rfl, k1, k2, k3, k4, k5, k6⟩ hrec
   dsimp only
   by_cases hi : i < set.length
   ·rw [if_pos (by simp <;> omega), a0g hi, Int.toNat_natCast, a0i hi, a0f (by omega)]
    have hd := List.drop_eq_getElem_cons hi
    rw [hd] at k3 k4
    have hdl : (set.drop (i + 1)).length = set.length - (i + 1) := by simp
    by_cases hx : set[i] = true
    ·rw [hx] at k3 k4
     have hc1 : List.countP (fun b => b) (true :: set.drop (i + 1)) = List.countP (fun b => b) (set.drop (i + 1)) + 1 := by rw [List.countP_cons]; rfl
     rw [if_pos hx, if_pos (by simp <;> omega)]
     refine hrec _ ⟨acc ++ [((0:Int), (0:Int), [], ())], r, i + 1, rfl, by omega, by simp <;> omega, by rw [← k3]; simp [mixV], by rw [hc1, List.length_cons] at k4; omega, ?_, k6⟩ (by simp <;> omega)
     intro v hv
     rcases List.mem_append.1 hv with hv | hv
     ·exact k5 v hv
     ·simp at hv; subst hv; exact d9q
    ·have hx' : set[i] = false := by simpa using hx
     rw [hx'] at k3 k4
     have hc1 : List.countP (fun b => b) (false :: set.drop (i + 1)) = List.countP (fun b => b) (set.drop (i + 1)) := by rw [List.countP_cons]; rfl
     rw [hc1, List.length_cons] at k4
     have hcl2 := List.countP_le_length (p := fun b : Bool => b) (l := set.drop (i + 1))
     cases r with
     | nil => simp at k4; omega
     | cons v r =>
      have hrl : (v :: r).length ≤ set.length := by omega
      rw [if_neg hx, a8d (by omega) (by simp <;> omega), if_pos (by simp <;> omega), if_pos (by simp <;> omega)]
      simp only [Int.toNat_natCast, List.take_length]
      have e1 : (v :: r).getD 0 ((0:Int), (0:Int), [], ()) = v := rfl
      have e2 : (v :: r).drop ((1:Int)).toNat = r := rfl
      rw [e1, e2]
      refine hrec _ ⟨acc ++ [v], r, i + 1, rfl, by omega, by simp <;> omega, by rw [← k3]; simp [mixV], by simp at k4; omega, ?_, fun x hx => k6 x (List.mem_cons_of_mem _ hx)⟩ (by simp <;> omega)
      intro x hx
      rcases List.mem_append.1 hx with hx | hx
      ·exact k5 x hx
      ·simp at hx; subst hx; exact k6 _ (by simp)
   ·obtain rfl : i = set.length := by omega
    have hacc : acc = mixV set sm := by
     rw [← k3, List.drop_length]; simp [mixV]
    rw [if_neg (by simp), a8d (by omega) (by omega)]
    unfold a2w
    dsimp only
    rw [c8q k5 (by omega) (by omega)]
    simp only [Option.map_some, Option.bind_some]
    have hgood' : ∀ l e', b3x t (M : Int) b l e' → b4q (e : Int) t acc = some b := by
     intro l e' hg
     have h7 := hE l e' hg
     have h8 := hgl l e' hg
     rw [hacc, h8]
     obtain ⟨g1, g2, g3, g4, g5, g6, g7⟩ := hg
     unfold b4q
     rw [h7] at g4 g7
     rw [g4]
     dsimp only
     rw [if_pos (List.all_eq_true.2 g5), g7]
    cases hp : b4q (e : Int) t acc with
    | none =>
     dsimp only
     rw [if_pos (by simp)]
     refine bad fun l e' hg => ?_
     have := hgood' l e' hg
     rw [hp] at this
     cases this
    | some c =>
     dsimp only
     rw [if_neg (by simp)]
     unfold a0j
     simp only [Option.bind_some]
     by_cases hq : c = b
     ·rw [if_neg (by simp [hq]), a8d (by omega) (by omega)]
      unfold b4q at hp
      cases hu : b7f (e : Int) t with
      | none => rw [hu] at hp; cases hp
      | some u =>
       rw [hu] at hp
       dsimp only at hp
       split at hp
       ·rename_i hall
        simp only [Option.some.injEq] at hp
        have hue : u = (e : Int) := by
         obtain ⟨rr, hr1, _⟩ := e8i u t acc
         rw [hp, hq] at hr1
         rw [hr1] at he1
         simpa using he1
        subst hue
        refine Gets.some (.inl ⟨acc, _, rfl, by omega, by omega, by omega, hu, List.all_eq_true.1 hall, k5, by rw [hp, hq]⟩)
       ·cases hp
     ·rw [if_pos (by simp [hq])]
      refine bad fun l e' hg => ?_
      have := hgood' l e' hg
      rw [hp] at this
      exact hq (Option.some.inj this)
  by_cases c1 : e = 1
  ·subst c1
   rw [if_pos (show ((1 : Nat) : Int) = 1 from rfl)]
   refine Gets.bind (c2u (m := ((M - cnt : Nat) : Int)) ht r1 r2 (by omega)) ?_
   rintro y (⟨sm, rfl, hg⟩ | ⟨rfl, hno⟩)
   ·rw [if_neg (by simp)]; exact tail sm hg
   ·rw [if_pos (by simp)]; exact bad fun l e' hg => hno _ (hE2 l e' hg)
  rw [if_neg (by omega)]
  by_cases c2 : e = 2
  ·subst c2
   rw [if_pos (show ((2 : Nat) : Int) = 2 from rfl)]
   refine Gets.bind (c7s (m := ((M - cnt : Nat) : Int)) ht r1 r2 (by omega)) ?_
   rintro y (⟨sm, rfl, hg⟩ | ⟨rfl, hno⟩)
   ·rw [if_neg (by simp)]; exact tail sm hg
   ·rw [if_pos (by simp)]; exact bad fun l e' hg => hno _ (hE2 l e' hg)
  rw [if_neg (by omega)]
  by_cases c3 : e = 3
  ·subst c3
   rw [if_pos (show ((3 : Nat) : Int) = 3 from rfl)]
   refine Gets.bind (c2m (m := ((M - cnt : Nat) : Int)) ht r1 r2 (by omega)) ?_
   rintro y (⟨sm, rfl, hg⟩ | ⟨rfl, hno⟩)
   ·rw [if_neg (by simp)]; exact tail sm hg
   ·rw [if_pos (by simp)]; exact bad fun l e' hg => hno _ (hE2 l e' hg)
  rw [if_neg (by omega)]
  by_cases c4 : e = 4
  ·subst c4
   rw [if_pos (show ((4 : Nat) : Int) = 4 from rfl)]
   refine Gets.bind (c5i (m := ((M - cnt : Nat) : Int)) ht r1 r2 (by omega)) ?_
   rintro y (⟨sm, rfl, hg⟩ | ⟨rfl, hno⟩)
   ·rw [if_neg (by simp)]; exact tail sm hg
   ·rw [if_pos (by simp)]; exact bad fun l e' hg => hno _ (hE2 l e' hg)
  rw [if_neg (by omega)]
  obtain rfl : e = 5 := by omega
  rw [if_pos (show ((5 : Nat) : Int) = 5 from rfl)]
  refine Gets.bind (c3p (m := ((M - cnt : Nat) : Int)) ht r1 r2 (by omega)) ?_
  rintro y (⟨sm, rfl, hg⟩ | ⟨rfl, hno⟩)
  ·rw [if_neg (by simp)]; exact tail sm hg
  ·rw [if_pos (by simp)]; exact bad fun l e' hg => hno _ (hE2 l e' hg)
 ·intro J hJ
  obtain ⟨f, hf1, hf2, _⟩ := hb.get (i := 1) (by omega)
  have e1 : ((1:Int)).toNat = 1 := rfl
  have e2 : ((2:Int)).toNat = 2 := rfl
  have hmany : IntKind.i64.wrap ((IntKind.i64.wrap ((M : Int) + 7)).tdiv (8:Int)) = (((M + 7) / 8 : Nat) : Int) := by
   rw [show ((M : Int) + 7) = ((M + 7 : Nat) : Int) by omega, a0x (by omega), show ((8 : Int)) = ((8 : Nat) : Int) from rfl, a5x, a0x (by omega)]
  simp only [hmany, Int.toNat_natCast, List.take_length, e1, e2, e0, List.drop_zero, a8d (show (0:Int) ≤ 1 by omega) (show (1:Int) < (b.length : Int) by omega), hf1]
  have plain : (∀ l e', b3x t (M : Int) b l e' → l.any isN = false) → Gets (J (b.drop 2, List.replicate M false)) (d9p t (M : Int) b) := by
   intro h
   refine hJ _ ⟨hb.drop _, by simp <;> omega, by simp <;> omega, fun l e' hg => ?_⟩
   have h7 := (a5j hg).2.2.2
   have h8 := h l e' hg
   rw [h8] at h7
   have h9 := b2s h8
   have := hg.2.2.1
   dsimp only
   rw [h9, h7, hE l e' hg]
   exact ⟨by congr 1; omega, rfl⟩
  by_cases h7 : f = 1
  ·subst h7
   rw [if_pos (by simp)]
   by_cases h8 : (M + 7) / 8 ≤ (b.drop 2).length
   ·rw [if_pos (by simp only [decide_eq_true_eq]; omega), if_pos (by omega), c6i ((hb.drop _).take _) (by simp <;> omega) (by omega)]
    simp only [Option.bind_some]
    rw [if_pos (by omega)]
    refine hJ _ ⟨(hb.drop _).drop _, by simp <;> omega, ?_, fun l e' hg => ?_⟩
    ·unfold a9m
     split
     ·dsimp only; rw [a7e]; simp <;> omega
     ·simp
    ·have h10 := (a5j hg).2.2.1
     rw [hf1] at h10
     have h11 : l.any isN = true := by
      cases h : l.any isN with
      | true => rfl
      | false => rw [h] at h10; simp at h10
     have h12 := (a5j hg).2.2.2
     rw [h11, if_pos rfl] at h12
     have h13 := b0r (l.map isN)
     rw [List.length_map] at h13
     have h14 := hg.2.2.1
     have hlM : l.length = M := by omega
     rw [hlM] at h13
     have h15 : (b.drop 2).take ((M + 7) / 8) = b2h (l.map isN) := by rw [h12, List.take_left' h13]
     have h16 : (b.drop 2).drop ((M + 7) / 8) = encB e' t (a4k l) := by rw [h12, List.drop_left' h13]
     dsimp only
     rw [h15, h16, hE l e' hg]
     refine ⟨?_, rfl⟩
     have h17 := d0w (l.map isN)
     rw [List.length_map, hlM] at h17
     unfold a9m
     simp only [Int.toNat_natCast]
     rw [h17, if_pos ⟨by omega, by omega, h13, rfl⟩]
   ·rw [if_neg (by simp only [decide_eq_true_eq]; omega)]
    refine plain fun l e' hg => ?_
    exfalso
    have h10 := (a5j hg).2.2.1
    rw [hf1] at h10
    have h11 : l.any isN = true := by
     cases h : l.any isN with
     | true => rfl
     | false => rw [h] at h10; simp at h10
    have h12 := (a5j hg).2.2.2
    rw [h11, if_pos rfl] at h12
    have h13 := b0r (l.map isN)
    rw [List.length_map] at h13
    have h14 := hg.2.2.1
    rw [h12, List.length_append] at h8
    omega
  ·rw [if_neg (by simp <;> omega)]
   refine plain fun l e' hg => ?_
   have h10 := (a5j hg).2.2.1
   rw [hf1] at h10
   cases h : l.any isN with
   | false => rfl
   | true => rw [h] at h10; simp at h10; omega
end Go.Rb.R4

namespace Go.Rb.R4
open Go.Rb
theorem nine {v : Int} (h : 0 ≤ v ∧ v < 9) : v = 0 ∨ v = 1 ∨ v = 2 ∨ v = 3 ∨ v = 4 ∨ v = 5 ∨ v = 6 ∨ v = 7 ∨ v = 8 := by omega
theorem d0f {n : Nat} {b : List Int} {at' : Int} (hb : a3o b) (hl : b.length ≤ 60) (ha : 0 ≤ at' ∧ at' ≤ b.length) :
  Gets (a5u n ((b, at', ()), (9:Int), ())) fun y => ∃ v a, y = ((v, ()), ((b, a, ()), ())) ∧ (0 ≤ v ∧ v < 9) ∧ 0 ≤ a ∧ a ≤ b.length := by
 unfold a5u
 dsimp only
 by_cases h : (b.length : Int) ≤ at'
 ·rw [if_pos (by simpa using h)]
  exact Gets.some ⟨_, _, rfl, by omega, ha⟩
 ·rw [if_neg (by simpa using h), a1e (x := at' + 1) (by omega) (by omega), a1e (x := at' + 1 - 1) (by omega) (by omega), show at' + 1 - 1 = at' by omega]
  refine Gets.atI (by omega) (by omega) ?_
  rw [if_neg (by decide)]
  have hx : b.getD at'.toNat 0 ∈ b := by
   rw [a0i (show at'.toNat < b.length by omega)]
   exact List.getElem_mem _
  have h2 := hb _ hx
  rw [a1e (by omega) (by omega)]
  refine Gets.some ⟨_, _, rfl, ⟨?_, ?_⟩, by omega, by omega⟩
  ·exact Int.tmod_nonneg _ h2.1
  ·exact Int.tmod_lt_of_pos _ (by omega)
theorem c5f {n : Nat} {b : List Int} {at' k : Int} (hb : a3o b) (hl : b.length ≤ 60) (ha : 0 ≤ at' ∧ at' ≤ b.length) :
  Gets (a4p n ((b, at', ()), k, ())) fun y => ∃ v a, y = ((v, ()), ((b, a, ()), ())) ∧ (okV v ∧ (1 ≤ k ∧ k ≤ 4 → a8c k v = true)) ∧ 0 ≤ a ∧ a ≤ b.length := by
 have v0 : okV ((0:Int), (0:Int), [], ()) ∧ (1 ≤ k ∧ k ≤ 4 → a8c k ((0:Int), (0:Int), [], ()) = true) := by
  refine ⟨by unfold okV; decide, fun h => ?_⟩
  have : k = 1 ∨ k = 2 ∨ k = 3 ∨ k = 4 := by omega
  rcases this with rfl | rfl | rfl | rfl <;> decide
 unfold a4p
 refine Gets.bind (d0f hb hl ha) ?_
 rintro _ ⟨v, a, rfl, hv, ha2⟩
 refine Gets.join (I := fun s => s = ((b, a, ()), 0, 0, [], ())) ?_ ?_
 ·rintro _ rfl
  dsimp only
  by_cases h1 : k = 1
  ·subst h1
   rw [if_pos (by simp)]
   rcases nine hv with rfl | rfl | rfl | rfl | rfl | rfl | rfl | rfl | rfl <;>
    exact Gets.atI (by decide) (by decide) (Gets.some ⟨_, _, rfl, ⟨by unfold okV; decide, fun _ => by decide⟩, ha2⟩)
  rw [if_neg (by simpa using h1)]
  by_cases h2 : k = 2
  ·subst h2
   rw [if_pos (by simp)]
   rcases nine hv with rfl | rfl | rfl | rfl | rfl | rfl | rfl | rfl | rfl <;>
    exact Gets.atI (by decide) (by decide) (Gets.some ⟨_, _, rfl, ⟨by unfold okV; decide, fun _ => by decide⟩, ha2⟩)
  rw [if_neg (by simpa using h2)]
  by_cases h3 : k = 3
  ·subst h3
   rw [if_pos (by simp)]
   rcases nine hv with rfl | rfl | rfl | rfl | rfl | rfl | rfl | rfl | rfl <;>
    exact Gets.some ⟨_, _, rfl, ⟨by unfold okV; decide, fun _ => by decide⟩, ha2⟩
  rw [if_neg (by simpa using h3)]
  have h4 : ∀ v, a8c 4 v = true → 1 ≤ k ∧ k ≤ 4 → a8c k v = true := fun v h hk => by
   obtain rfl : k = 4 := by omega
   exact h
  rcases nine hv with rfl | rfl | rfl | rfl | rfl | rfl | rfl | rfl | rfl <;>
   exact Gets.atI (by decide) (by decide) (Gets.some ⟨_, _, rfl, ⟨by unfold okV; decide, h4 _ (by decide)⟩, ha2⟩)
 ·intro J hJ
  dsimp only
  by_cases h0 : v = 0
  ·rw [if_pos (by simpa using h0)]
   unfold a6j
   simp only [Option.bind_some]
   cases hd : (!decide ((b.length : Int) ≤ a)) with
   | true =>
    rw [if_pos rfl]
    exact Gets.some ⟨_, _, rfl, v0, ha2⟩
   | false =>
    rw [if_neg Bool.false_ne_true]
    exact hJ _ rfl
  ·rw [if_neg (by simpa using h0)]
   exact hJ _ rfl
theorem f0e {n : Nat} {b : List Int} {k m : Int} (hb : a3o b) (hl : b.length ≤ 60) (hm : 0 ≤ m ∧ m ≤ 20) (hn : 100 ≤ n) :
  Gets (a6d n (b, k, m, ())) fun y => ∃ l : List Vl, y = ((l, ()), ()) ∧ l.length ≤ 20 ∧ (∀ v, v ∈ l → okV v) ∧ (1 ≤ k ∧ k ≤ 4 → ∀ v, v ∈ l → a8c k v = true) := by
 have hro := a1t
 unfold a6d b3k
 simp only [Option.bind_some]
 refine Gets.iter (I := fun s => ∃ a l i, s = ((b, a, ()), l, i) ∧ (0 ≤ a ∧ a ≤ b.length) ∧ 0 ≤ i ∧ i ≤ m ∧ (l.length : Int) ≤ i ∧ (∀ v : Vl, v ∈ l → okV v) ∧ (1 ≤ k ∧ k ≤ 4 → ∀ v, v ∈ l → a8c k v = true))
  (μ := fun s => (m - s.2.2).toNat) ⟨_, _, _, rfl, by omega, by omega, by omega, by simp, by simp, by simp⟩ (by simp <;> omega) ?_
 rintro rec _ ⟨a, l, i, rfl, h1, h2, h3, h4, h5, h6⟩ hrec
 dsimp only
 by_cases hi : i < m
 ·rw [if_pos (by simpa using hi), a1e (x := i + 1) (by omega) (by omega)]
  refine Gets.bind (c5f hb hl h1) ?_
  rintro _ ⟨v, a2, rfl, ⟨hv1, hv2⟩, ha2⟩
  dsimp only
  rw [if_pos (by simp <;> omega)]
  refine hrec _ ⟨_, _, _, rfl, ha2, by omega, by omega, by simp <;> omega, ?_, ?_⟩ (by simp <;> omega)
  ·intro x hx
   rcases List.mem_append.1 hx with hx | hx
   ·exact h5 x hx
   ·simp only [List.mem_singleton] at hx; subst hx; exact hv1
  ·intro hk x hx
   rcases List.mem_append.1 hx with hx | hx
   ·exact h6 hk x hx
   ·simp only [List.mem_singleton] at hx; subst hx; exact hv2 hk
 ·rw [if_neg (by simpa using hi)]
  exact Gets.some ⟨_, rfl, by omega, h5, h6⟩
theorem c7e {n : Nat} {l : List Vl} (hl : l.length ≤ 1000) (hn : 2000 ≤ n) : a2j n (l, l, ()) = some ((true, ()), ()) := by
 unfold a2j
 dsimp only
 rw [if_neg (by simp)]
 refine a0z (st := fun i => (i : Int)) l.length rfl ?_ ?_ (by omega)
 ·intro rec i hi
  rw [if_pos (by simp <;> omega), a0g hi, a0g hi, if_neg (by simp), a0f (by omega)]
 ·intro rec
  rw [if_neg (by simp)]
theorem e4t : a3f 1000000 () = some ((true, ()), ()) := by decide +kernel
theorem a3o.set {b : List Int} (h : a3o b) (i : Nat) {x : Int} (hx : 0 ≤ x ∧ x ≤ 255) : a3o (b.set i x) := by
 intro y hy
 rcases List.mem_or_eq_of_mem_set hy with hy | rfl
 ·exact h y hy
 ·exact hx
theorem g0w (x : Int) : 0 ≤ IntKind.u8.wrap x ∧ IntKind.u8.wrap x ≤ 255 := by rw [d4o]; omega
end Go.Rb.R4
