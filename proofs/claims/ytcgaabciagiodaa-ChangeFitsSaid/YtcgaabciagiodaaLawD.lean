/- The plain law of ChangeJoins. Own work. -/
import Derived.Test.YtcgaabciagiodaaLawC
import Derived.Test.YtcgaabciagiodaaRbE
namespace Go.Rb.S1
open Go.Rb

abbrev V : Type := Int × Int × List Int × Unit
abbrev Cl : Type := Int × List Int × Int × Unit

theorem F59_text (n : Nat) (l : List Int) : F59 n ((4, 0, l, ()), ()) = some ((decide ((l.length : Int) ≤ 20), ()), ()) := by
  simp [F59]

theorem F53_text (n : Nat) (l : List Int) (hl : l.length ≤ 20) : F53 n (4, (4, 0, l, ()), ()) = some ((true, ()), ()) := by
  have : (l.length : Int) ≤ 20 := by omega
  simp [F53, F59_text, this]

theorem F53_none (n : Nat) : F53 n (4, (0, 0, [], ()), ()) = some ((true, ()), ()) := by
  simp [F53, F59]

theorem F35_one (n : Nat) (nm : List Int) (l : List Int) (hl : l.length ≤ 20) (id last : Int) : F35 (n + 2) (([(id, nm, 4, ())], last, ()), [(4, 0, l, ())], ()) = some ((true, ()), ()) := by
  have hw : IntKind.i64.wrap 1 = 1 := by decide
  simp [F35, F51, F52, iterF, atI, F53_text _ _ hl, hw]

theorem F35_two (n : Nat) (m1 m2 : List Int) (l : List Int) (hl : l.length ≤ 20) (v : V) (i1 i2 last : Int) (hv : ∀ n, F53 n (4, v, ()) = some ((true, ()), ())) : F35 (n + 3) (([(i1, m1, 4, ()), (i2, m2, 4, ())], last, ()), [(4, 0, l, ()), v], ()) = some ((true, ()), ()) := by
  have hw : IntKind.i64.wrap 1 = 1 := by decide
  have hw2 : IntKind.i64.wrap 2 = 2 := by decide
  simp [F35, F51, F52, iterF, atI, F53_text _ _ hl, hw, hw2, hv]

theorem F37_one (n : Nat) (nm : List Int) (last : Int) : F37 (n + 2) (([(1, nm, 4, ())], last, ()), 1, ()) = some ((0, true, ()), ()) := by
  simp [F37, F54, F55, iterF, atI]

theorem F37_two (n : Nat) (m1 m2 : List Int) (last : Int) : F37 (n + 3) (([(1, m1, 4, ()), (2, m2, 4, ())], last, ()), 2, ()) = some ((1, true, ()), ()) := by
  have hw : IntKind.i64.wrap 1 = 1 := by decide
  simp [F37, F54, F55, iterF, atI, hw]

/-- What a Text comes to that is split. -/
def halves (l : List Int) (c : Int) : V × V := if idxI l c < 0 then ((4, 0, l, ()), (0, 0, [], ())) else ((4, 0, l.take (idxI l c).toNat, ()), (4, 0, l.drop ((idxI l c).toNat + 1), ()))

theorem F40_text (n : Nat) (l : List Int) (c : Int) (hl : l.length ≤ 20) : F40 n ((4, 0, l, ()), c, ()) = some (((halves l c).1, (halves l c).2, ()), ()) := by
  have hi := idxI_lt c l
  unfold F40 F56 ixF halves
  simp only [Option.bind_some]
  by_cases h : idxI l c < 0
  · simp [h]
  · have hw : IntKind.i64.wrap (idxI l c + 1) = idxI l c + 1 := wrap_i64 (by omega) (by omega)
    have h1 : (0 ≤ idxI l c ∧ idxI l c ≤ (l.length : Int)) := by omega
    have h2 : (0 ≤ idxI l c + 1 ∧ idxI l c + 1 ≤ (l.length : Int)) := by omega
    have h3 : (idxI l c + 1).toNat = (idxI l c).toNat + 1 := by omega
    simp [h, hw, h1, h2, h3]

theorem F19_split (n : Nat) (l : List Int) (c : Int) (hl : l.length ≤ 20) :
    F19 (n + 2) (([(1, [97], 4, ())], 1, ()), (5, 1, [98], 0, (0, 0, [], ()), c, 0, ()), [(4, 0, l, ())], ()) = some (([(halves l c).1, (halves l c).2], true, ()), ()) := by
  have hw : IntKind.i64.wrap 1 = 1 := by decide
  have h41 : ∀ a b : V, F41 (n + 2) ([a], 1, [b], ()) = some (([a, b], ()), ()) := fun a b => by
    simp [F41, insF, room]
  unfold F19
  dsimp only
  rw [F35_one n [97] l hl 1 1]
  simp only [Option.bind_some]
  simp [F36, F37_one, joinF, atI, F40_text _ _ _ hl, hw, h41]

theorem F19_drop (n : Nat) (a b : V) (l : List Int) (ha : a = (4, 0, l, ())) (hl : l.length ≤ 20) (hv : ∀ n, F53 n (4, b, ()) = some ((true, ()), ())) :
    F19 (n + 3) (([(1, [97], 4, ()), (2, [98], 4, ())], 2, ()), (2, 2, [], 0, (0, 0, [], ()), 0, 0, ()), [a, b], ()) = some (([a], true, ()), ()) := by
  have hw : IntKind.i64.wrap (1 + 1) = 2 := by decide
  have h38 : F38 (n + 3) ([a, b], 1, 2, ()) = some (([a], ()), ()) := by
    simp [F38, delF]
  unfold F19
  dsimp only
  subst ha
  rw [F35_two n [97] [98] l hl b 1 2 2 hv]
  simp only [Option.bind_some]
  simp [F36, F37_two, joinF, hw]
  rw [show IntKind.i64.wrap 2 = 2 by decide] at *
  simp [h38]

end Go.Rb.S1

namespace Go.Rb.S1
open Go.Rb

theorem getD_lt {α : Type} {l : List α} {i : Nat} {d : α} (hi : i < l.length) : l.getD i d = l[i] := by
  rw [List.getD_eq_getElem?_getD, List.getElem?_eq_getElem hi]
  rfl

/-- Where a byte first is. -/
theorem idxI_spec (c : Int) : ∀ l : List Int, (idxI l c < 0 ∧ ∀ k, k < l.length → l.getD k 0 ≠ c) ∨ (0 ≤ idxI l c ∧ l.getD (idxI l c).toNat 0 = c ∧ ∀ k, k < (idxI l c).toNat → l.getD k 0 ≠ c)
  | [] => .inl ⟨by simp [idxI], fun k hk => by simp at hk⟩
  | b :: l => by
    by_cases hb : b = c
    · subst hb
      exact .inr ⟨by simp [idxI], by simp [idxI], fun k hk => by simp [idxI] at hk⟩
    · have hlt := idxI_lt c l
      rcases idxI_spec c l with ⟨h1, h2⟩ | ⟨h1, h2, h3⟩
      · left
        have he : idxI l c = -1 := by omega
        refine ⟨by simp [idxI, hb, he], fun k hk => ?_⟩
        cases k with
        | zero => simpa using hb
        | succ k => simpa using h2 k (by simpa using hk)
      · right
        have he : idxI l c ≠ -1 := by omega
        have hv : idxI (b :: l) c = idxI l c + 1 := by simp [idxI, hb, he]
        have ht : (idxI l c + 1).toNat = (idxI l c).toNat + 1 := by omega
        rw [hv, ht]
        refine ⟨by omega, by simpa using h2, fun k hk => ?_⟩
        cases k with
        | zero => simpa using hb
        | succ k => simpa using h3 k (by omega)

theorem split_at (l : List Int) (i : Nat) (hi : i < l.length) (c : Int) (hc : l.getD i 0 = c) : l.take i ++ [c] ++ l.drop (i + 1) = l := by
  rw [getD_lt hi] at hc
  rw [List.append_assoc, ← hc]
  simp

theorem begun12 : F12 200 () = some ((true, ()), ()) := by kernel_rfl

theorem law_joins (l : List Int) (c : Int) : Gets (F5 200 (l, c, ())) fun y => y.1.1 = true := by
  unfold F5
  rw [begun12]
  dsimp only [Option.bind_some]
  refine .not (fun h => by simp at h) fun _ => .dec (fun _ => .some rfl) fun h20 => ?_
  have hl : l.length ≤ 20 := by omega
  rw [F19_split 198 l c hl]
  dsimp only [Option.bind_some]
  have hlt := idxI_lt c l
  obtain ⟨a, b, sa, sb, hh, ha, hcase⟩ : ∃ (a b : V) (sa sb : List Int), halves l c = (a, b) ∧ a = (4, 0, sa, ()) ∧
      ((b = (4, 0, sb, ()) ∧ sa ++ [c] ++ sb = l ∧ (∃ k, k < l.length ∧ l.getD k 0 = c)) ∨ (sa = l ∧ b = (0, 0, [], ()) ∧ ∀ k, k < l.length → l.getD k 0 ≠ c)) ∧ True := by
    rcases idxI_spec c l with ⟨h1, h2⟩ | ⟨h1, h2, h3⟩
    · exact ⟨(4, 0, l, ()), (0, 0, [], ()), l, [], by simp [halves, h1], rfl, .inr ⟨rfl, rfl, h2⟩, trivial⟩
    · exact ⟨_, _, _, _, by simp [halves, show ¬ idxI l c < 0 by omega], rfl, .inl ⟨rfl, split_at l _ (by omega) c h2, _, by omega, h2⟩, trivial⟩
  have hsa : ∀ k, k < sa.length → sa.getD k 0 ≠ c := by
    rcases idxI_spec c l with ⟨h1, h2⟩ | ⟨h1, h2, h3⟩
    · have : halves l c = ((4, 0, l, ()), (0, 0, [], ())) := by simp [halves, h1]
      rw [hh] at this
      obtain ⟨rfl, _⟩ := Prod.mk.inj this
      obtain rfl : sa = l := by
        have := congrArg (fun v : V => v.2.2.1) ha
        exact this.symm
      exact h2
    · have : halves l c = ((4, 0, l.take (idxI l c).toNat, ()), (4, 0, l.drop ((idxI l c).toNat + 1), ())) := by simp [halves, show ¬ idxI l c < 0 by omega]
      rw [hh] at this
      obtain ⟨rfl, _⟩ := Prod.mk.inj this
      obtain rfl : sa = l.take (idxI l c).toNat := by
        have := congrArg (fun v : V => v.2.2.1) ha
        exact this.symm
      intro k hk
      have hk' : k < (idxI l c).toNat := by
        rw [List.length_take] at hk
        omega
      rw [getD_lt hk, List.getElem_take, ← getD_lt (d := 0)]
      exact h3 k hk'
  have hsl : sa.length ≤ 20 := by
    rcases hcase.1 with ⟨_, h, _⟩ | ⟨rfl, _⟩
    · have := congrArg List.length h
      simp at this
      omega
    · exact hl
  rw [hh]
  dsimp only
  subst ha
  refine .not (fun h => by simp at h) fun _ => .ite (fun h => by simp at h) fun _ => .atI (by simp) (by simp) (.ite (fun h => by simp at h) fun _ => ?_)
  refine .iter (fun s => 0 ≤ s.2 ∧ s.2 ≤ l.length ∧ (s.1 = true ↔ ∃ k : Nat, (k : Int) < s.2 ∧ l.getD k 0 = c)) (fun s => ((l.length : Int) - s.2).toNat) ⟨by simp, by simp, by simp; intro x hx; omega⟩ (by simp; omega) fun rec s hi ih => ?_
  obtain ⟨q1, q2, q3⟩ := hi
  refine .dec (fun h => ?_) fun h => ?_
  · refine .ite (fun hs => ih _ ⟨?_, ?_, ?_⟩ ?_) fun hs => .atI q1 h (ih _ ⟨?_, ?_, ?_⟩ ?_)
    · dsimp only; rw [wrap_i64 (by omega) (by omega)]; omega
    · dsimp only; rw [wrap_i64 (by omega) (by omega)]; omega
    · dsimp only
      rw [wrap_i64 (by omega) (by omega)]
      obtain ⟨k, h1, h2⟩ := q3.1 hs
      exact ⟨fun _ => ⟨k, by omega, h2⟩, fun _ => rfl⟩
    · dsimp only; rw [wrap_i64 (by omega) (by omega)]; omega
    · dsimp only; rw [wrap_i64 (by omega) (by omega)]; omega
    · dsimp only; rw [wrap_i64 (by omega) (by omega)]; omega
    · dsimp only
      rw [wrap_i64 (by omega) (by omega), decide_eq_true_eq]
      constructor
      · intro h1
        exact ⟨s.2.toNat, by omega, h1⟩
      · rintro ⟨k, h1, h2⟩
        by_cases hk : (k : Int) < s.2
        · exact absurd (q3.2 ⟨k, hk, h2⟩) hs
        · have : s.2.toNat = k := by omega
          rw [this]; exact h2
    · dsimp only; rw [wrap_i64 (by omega) (by omega)]; omega
  · have hs : s.2 = l.length := by omega
    have hhas : s.1 = decide (b.1 = 4) := by
      rw [Bool.eq_iff_iff, q3, hs, decide_eq_true_eq]
      rcases hcase.1 with ⟨rfl, _, k, h1, h2⟩ | ⟨_, rfl, h1⟩
      · exact ⟨fun _ => rfl, fun _ => ⟨k, by omega, h2⟩⟩
      · constructor
        · rintro ⟨k, h2, h3⟩
          exact absurd h3 (h1 k (by omega))
        · intro h2; simp at h2
    refine .atI (by simp) (by simp) (.join (fun t => t = l) (fun t ht => ?_) fun J hJ => ?_)
    · subst ht
      refine .iter (fun u => 0 ≤ u ∧ u ≤ sa.length) (fun u => ((sa.length : Int) - u).toNat) ⟨by simp, by simp⟩ (by simp; omega) fun rec' u hu ih' => ?_
      obtain ⟨u1, u2⟩ := hu
      refine .atI (by simp) (by simp) (.dec (fun h' => ?_) fun h' => ?_)
      · have h'' : u < (sa.length : Int) := by simpa using h'
        refine .atI (by simp) (by simp) (.atI u1 (by simpa using h') (.dec (fun hc => ?_) fun _ => ih' _ ⟨?_, ?_⟩ ?_))
        · exact absurd (by simpa using hc) (hsa u.toNat (by omega))
        · rw [wrap_i64 (by omega) (by omega)]; omega
        · rw [wrap_i64 (by omega) (by omega)]; omega
        · rw [wrap_i64 (by omega) (by omega)]; omega
      · refine .join (fun _ => True) (fun _ _ => ?_) fun J hJ => ?_
        · have hv : ∀ n, F53 n (4, b, ()) = some ((true, ()), ()) := fun n => by
            rcases hcase.1 with ⟨rfl, h1, _⟩ | ⟨_, rfl, _⟩
            · refine F53_text n sb ?_
              have := congrArg List.length h1
              simp at this
              omega
            · exact F53_none n
          rw [F19_drop 197 (4, 0, sa, ()) b sa rfl hsl hv]
          dsimp only [Option.bind_some]
          refine .pos rfl (.dec (fun _ => .atI (by simp) (by simp) (.atI (by simp) (by simp) (.some ?_))) fun h => by simp at h)
          simp
        · refine .ite (fun h => by simp at h) fun _ => .atI (by simp) (by simp) (.ite (fun h => ?_) fun _ => ?_)
          · rw [hhas] at h
            simp at h
          · refine .ite (fun h => ?_) fun _ => hJ _ trivial
            refine .atI (by simp) (by simp) (.ite (fun h2 => ?_) fun _ => hJ _ trivial)
            rw [hhas] at h
            rcases hcase.1 with ⟨rfl, _⟩ | ⟨_, rfl, _⟩
            · simp at h
            · simp at h2
    · refine .atI (by simp) (by simp) ?_
      rcases hcase.1 with ⟨rfl, h1, _⟩ | ⟨rfl, rfl, _⟩
      · have hlen := congrArg List.length h1
        simp at hlen
        refine .dec (fun _ => .pos (by simp; omega) (.atI (by simp) (by simp) (.pos (by simp; omega) (hJ _ ?_)))) fun h => by simp at h
        simpa using h1
      · exact .dec (fun h => by simp at h) fun _ => hJ _ (by simp)

end Go.Rb.S1
