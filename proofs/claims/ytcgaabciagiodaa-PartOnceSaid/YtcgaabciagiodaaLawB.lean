/- The plain law of PartOnce: what the functions compute. Own work. -/
import Derived.Test.YtcgaabciagiodaaLawA
import Derived.Test.YtcgaabciagiodaaRbE
namespace Go.Rb.S1
open Go.Rb

abbrev V : Type := Int × Int × List Int × Unit
abbrev Pks : Type := List Int × Int × Unit
abbrev Cl : Type := Int × List Int × Int × Unit

/-- Numbers from which choices are read. -/
def Nums (l : List Int) : Prop := l.length ≤ 60 ∧ ∀ c, c ∈ l → 0 ≤ c ∧ c ≤ 255
def Pk (l : List Int) (st : Pks) : Prop := st.1 = l ∧ 0 ≤ st.2.1 ∧ st.2.1 ≤ l.length

theorem num {l : List Int} {st : Pks} {m : Int} (n : Nat) (hl : Nums l) (hp : Pk l st) (hm : 1 ≤ m) : Gets (F22 n (st, m, ())) fun y => 0 ≤ y.1.1 ∧ y.1.1 < m ∧ Pk l y.2.1 := by
  obtain ⟨l', k, u⟩ := st
  obtain ⟨rfl, h1, h2⟩ := hp
  obtain ⟨g1, g2⟩ := hl
  unfold F22
  dsimp only at *
  refine .dec (fun h => .some ⟨Int.le_refl _, by dsimp only; omega, rfl, h1, h2⟩) fun h => ?_
  rw [wrap_i64 (x := k + 1) (by omega) (by omega), show k + 1 - 1 = k by omega, wrap_i64 (x := k) (by omega) (by omega)]
  refine .atI h1 (by omega) (.neg (by omega) (.some ?_))
  have hc : 0 ≤ l'.getD k.toNat 0 ∧ l'.getD k.toNat 0 ≤ 255 := by
    have hk : k.toNat < l'.length := by omega
    rw [List.getD_eq_getElem?_getD, List.getElem?_eq_getElem hk]
    exact g2 _ (List.getElem_mem hk)
  rw [wrap_i64 (x := l'.getD k.toNat 0) (by omega) (by omega)]
  exact ⟨Int.tmod_nonneg _ hc.1, Int.tmod_lt_of_pos _ (by omega), rfl, by dsimp only; omega, by dsimp only; omega⟩

theorem gets_F9 {l : List Int} {st : Pks} {n : Nat} (hn : 20 ≤ n) (hl : Nums l) (hp : Pk l st) : Gets (F9 n (st, ())) fun y => 2 ≤ y.1.1.1.length ∧ y.1.1.1.length ≤ 4 ∧ Pk l y.2.1 := by
  unfold F9
  dsimp only
  refine .bind (num n hl hp (by omega)) fun y1 ⟨_, _, p1⟩ => ?_
  refine .bind (num n hl p1 (by omega)) fun y2 ⟨a2, b2, p2⟩ => ?_
  refine .iter (fun s => Pk l s.1 ∧ 0 ≤ s.2.2 ∧ 2 ≤ s.2.1.1.length ∧ s.2.1.1.length + s.2.2 ≤ 4) (fun s => s.2.2.toNat) ⟨p2, a2, by simp, by simp; omega⟩ (by dsimp only; omega) fun rec s hi ih => ?_
  obtain ⟨q1, q2, q3, q4⟩ := hi
  refine .dec (fun h => ?_) fun h => ?_
  · refine .pos (by simp) (.bind (num n hl q1 (by omega)) fun y5 ⟨_, _, p5⟩ => ?_)
    refine .pos (by simp [room]; omega) (ih _ ⟨p5, ?_, ?_, ?_⟩ ?_)
    all_goals (try simp only [List.length_append, List.length_cons, List.length_nil]); (try rw [wrap_i64 (by omega) (by omega)]); omega
  · refine .iter (fun t => Pk l t.1 ∧ 2 ≤ t.2.1.1.length ∧ t.2.1.1.length ≤ 4 ∧ 0 ≤ t.2.2.2 ∧ t.2.2.2 ≤ t.2.1.1.length ∧ (t.2.2.1.2.2.2.1.length : Int) = t.2.2.2) (fun t => (4 - t.2.2.2).toNat) ⟨q1, q3, by dsimp only; omega, by simp, by simp, by simp⟩ (by dsimp only; omega) fun rec' t hj ih' => ?_
    obtain ⟨r1, r2, r3, r4, r5, r6⟩ := hj
    refine .dec (fun h => ?_) fun h => ?_
    · refine .bind (num n hl r1 (by omega)) fun y8 ⟨_, _, p8⟩ => ?_
      refine .pos (by simp [room]; omega) (ih' _ ⟨p8, r2, r3, ?_, ?_, ?_⟩ ?_)
      all_goals (try simp only [List.length_append, List.length_cons, List.length_nil]); (rw [wrap_i64 (by omega) (by omega)]); omega
    · refine .join (fun u => Pk l u.1 ∧ 2 ≤ u.2.1.1.length ∧ u.2.1.1.length ≤ 4) (fun u hu => ?_) fun J hJ => ?_
      · obtain ⟨v1, v2, v3⟩ := hu
        refine .bind (num n hl v1 (by omega)) fun y11 ⟨_, _, p11⟩ => ?_
        refine .dec (fun h => ?_) fun h => .some ⟨v2, v3, p11⟩
        refine .bind (num n hl p11 (by omega)) fun y12 ⟨_, _, p12⟩ => ?_
        refine .bind (num n hl p12 (by omega)) fun y13 ⟨_, _, p13⟩ => ?_
        exact .some ⟨v2, v3, p13⟩
      · refine .bind (num n hl r1 (by omega)) fun y14 ⟨_, _, p14⟩ => ?_
        refine .dec (fun h => ?_) fun h => hJ _ ⟨p14, r2, r3⟩
        refine .bind (num n hl p14 (by omega)) fun y15 ⟨_, _, p15⟩ => ?_
        exact hJ _ ⟨p15, r2, r3⟩

/-- A value whose text is not long. -/
def Small (v : V) : Prop := v.2.2.1.length ≤ 20

theorem gets_F26 {l : List Int} {st : Pks} {t : Int} (n : Nat) (hl : Nums l) (hp : Pk l st) : Gets (F26 n (st, t, ())) fun y => Small y.1.1 ∧ Pk l y.2.1 := by
  unfold F26
  dsimp only
  refine .bind (num n hl hp (by omega)) fun y1 ⟨a1, b1, p1⟩ => ?_
  refine .join (fun s => Pk l s.1) (fun s hs => ?_) fun J hJ => ?_
  · refine .dec (fun h => ?_) fun h => ?_
    · exact .atI a1 (by simpa using b1) (.some ⟨by simp [Small], hs⟩)
    refine .dec (fun h => ?_) fun h => ?_
    · exact .atI a1 (by simpa using b1) (.some ⟨by simp [Small], hs⟩)
    refine .dec (fun h => ?_) fun h => ?_
    · exact .some ⟨by simp [Small], hs⟩
    refine .atI a1 (by simpa using b1) (.some ⟨?_, hs⟩)
    unfold Small
    dsimp only
    have : y1.1.1.toNat < 9 := by omega
    generalize y1.1.1.toNat = i at this
    have key : ∀ i, i < 9 → (([[], [97], [98], [97, 58, 98], [97, 98], [120, 58, 121, 58, 122], [58], [116, 119, 101, 110, 116, 121, 45, 98, 121, 116, 101, 115, 45, 111, 102, 45, 116, 101, 120, 116], [99]] : List (List Int)).getD i []).length ≤ 20 := by decide
    exact key i this
  · refine .dec (fun h => ?_) fun h => hJ _ p1
    refine .bind (Q' := fun y => Pk l y.2.1) (.some p1) fun y4 p4 => ?_
    exact .not (fun _ => .some ⟨by simp [Small], p4⟩) fun _ => hJ _ p4

theorem gets_F32 {l : List Int} {st : Pks} {s : List Cl × Int × Unit} {n : Nat} (hn : 20 ≤ n) (hl : Nums l) (hp : Pk l st) (hc : s.1.length ≤ 4) :
    Gets (F32 n (st, s, ())) fun y => y.1.1.length = s.1.length ∧ (∀ v, v ∈ y.1.1 → Small v) ∧ Pk l y.2.1 := by
  unfold F32
  dsimp only
  refine .iter (fun t => Pk l t.1 ∧ (∀ v, v ∈ t.2.1 → Small v) ∧ (t.2.1.length : Int) = t.2.2 ∧ t.2.2 ≤ s.1.length) (fun t => (4 - t.2.2).toNat) ⟨hp, by simp, by simp, by simp⟩ (by dsimp only; omega) fun rec t hi ih => ?_
  obtain ⟨q1, q2, q3, q4⟩ := hi
  refine .dec (fun h => ?_) fun h => ?_
  · refine .atI (by omega) h (.bind (gets_F26 n hl q1) fun y3 ⟨a3, p3⟩ => ?_)
    refine .pos (by simp [room]; omega) (ih _ ⟨p3, ?_, ?_, ?_⟩ ?_)
    · intro v hv
      rcases List.mem_append.1 hv with hv | hv
      · exact q2 v hv
      · rw [List.mem_singleton.1 hv]; exact a3
    all_goals (try simp only [List.length_append, List.length_cons, List.length_nil]); (rw [wrap_i64 (by omega) (by omega)]); omega
  · exact .some ⟨by dsimp only; omega, q2, q1⟩

theorem gets_F15 {l : List Int} {st : Pks} {s : List Cl × Int × Unit} {n : Nat} (hn : 50 ≤ n) (hl : Nums l) (hp : Pk l st) (hc : s.1.length ≤ 4) :
    Gets (F15 n (st, s, 20, ())) fun y => y.1.1.length = 20 ∧ (∀ r, r ∈ y.1.1 → r.length = s.1.length ∧ ∀ v, v ∈ r → Small v) ∧ Pk l y.2.1 := by
  unfold F15
  dsimp only
  refine .iter (fun t => Pk l t.1 ∧ (∀ r, r ∈ t.2.1 → r.length = s.1.length ∧ ∀ v, v ∈ r → Small v) ∧ (t.2.1.length : Int) = t.2.2 ∧ t.2.2 ≤ 20) (fun t => (20 - t.2.2).toNat) ⟨hp, by simp, by simp, by simp⟩ (by dsimp only; omega) fun rec t hi ih => ?_
  obtain ⟨q1, q2, q3, q4⟩ := hi
  refine .dec (fun h => ?_) fun h => ?_
  · refine .bind (gets_F32 (by omega) hl q1 hc) fun y3 ⟨a3, b3, p3⟩ => ?_
    refine .pos (by simp [room]; omega) (ih _ ⟨p3, ?_, ?_, ?_⟩ ?_)
    · intro v hv
      rcases List.mem_append.1 hv with hv | hv
      · exact q2 v hv
      · rw [List.mem_singleton.1 hv]; exact ⟨a3, b3⟩
    all_goals (try simp only [List.length_append, List.length_cons, List.length_nil]); (rw [wrap_i64 (by omega) (by omega)]); omega
  · exact .some ⟨by dsimp only; omega, q2, q1⟩

end Go.Rb.S1

namespace Go.Rb.S1
open Go.Rb

theorem getD_set {α : Type} (l : List α) (i j : Nat) (a d : α) (hi : i < l.length) : (l.set i a).getD j d = if i = j then a else l.getD j d := by
  simp only [List.getD_eq_getElem?_getD, List.getElem?_set, hi, if_true]
  split <;> rfl

theorem getD_mem {α : Type} {l : List α} {i : Nat} {d : α} (hi : i < l.length) : l.getD i d ∈ l := by
  rw [List.getD_eq_getElem?_getD, List.getElem?_eq_getElem hi]
  exact List.getElem_mem hi

theorem getD_lt {α : Type} {l : List α} {i : Nat} {d : α} (hi : i < l.length) : l.getD i d = l[i] := by
  rw [List.getD_eq_getElem?_getD, List.getElem?_eq_getElem hi]
  rfl

/-- Columns of a batch: so many, each of 20 values. -/
def Cols (c : Nat) (l : List (List V)) : Prop := l.length = c ∧ ∀ j, j < c → (l.getD j []).length = 20 ∧ ∀ v, v ∈ l.getD j [] → Small v

theorem gets_F23 {rows : List (List V)} {c : Nat} {n : Nat} (hn : 50 ≤ n) (hc : 2 ≤ c) (hc4 : c ≤ 4) (hr : rows.length = 20) (hrow : ∀ r, r ∈ rows → r.length = c ∧ ∀ v, v ∈ r → Small v) :
    Gets (F23 n (rows, c, ())) fun y => Cols c y.1.1 := by
  unfold F23
  dsimp only
  refine .dec (fun h => by omega) fun h => .dec (fun h => by omega) fun h2 => .pos (by simp [room]; omega) ?_
  refine .iter (fun s => 0 ≤ s.2 ∧ s.2 ≤ 20 ∧ s.1.length = c ∧ ∀ j, j < c → ((s.1.getD j []).length : Int) = s.2 ∧ ∀ v, v ∈ s.1.getD j [] → Small v) (fun s => (20 - s.2).toNat) ⟨by simp, by simp, by simp, fun j hj => ?_⟩ (by dsimp only; omega) fun rec s hi ih => ?_
  · rw [getD_lt (by simp; exact hj)]
    simp
  obtain ⟨q1, q2, q3, q4⟩ := hi
  refine .dec (fun h => ?_) fun h => ?_
  · have hmem : rows.getD s.2.toNat [] ∈ rows := getD_mem (by omega)
    obtain ⟨g1, g2⟩ := hrow _ hmem
    refine .atI q1 (by omega) (.ite (fun h => by rw [g1] at h; simp at h) fun _ => ?_)
    refine .iter (fun t => 0 ≤ t.2 ∧ t.2 ≤ c ∧ t.1.length = c ∧ ∀ j, j < c → ((t.1.getD j []).length : Int) = (if (j : Int) < t.2 then s.2 + 1 else s.2) ∧ ∀ v, v ∈ t.1.getD j [] → Small v) (fun t => (4 - t.2).toNat) ⟨by simp, by simp, q3, fun j hj => ?_⟩ (by dsimp only; omega) fun rec' t hj ih' => ?_
    · rw [if_neg (by dsimp only; omega)]
      exact q4 j hj
    obtain ⟨r1, r2, r3, r4⟩ := hj
    refine .dec (fun h' => ?_) fun h' => ?_
    · have hlen := (r4 t.2.toNat (by omega)).1
      rw [if_neg (by omega)] at hlen
      refine .atI r1 (by omega) (.atI q1 (by omega) (.atI r1 (by omega) (.pos (by simp [room] at *; omega) (.atI r1 (by omega) (.pos rfl (ih' _ ⟨?_, ?_, ?_, fun j hj => ?_⟩ ?_))))))
      · dsimp only; rw [wrap_i64 (by omega) (by omega)]; omega
      · dsimp only; rw [wrap_i64 (by omega) (by omega)]; omega
      · simp [r3]
      · dsimp only
        rw [wrap_i64 (by omega) (by omega), getD_set _ _ _ _ _ (by omega)]
        split
        · rename_i hj'
          subst hj'
          rw [if_pos (by omega)]
          refine ⟨by rw [List.length_append]; simp only [List.length_cons, List.length_nil]; omega, fun v hv => ?_⟩
          rcases List.mem_append.1 hv with hv | hv
          · exact (r4 _ hj).2 v hv
          · rw [List.mem_singleton.1 hv]
            exact g2 _ (getD_mem (by omega))
        · rename_i hj'
          obtain ⟨k1, k2⟩ := r4 j hj
          refine ⟨?_, k2⟩
          rw [k1]
          split <;> split <;> omega
      · dsimp only; rw [wrap_i64 (by omega) (by omega)]; omega
    · refine ih _ ⟨?_, ?_, r3, fun j hj => ?_⟩ ?_
      · dsimp only; rw [wrap_i64 (by omega) (by omega)]; omega
      · dsimp only; rw [wrap_i64 (by omega) (by omega)]; omega
      · obtain ⟨k1, k2⟩ := r4 j hj
        dsimp only
        rw [if_pos (by omega)] at k1
        rw [wrap_i64 (by omega) (by omega)]
        exact ⟨k1, k2⟩
      · dsimp only; rw [wrap_i64 (by omega) (by omega)]; omega
  · refine .some ⟨q3, fun j hj => ?_⟩
    obtain ⟨k1, k2⟩ := q4 j hj
    exact ⟨by dsimp only; omega, k2⟩

theorem gets_F10 {l : List Int} {st : Pks} {s : List Cl × Int × Unit} {n : Nat} (hn : 50 ≤ n) (hl : Nums l) (hp : Pk l st) (hc : 2 ≤ s.1.length) (hc4 : s.1.length ≤ 4) :
    Gets (F10 n (st, s, 20, ())) fun y => Cols s.1.length y.1.1 := by
  unfold F10
  dsimp only
  refine .bind (gets_F15 hn hl hp hc4) fun y1 ⟨a1, b1, p1⟩ => ?_
  exact .bind (gets_F23 hn hc hc4 a1 b1) fun y2 a2 => .some a2

theorem gets_F42 {v : V} {n : Nat} (hn : 20 ≤ n) (hv : Small v) : Gets (F42 n (v, ())) fun y => y.1.1.length ≤ 21 := by
  unfold F42
  dsimp only
  unfold Small at hv
  refine .dec (fun h => .some (by simp)) fun h => .dec (fun h => .pos (by simp [room]; omega) (.some (by simp; omega))) fun h => ?_
  refine .iter (fun s => -1 ≤ s.2 ∧ s.2 ≤ 7 ∧ (s.1.length : Int) = 8 - s.2) (fun s => (s.2 + 1).toNat) ⟨by simp, by simp, by simp⟩ (by simp; omega) fun rec s hi ih => ?_
  obtain ⟨q1, q2, q3⟩ := hi
  refine .dec (fun h => ?_) fun h => .some (by dsimp only; omega)
  refine .neg (by rw [wrap_i64 (by omega) (by omega)]; omega) (.pos (by simp [room]; omega) (ih _ ⟨?_, ?_, ?_⟩ ?_))
  all_goals (try simp only [List.length_append, List.length_cons, List.length_nil]); (rw [wrap_i64 (x := s.2 - 1) (by omega) (by omega)]); omega

def partOf (n : Nat) (v : V) (k : Int) : Int := match F20 n (v, k, ()) with
  | some y => y.1.1
  | none => 0

theorem gets_F20 {v : V} {k : Int} {n : Nat} (hn : 50 ≤ n) (hv : Small v) (hk : 1 ≤ k) (hk4 : k ≤ 4) : Gets (F20 n (v, k, ())) fun y => y.1.1 = partOf n v k ∧ 0 ≤ y.1.1 ∧ y.1.1 < k := by
  have h : Gets (F20 n (v, k, ())) fun y => 0 ≤ y.1.1 ∧ y.1.1 < k := by
    unfold F20
    dsimp only
    refine .dec (fun h => .some ⟨by simp, by dsimp only; omega⟩) fun h => ?_
    refine .bind (gets_F42 (by omega) hv) fun y1 hy => ?_
    refine .iter (fun s => 0 ≤ s.2 ∧ s.2 ≤ y1.1.1.length) (fun s => ((y1.1.1.length : Int) - s.2).toNat) ⟨by simp, by simp⟩ (by simp; omega) fun rec s hi ih => ?_
    obtain ⟨q1, q2⟩ := hi
    refine .dec (fun h => ?_) fun h => ?_
    · refine .atI q1 h (ih _ ⟨?_, ?_⟩ ?_)
      all_goals dsimp only; (rw [wrap_i64 (by omega) (by omega)]); omega
    · have hu := u64_range s.1
      have e1 := Int.tmod_nonneg k (a := IntKind.u64.wrap s.1) hu.1
      have e2 := Int.tmod_lt_of_pos (IntKind.u64.wrap s.1) (b := k) (by omega)
      rw [wrap_u64 (x := k) (by omega) (by omega)]
      refine .neg (by omega) (.some ?_)
      dsimp only
      rw [wrap_i64 (by omega) (by omega)]
      exact ⟨e1, e2⟩
  obtain ⟨y, h1, h2⟩ := h
  exact ⟨y, h1, by simp [partOf, h1], h2⟩

theorem gets_F24 {cols : List (List V)} {c n : Nat} (hn : 50 ≤ n) (hc : 2 ≤ c) (hc4 : c ≤ 4) (h : Cols c cols) : Gets (F24 n (cols, ())) fun y => y.1.1 = 20 := by
  obtain ⟨h1, h2⟩ := h
  have h0 := (h2 0 (by omega)).1
  unfold F24
  dsimp only
  refine .dec (fun h => by omega) fun h => .atI (by omega) (by omega) ?_
  refine .iter (fun s => s.1 = 20 ∧ 0 ≤ s.2 ∧ s.2 ≤ c) (fun s => (4 - s.2).toNat) ⟨by show ((cols.getD 0 []).length : Int) = 20; omega, by simp, by simp⟩ (by simp; omega) fun rec s hi ih => ?_
  obtain ⟨q1, q2, q3⟩ := hi
  refine .dec (fun h => ?_) fun h => .some q1
  refine .atI q2 h (ih _ ⟨?_, ?_, ?_⟩ ?_)
  · have := (h2 s.2.toNat (by omega)).1
    dsimp only
    split <;> omega
  all_goals dsimp only; (rw [wrap_i64 (by omega) (by omega)]); omega

end Go.Rb.S1

namespace Go.Rb.S1
open Go.Rb

structure Parts (p : Nat → Int) (k : Nat) (m : Int) (l : List (List Int)) : Prop where
  len : l.length = k
  inc : ∀ j, j < k → (l.getD j []).Pairwise (· < ·)
  mem : ∀ j, j < k → ∀ r, r ∈ l.getD j [] → 0 ≤ r ∧ r < m ∧ p r.toNat = j
  sum : ((l.map List.length).sum : Int) = m
  all : ∀ r : Nat, (r : Int) < m → ∃ j, j < k ∧ (r : Int) ∈ l.getD j []

theorem sum_set : ∀ (l : List (List Int)) (j : Nat) (x : Int), j < l.length → (((l.set j (l.getD j [] ++ [x])).map List.length).sum) = (l.map List.length).sum + 1
  | [], j, x, h => by simp at h
  | a :: l, 0, x, _ => by simp; omega
  | a :: l, j + 1, x, h => by
    have := sum_set l j x (by simpa using h)
    simp only [List.set_cons_succ, List.map_cons, List.sum_cons, List.getD_cons_succ, this]
    omega

theorem Parts.push {p : Nat → Int} {k : Nat} {m : Int} {l : List (List Int)} (h : Parts p k m l) (hm : 0 ≤ m) {j : Nat} (hj : j < k) (hp : p m.toNat = j) : Parts p k (m + 1) (l.set j (l.getD j [] ++ [m])) := by
  have hj' : j < l.length := by rw [h.len]; exact hj
  refine ⟨by simp [h.len], fun i hi => ?_, fun i hi r hr => ?_, ?_, fun r hr => ?_⟩
  · rw [getD_set _ _ _ _ _ hj']
    split
    · rename_i he
      subst he
      rw [List.pairwise_append]
      refine ⟨h.inc j hj, by simp, fun a ha b hb => ?_⟩
      rw [List.mem_singleton.1 hb]
      exact (h.mem j hj a ha).2.1
    · exact h.inc i hi
  · rw [getD_set _ _ _ _ _ hj'] at hr
    split at hr
    · rename_i he
      subst he
      rcases List.mem_append.1 hr with hr | hr
      · obtain ⟨g1, g2, g3⟩ := h.mem j hj r hr
        exact ⟨g1, by omega, g3⟩
      · rw [List.mem_singleton.1 hr]
        exact ⟨hm, by omega, hp⟩
    · obtain ⟨g1, g2, g3⟩ := h.mem i hi r hr
      exact ⟨g1, by omega, g3⟩
  · rw [sum_set _ _ _ hj']
    have := h.sum
    omega
  · by_cases hrm : (r : Int) < m
    · obtain ⟨i, hi, hri⟩ := h.all r hrm
      refine ⟨i, hi, ?_⟩
      rw [getD_set _ _ _ _ _ hj']
      split
      · rename_i he
        subst he
        exact List.mem_append_left _ hri
      · exact hri
    · refine ⟨j, hj, ?_⟩
      rw [getD_set _ _ _ _ _ hj', if_pos rfl]
      exact List.mem_append_right _ (List.mem_singleton.2 (by omega))

theorem gets_F11 {cols : List (List V)} {c n : Nat} {t k : Int} (hn : 50 ≤ n) (hc : 2 ≤ c) (hc4 : c ≤ 4) (h : Cols c cols) (ht : 0 ≤ t) (htc : t < c) (hk : 1 ≤ k) (hk4 : k ≤ 4) :
    Gets (F11 n (cols, t, k, ())) fun y => Parts (fun i => partOf n ((cols.getD t.toNat []).getD i (0, 0, [], ())) k) k.toNat 20 y.1.1 := by
  have hh := h
  obtain ⟨h1, h2⟩ := h
  obtain ⟨h3, h4⟩ := h2 t.toNat (by omega)
  unfold F11
  dsimp only
  refine .join (fun s => s = (t, k)) (fun s hs => ?_) fun J hJ => ?_
  · subst hs
    dsimp only
    refine .pos (by simp [room]; omega) (.bind (gets_F24 hn hc hc4 hh) fun y3 h20 => ?_)
    rw [h20]
    refine .iter (fun s => 0 ≤ s.2 ∧ s.2 ≤ 20 ∧ Parts (fun i => partOf n ((cols.getD t.toNat []).getD i (0, 0, [], ())) k) k.toNat s.2 s.1) (fun s => (20 - s.2).toNat) ⟨by simp, by simp, ?_⟩ (by simp; omega) fun rec s hi ih => ?_
    · refine ⟨by simp, fun j hj => ?_, fun j hj r hr => ?_, by simp [List.map_replicate], fun r hr => by dsimp only at hr; omega⟩
      · rw [getD_lt (by rw [List.length_replicate]; exact hj)]
        simp
      · rw [getD_lt (by rw [List.length_replicate]; exact hj)] at hr
        simp at hr
    obtain ⟨q1, q2, q3⟩ := hi
    refine .dec (fun h => ?_) fun h => ?_
    · have hs20 : s.2.toNat < (cols.getD t.toNat []).length := by omega
      refine .atI ht (by omega) (.atI q1 (by omega) (.bind (gets_F20 hn (h4 _ (getD_mem hs20)) hk hk4) fun y6 ⟨e1, e2, e3⟩ => ?_))
      have hl := q3.len
      have hlen : (s.1.getD y6.1.1.toNat []).length ≤ 20 := by
        have hle : ∀ (l : List (List Int)) (j : Nat), (l.getD j []).length ≤ (l.map List.length).sum := by
          intro l
          induction l with
          | nil => intro j; simp
          | cons a l ih =>
            intro j
            cases j with
            | zero => simp
            | succ j =>
              have := ih j
              simp only [List.getD_cons_succ, List.map_cons, List.sum_cons]
              omega
        have := hle s.1 y6.1.1.toNat
        have := q3.sum
        omega
      refine .atI e2 (by omega) (.pos (by simp only [List.length_cons, List.length_nil, room]; omega) (.atI e2 (by omega) (.pos rfl (ih _ ⟨?_, ?_, ?_⟩ ?_))))
      · dsimp only; rw [wrap_i64 (by omega) (by omega)]; omega
      · dsimp only; rw [wrap_i64 (by omega) (by omega)]; omega
      · dsimp only
        rw [wrap_i64 (by omega) (by omega)]
        exact q3.push q1 (by omega) (by rw [← e1]; omega)
      · dsimp only; rw [wrap_i64 (by omega) (by omega)]; omega
    · have : s.2 = 20 := by omega
      rw [this] at q3
      exact .some q3
  · refine .dec (fun h => by omega) fun h => .dec (fun h => by omega) fun h => hJ _ ?_
    rw [if_pos hk, if_pos hk4]

/-- Where a row was met: behind i parts and m rows of the next. -/
structure Met (p : Nat → Int) (l : List (List Int)) (wh : List Int) (i m : Int) : Prop where
  len : wh.length = 20
  yes : ∀ r : Nat, r < 20 → (p r < i ∨ ∃ a : Nat, (a : Int) < m ∧ a < (l.getD i.toNat []).length ∧ (l.getD i.toNat []).getD a 0 = (r : Int)) → wh.getD r 0 = p r + 1
  no : ∀ r : Nat, r < 20 → ¬ (p r < i ∨ ∃ a : Nat, (a : Int) < m ∧ a < (l.getD i.toNat []).length ∧ (l.getD i.toNat []).getD a 0 = (r : Int)) → wh.getD r 0 = 0

theorem Met.next {p : Nat → Int} {k : Nat} {l : List (List Int)} {wh : List Int} {i : Int} (hl : Parts p k 20 l) (hi : 0 ≤ i) (hik : i < k) (hm : Met p l wh i ((l.getD i.toNat []).length : Int)) : Met p l wh (i + 1) 0 := by
  have key : ∀ r : Nat, r < 20 → ((p r < i + 1 ∨ ∃ a : Nat, (a : Int) < 0 ∧ a < (l.getD (i + 1).toNat []).length ∧ (l.getD (i + 1).toNat []).getD a 0 = (r : Int)) ↔ (p r < i ∨ ∃ a : Nat, (a : Int) < ((l.getD i.toNat []).length : Int) ∧ a < (l.getD i.toNat []).length ∧ (l.getD i.toNat []).getD a 0 = (r : Int))) := by
    intro r hr
    constructor
    · rintro (h | ⟨a, h, _⟩)
      · by_cases hp : p r < i
        · exact .inl hp
        · right
          obtain ⟨j, hj, hmem⟩ := hl.all r (by omega)
          have h3 := (hl.mem j hj _ hmem).2.2
          simp only [Int.toNat_natCast] at h3
          have : j = i.toNat := by omega
          subst this
          obtain ⟨a, ha, he⟩ := List.getElem_of_mem hmem
          exact ⟨a, by omega, ha, by rw [getD_lt ha]; exact he⟩
      · omega
    · rintro (h | ⟨a, _, h, he⟩)
      · exact .inl (by omega)
      · left
        have h3 := (hl.mem i.toNat (by omega) _ (getD_mem (d := 0) h)).2.2
        rw [he] at h3
        simp only [Int.toNat_natCast] at h3
        omega
  exact ⟨hm.len, fun r hr h => hm.yes r hr ((key r hr).1 h), fun r hr h => hm.no r hr fun h' => h ((key r hr).2 h')⟩

theorem lt_of_inc {l : List Int} (h : l.Pairwise (· < ·)) {a b : Nat} (hab : a < b) (hb : b < l.length) : l.getD a 0 < l.getD b 0 := by
  rw [getD_lt (by omega), getD_lt hb]
  exact (List.pairwise_iff_getElem.1 h) a b (by omega) hb hab

theorem Met.step {p : Nat → Int} {k : Nat} {l : List (List Int)} {wh : List Int} {i m : Int} (hl : Parts p k 20 l) (hi : 0 ≤ i) (hik : i < k) (hm0 : 0 ≤ m) (hml : m < (l.getD i.toNat []).length) (hm : Met p l wh i m) :
    wh.getD ((l.getD i.toNat []).getD m.toNat 0).toNat 0 = 0 ∧ Met p l (wh.set ((l.getD i.toNat []).getD m.toNat 0).toNat (i + 1)) i (m + 1) := by
  have hmm : m.toNat < (l.getD i.toNat []).length := by omega
  obtain ⟨g1, g2, g3⟩ := hl.mem i.toNat (by omega) _ (getD_mem (d := 0) hmm)
  have hinc := hl.inc i.toNat (by omega)
  generalize hr : (l.getD i.toNat []).getD m.toNat 0 = r at *
  refine ⟨hm.no r.toNat (by omega) ?_, ⟨by simp [hm.len], fun q hq h => ?_, fun q hq h => ?_⟩⟩
  · rintro (h | ⟨a, h, ha, he⟩)
    · omega
    · have := lt_of_inc hinc (show a < m.toNat by omega) hmm
      omega
  · rw [getD_set _ _ _ _ _ (by rw [hm.len]; omega)]
    split
    · rename_i he
      subst he
      clear h
      omega
    · rename_i he
      refine hm.yes q hq ?_
      rcases h with h | ⟨a, h, ha, he'⟩
      · exact .inl h
      · by_cases ham : (a : Int) = m
        · subst ham
          simp only [Int.toNat_natCast] at hr
          omega
        · exact .inr ⟨a, by omega, ha, he'⟩
  · rw [getD_set _ _ _ _ _ (by rw [hm.len]; omega)]
    split
    · rename_i he
      exact absurd (.inr ⟨m.toNat, by omega, hmm, by omega⟩) h
    · rename_i he
      refine hm.no q hq fun h' => h ?_
      rcases h' with h' | ⟨a, h1, ha, he'⟩
      · exact .inl h'
      · exact .inr ⟨a, by omega, ha, he'⟩

theorem sum_take : ∀ (l : List (List Int)) (i : Nat), i < l.length → (((l.take (i + 1)).map List.length).sum) = ((l.take i).map List.length).sum + (l.getD i []).length
  | [], i, h => by simp at h
  | a :: l, 0, _ => by simp
  | a :: l, i + 1, h => by
    have := sum_take l i (by simpa using h)
    simp only [List.take_succ_cons, List.map_cons, List.sum_cons, List.getD_cons_succ, this]
    omega

theorem le_sum (l : List (List Int)) (i : Nat) : ((l.take i).map List.length).sum ≤ (l.map List.length).sum := by
  induction l generalizing i with
  | nil => simp
  | cons a l ih =>
    cases i with
    | zero => simp
    | succ i =>
      have := ih i
      simp only [List.take_succ_cons, List.map_cons, List.sum_cons]
      omega

theorem begun : F7 200 () = some ((true, ()), ()) := by kernel_rfl

theorem law (l : List Int) (t k : Int) (hl : ∀ c, c ∈ l → 0 ≤ c ∧ c ≤ 255) (ht : 0 ≤ t ∧ t ≤ 255) (hk : 0 ≤ k ∧ k ≤ 255) : Gets (F3 200 (l, t, k, ())) fun y => y.1.1 = true := by
  unfold F3
  rw [begun]
  dsimp only [Option.bind_some]
  refine .not (fun h => by simp at h) fun _ => .dec (fun _ => .some rfl) fun h60 => ?_
  have hnum : Nums l := ⟨by omega, hl⟩
  refine .bind (Q' := fun y => Pk l y.1.1) (.some ⟨rfl, by simp, by simp⟩) fun y2 p2 => ?_
  refine .bind (gets_F9 (by omega) hnum p2) fun y3 ⟨c2, c4, p3⟩ => ?_
  refine .bind (gets_F10 (by omega) hnum p3 c2 c4) fun y4 hcols => ?_
  have hc := hcols.1
  refine .neg (by omega) ?_
  generalize hcn : y3.1.1.1.length = c at *
  rw [wrap_i64 (x := t) (by omega) (by omega)]
  have e1 := Int.tmod_nonneg (y4.1.1.length : Int) ht.1
  have e2 := Int.tmod_lt_of_pos t (b := (y4.1.1.length : Int)) (by omega)
  have e3 := Int.tmod_nonneg 4 hk.1
  have e4 := Int.tmod_lt_of_pos k (b := 4) (by omega)
  rw [wrap_i64 (x := k.tmod 4) (by omega) (by omega), wrap_i64 (x := 1 + k.tmod 4) (by omega) (by omega)]
  have e5 : 1 ≤ 1 + k.tmod 4 := by omega
  have e6 : 1 + k.tmod 4 ≤ 4 := by omega
  generalize t.tmod (y4.1.1.length : Int) = at' at *
  generalize 1 + k.tmod 4 = kk at *
  refine .bind (gets_F11 (by omega) c2 c4 hcols e1 (by omega) (by omega) (by omega)) fun y5 hp => ?_
  have hcol := hcols.2 at'.toNat (by omega)
  generalize hpf : (fun i => partOf 200 ((y4.1.1.getD at'.toNat []).getD i (0, 0, [], ())) kk) = p at hp
  have hpl := hp.len
  have hps := hp.sum
  refine .iter (fun s => 0 ≤ s.2.2 ∧ s.2.2 ≤ y5.1.1.length ∧ Met p y5.1.1 s.1 s.2.2 0 ∧ s.2.1 = (((y5.1.1.take s.2.2.toNat).map List.length).sum : Int)) (fun s => ((y5.1.1.length : Int) - s.2.2).toNat) ⟨by simp, by simp, ?_, by simp⟩ (by dsimp only; omega) fun rec s hi ih => ?_
  · refine ⟨by simp, fun r hr h => ?_, fun r hr _ => ?_⟩
    · exfalso
      rcases h with h | ⟨a, h, _⟩
      · dsimp only at h
        obtain ⟨j, hj, hmem⟩ := hp.all r (by omega)
        have := (hp.mem j hj _ hmem).2.2
        simp only [Int.toNat_natCast] at this
        omega
      · omega
    · show (List.replicate 20 (0 : Int)).getD r 0 = 0
      rw [List.getD_eq_getElem?_getD, List.getElem?_replicate, if_pos hr]
      rfl
  obtain ⟨q1, q2, q3, q4⟩ := hi
  refine .dec (fun h => ?_) fun h => ?_
  · have hst := sum_take y5.1.1 s.2.2.toNat (by omega)
    have hle := le_sum y5.1.1 (s.2.2.toNat + 1)
    refine .iter (fun u => 0 ≤ u.2.2 ∧ u.2.2 ≤ (y5.1.1.getD s.2.2.toNat []).length ∧ Met p y5.1.1 u.1 s.2.2 u.2.2 ∧ u.2.1 = s.2.1 + u.2.2) (fun u => (((y5.1.1.getD s.2.2.toNat []).length : Int) - u.2.2).toNat) ⟨by simp, by simp, q3, by simp⟩ (by dsimp only; omega) fun rec' u hj ih' => ?_
    obtain ⟨r1, r2, r3, r4⟩ := hj
    refine .atI q1 h (.dec (fun h' => ?_) fun h' => ?_)
    · have hmm : u.2.2.toNat < (y5.1.1.getD s.2.2.toNat []).length := by omega
      obtain ⟨g1, g2, g3⟩ := hp.mem s.2.2.toNat (by omega) _ (getD_mem (d := 0) hmm)
      obtain ⟨m1, m2⟩ := r3.step hp q1 (by omega) r1 h'
      have hlen := r3.len
      have hinc := hp.inc s.2.2.toNat (by omega)
      have hfin : Gets (rec' (u.1.set ((y5.1.1.getD s.2.2.toNat []).getD u.2.2.toNat 0).toNat (IntKind.i64.wrap (s.2.2 + 1)), IntKind.i64.wrap (u.2.1 + 1), IntKind.i64.wrap (u.2.2 + 1))) fun y => y.1.1 = true := by
        refine ih' _ ⟨?_, ?_, ?_, ?_⟩ ?_
        · dsimp only; rw [wrap_i64 (by omega) (by omega)]; omega
        · dsimp only; rw [wrap_i64 (by omega) (by omega)]; omega
        · dsimp only; rw [wrap_i64 (x := s.2.2 + 1) (by omega) (by omega), wrap_i64 (x := u.2.2 + 1) (by omega) (by omega)]; exact m2
        · dsimp only; rw [wrap_i64 (x := u.2.1 + 1) (by omega) (by omega), wrap_i64 (x := u.2.2 + 1) (by omega) (by omega)]; omega
        · dsimp only; rw [wrap_i64 (by omega) (by omega)]; omega
      refine .atI q1 h (.atI r1 h' (.dec (fun h => by omega) fun _ => .dec (fun h => by omega) fun _ => .atI g1 (by omega) ?_))
      refine .ite (fun hne => by rw [m1] at hne; simp at hne) fun _ => ?_
      refine .dec (fun hpos => ?_) fun _ => .atI g1 (by omega) hfin
      have hlt := lt_of_inc hinc (show (u.2.2 - 1).toNat < u.2.2.toNat by omega) hmm
      rw [wrap_i64 (x := u.2.2 - 1) (by omega) (by omega)]
      refine .atI q1 h (.atI (by omega) (by omega) (.dec (fun h => by omega) fun _ => .atI g1 (by omega) hfin))
    · have hu : u.2.2 = ((y5.1.1.getD s.2.2.toNat []).length : Int) := by omega
      rw [hu] at r3
      refine ih _ ⟨?_, ?_, ?_, ?_⟩ ?_
      · dsimp only; rw [wrap_i64 (by omega) (by omega)]; omega
      · dsimp only; rw [wrap_i64 (by omega) (by omega)]; omega
      · dsimp only; rw [wrap_i64 (by omega) (by omega)]; exact r3.next hp q1 (by omega)
      · dsimp only; rw [wrap_i64 (by omega) (by omega), show (s.2.2 + 1).toNat = s.2.2.toNat + 1 by omega]; omega
      · dsimp only; rw [wrap_i64 (by omega) (by omega)]; omega
  · have hs : s.2.2 = (y5.1.1.length : Int) := by omega
    have hwh : ∀ r : Nat, r < 20 → s.1.getD r 0 = p r + 1 := fun r hr => q3.yes r hr (.inl (by
      obtain ⟨j, hj, hmem⟩ := hp.all r (by omega)
      have := (hp.mem j hj _ hmem).2.2
      simp only [Int.toNat_natCast] at this
      omega))
    have hlen := q3.len
    refine .iter (fun u => u.1 = s.1 ∧ 0 ≤ u.2 ∧ u.2 ≤ 20) (fun u => (20 - u.2).toNat) ⟨rfl, by simp, by simp⟩ (by simp) fun rec' u hj ih' => ?_
    obtain ⟨r1, r2, r3⟩ := hj
    refine .dec (fun h' => ?_) fun h' => ?_
    · refine .iter (fun v => v.1 = s.1 ∧ 0 ≤ v.2 ∧ v.2 ≤ u.2) (fun v => (20 - v.2).toNat) ⟨r1, by simp, r2⟩ (by simp) fun rec2 v hv ih2 => ?_
      obtain ⟨v1, v2, v3⟩ := hv
      refine .dec (fun hv' => ?_) fun hv' => ih' _ ⟨v1, ?_, ?_⟩ ?_
      · have hnext : Gets (rec2 (v.1, IntKind.i64.wrap (v.2 + 1))) fun y => y.1.1 = true := by
          refine ih2 _ ⟨v1, ?_, ?_⟩ ?_
          all_goals dsimp only; (rw [wrap_i64 (by omega) (by omega)]); omega
        refine .atI e1 e2 (.atI r2 (by omega) (.atI e1 e2 (.atI v2 (by omega) (.ite (fun heq => ?_) fun _ => hnext))))
        simp only [Bool.and_eq_true, decide_eq_true_eq] at heq
        obtain ⟨k1, k2, k3⟩ := heq
        have hv : (y4.1.1.getD at'.toNat []).getD u.2.toNat (0, 0, [], ()) = (y4.1.1.getD at'.toNat []).getD v.2.toNat (0, 0, [], ()) := Prod.ext k1 (Prod.ext k2 (Prod.ext k3 rfl))
        have hpp : p u.2.toNat = p v.2.toNat := by
          rw [← hpf]
          dsimp only
          rw [hv]
        have w1 := hwh u.2.toNat (by omega)
        have w2 := hwh v.2.toNat (by omega)
        refine .atI r2 (by rw [v1]; omega) (.atI v2 (by rw [v1]; omega) (.ite (fun hne => ?_) fun _ => hnext))
        rw [v1, w1, w2, hpp] at hne
        simp at hne
      all_goals dsimp only; (rw [wrap_i64 (by omega) (by omega)]); omega
    · refine .dec (fun _ => .some ?_) fun h20 => ?_
      · simp; omega
      · exfalso
        rw [q4, hs] at h20
        simp at h20
        omega

end Go.Rb.S1
