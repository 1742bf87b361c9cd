/- What the functions on schemas and rows compute. Own work. -/
import Derived.Test.YtcgaabciagiodaaLawD
namespace Go.Rb.S1
open Go.Rb

abbrev Sch : Type := List Cl × Int × Unit
abbrev Lay : Type := Int × Int × Int × List Int × Unit
abbrev Chg : Type := Int × Int × List Int × Int × V × Int × Int × Unit
abbrev d0 : V := (0, 0, [], ())
abbrev k0 : Cl := (0, [], 0, ())

/-- The place of a column. -/
def byId (cols : List Cl) (id : Int) : Option Nat := (List.range cols.length).find? fun i => decide ((cols.getD i k0).1 = id)

theorem byId_lt {cols : List Cl} {id : Int} {i : Nat} (h : byId cols id = some i) : i < cols.length := by
  have := List.mem_of_find?_eq_some h
  simpa using this

def byIdR (cols : List Cl) (id : Int) : Int × Bool × Unit := match byId cols id with
  | some i => ((i : Int), true, ())
  | none => (0, false, ())

theorem F47_eq {n : Nat} {cols : List Cl} {last id : Int} {u : Unit} (hn : cols.length < n) (hc : cols.length ≤ 1000) : F47 n ((cols, last, u), id, ()) = some (byIdR cols id, ()) := by
  unfold F47
  dsimp only
  rw [iter_first0 cols.length (fun i => decide ((cols.getD i k0).1 = id)) (fun i => some (((i : Int), true, ()), ())) (some ((0, false, ()), ())) hn]
  · unfold byIdR byId
    cases List.find? _ _ <;> rfl
  · intro rec i hi
    have h1 : (i : Int) < cols.length := by omega
    simp [h1, atI, wrap_succ (show i < 9223372036854775807 by omega)]
  · intro rec
    simp

theorem F37_eq {n : Nat} {cols : List Cl} {last id : Int} {u : Unit} (hn : cols.length < n) (hc : cols.length ≤ 1000) : F37 n ((cols, last, u), id, ()) = some (byIdR cols id, ()) := by
  unfold F37 F54
  dsimp only
  rw [iter_first0 cols.length (fun i => decide ((cols.getD i k0).1 = id)) (fun i => some (((i : Int), ()), ())) (some ((-1, ()), ())) hn]
  · unfold byIdR byId
    cases List.find? _ _ <;> simp
  · intro rec i hi
    have h1 : (i : Int) < cols.length := by omega
    simp [h1, atI, F55, wrap_succ (show i < 9223372036854775807 by omega)]
  · intro rec
    simp

/-- Is it a value? -/
def mayV (v : V) : Bool :=
  if v.1 = 0 then decide (v.2.1 = 0) && decide (v.2.2.1 = [])
  else if v.1 = 1 then decide (-32768 ≤ v.2.1) && decide (v.2.1 ≤ 32767) && decide (v.2.2.1 = [])
  else if v.1 = 2 then decide (v.2.2.1 = [])
  else if v.1 = 3 then (decide (v.2.1 = 0) || decide (v.2.1 = 1)) && decide (v.2.2.1 = [])
  else if v.1 = 4 then decide (v.2.1 = 0) && decide (v.2.2.1.length ≤ 20)
  else false

/-- May it stand in a column of a type? -/
def fitsV (t : Int) (v : V) : Bool := mayV v && (decide (1 ≤ t) && decide (t ≤ 4)) && (decide (v.1 = 0) || decide (v.1 = t))

theorem F59_eq (n : Nat) (v : V) : F59 n (v, ()) = some ((mayV v, ()), ()) := by
  obtain ⟨t, i, s, u⟩ := v
  unfold F59 mayV
  dsimp only
  by_cases h1 : t = 1
  · subst h1
    by_cases a : i < -32768
    · have : ¬ (-32768 ≤ i) := by omega
      simp [a, this]
    · by_cases b : 32767 < i
      · have : ¬ (i ≤ 32767) := by omega
        simp [a, b, this]
      · have h1 : -32768 ≤ i := by omega
        have h2 : i ≤ 32767 := by omega
        simp [a, b, h1, h2]
  · by_cases h2 : t = 2
    · subst h2; simp
    · by_cases h0 : t = 0
      · subst h0
        by_cases a : i = 0 <;> simp [a]
      · by_cases h3 : t = 3
        · subst h3
          by_cases a : i = 0
          · simp [a]
          · by_cases b : i = 1 <;> simp [a, b]
        · by_cases h4 : t = 4
          · subst h4
            by_cases a : i = 0
            · simp only [a]
              have : ((s.length : Int) ≤ 20) ↔ s.length ≤ 20 := by omega
              simp [this]
            · simp [a]
          · simp [h0, h1, h2, h3, h4]

theorem F49_eq (n : Nat) (v : V) : F49 n (v, ()) = some ((mayV v, ()), ()) := by
  obtain ⟨t, i, s, u⟩ := v
  unfold F49 mayV
  dsimp only
  by_cases h0 : t = 0
  · subst h0
    by_cases a : i = 0 <;> simp [a]
  · by_cases h1 : t = 1
    · subst h1
      by_cases a : -32768 ≤ i
      · by_cases b : i ≤ 32767 <;> simp [a, b]
      · simp [a]
    · by_cases h2 : t = 2
      · subst h2; simp
      · by_cases h3 : t = 3
        · subst h3
          by_cases a : i = 0
          · simp [a]
          · by_cases b : i = 1 <;> simp [a, b]
        · by_cases h4 : t = 4
          · subst h4
            by_cases a : i = 0
            · simp only [a]
              have : ((s.length : Int) ≤ 20) ↔ s.length ≤ 20 := by omega
              simp [this]
            · simp [a]
          · simp [h0, h1, h2, h3, h4]

theorem F53_eq (n : Nat) (t : Int) (v : V) : F53 n (t, v, ()) = some ((fitsV t v, ()), ()) := by
  unfold F53 fitsV
  rw [F59_eq]
  simp only [Option.bind_some]
  cases mayV v
  · simp
  · by_cases h1 : 1 ≤ t
    · by_cases h2 : t ≤ 4
      · by_cases h3 : v.1 = 0 <;> simp [h1, h2, h3]
      · simp [h1, h2]
    · simp [h1]

theorem F33_eq (n : Nat) (t : Int) (v : V) : F33 n (t, v, ()) = some ((fitsV t v, ()), ()) := by
  unfold F33 fitsV
  rw [F49_eq]
  simp only [Option.bind_some, F50]
  cases mayV v
  · simp
  · by_cases h1 : 1 ≤ t
    · by_cases h2 : t ≤ 4
      · by_cases h3 : v.1 = 0 <;> simp [h1, h2, h3]
      · simp [h1, h2]
    · simp [h1]

/-- Does a row fit a schema? -/
def fitsRow (cols : List Cl) (row : List V) : Bool := decide (row.length = cols.length) && (List.range cols.length).all fun i => fitsV (cols.getD i k0).2.2.1 (row.getD i d0)

theorem fitsRow_iff {cols : List Cl} {row : List V} : fitsRow cols row = true ↔ row.length = cols.length ∧ ∀ i, i < cols.length → fitsV (cols.getD i k0).2.2.1 (row.getD i d0) = true := by
  simp [fitsRow, List.all_eq_true]

theorem find_all (len : Nat) (p : Nat → Bool) : (List.range len).find? (fun i => !p i) = none ↔ (List.range len).all p = true := by
  simp [List.find?_eq_none, List.all_eq_true]

theorem F35_eq {n : Nat} {cols : List Cl} {last : Int} {u : Unit} {row : List V} (hn : cols.length < n) (hc : cols.length ≤ 1000) : F35 n ((cols, last, u), row, ()) = some ((fitsRow cols row, ()), ()) := by
  unfold F35 F51 fitsRow
  dsimp only
  by_cases hl : row.length = cols.length
  · have h1 : (cols.length : Int) = (row.length : Int) := by omega
    rw [if_neg (by simp [h1]), iter_first0 cols.length (fun i => !fitsV (cols.getD i k0).2.2.1 (row.getD i d0)) (fun i => some ((false, ()), ())) (some ((true, ()), ())) hn]
    · have hfa := find_all cols.length fun i => fitsV (cols.getD i k0).2.2.1 (row.getD i d0)
      cases hf : (List.range cols.length).find? (fun i => !fitsV (cols.getD i k0).2.2.1 (row.getD i d0)) with
      | none => rw [hfa.1 hf]; simp [hl]
      | some j =>
        have : (List.range cols.length).all (fun i => fitsV (cols.getD i k0).2.2.1 (row.getD i d0)) = false := by
          rw [Bool.eq_false_iff]
          intro h
          rw [hfa.2 h] at hf
          cases hf
        rw [this]; simp
    · intro rec i hi
      have h2 : (i : Int) < cols.length := by omega
      have h3 : (i : Int) < row.length := by omega
      simp only [h2, h3, atI, F52, F53_eq, wrap_succ (show i < 9223372036854775807 by omega), decide_true, if_true, Int.toNat_natCast, Option.bind_some, and_self, Int.natCast_nonneg]
    · intro rec
      simp
  · have h1 : ¬ (cols.length : Int) = (row.length : Int) := by omega
    simp [h1, hl]

theorem F17_eq {n : Nat} {cols : List Cl} {last : Int} {u : Unit} {row : List V} (hn : cols.length < n) (hc : cols.length ≤ 1000) : F17 n ((cols, last, u), row, ()) = some ((fitsRow cols row, ()), ()) := by
  unfold F17 fitsRow
  dsimp only
  by_cases hl : row.length = cols.length
  · have h1 : (row.length : Int) = (cols.length : Int) := by omega
    rw [if_neg (by simp [h1]), hl, iter_first0 cols.length (fun i => !fitsV (cols.getD i k0).2.2.1 (row.getD i d0)) (fun i => some ((false, ()), ())) (some ((true, ()), ())) hn]
    · have hfa := find_all cols.length fun i => fitsV (cols.getD i k0).2.2.1 (row.getD i d0)
      cases hf : (List.range cols.length).find? (fun i => !fitsV (cols.getD i k0).2.2.1 (row.getD i d0)) with
      | none => rw [hfa.1 hf]; simp
      | some j =>
        have : (List.range cols.length).all (fun i => fitsV (cols.getD i k0).2.2.1 (row.getD i d0)) = false := by
          rw [Bool.eq_false_iff]
          intro h
          rw [hfa.2 h] at hf
          cases hf
        rw [this]; simp
    · intro rec i hi
      have h2 : (i : Int) < cols.length := by omega
      simp only [h2, atI, F33_eq, wrap_succ (show i < 9223372036854775807 by omega), decide_true, if_true, Int.toNat_natCast, Option.bind_some, and_self, Int.natCast_nonneg]
    · intro rec
      simp
  · have h1 : ¬ (row.length : Int) = (cols.length : Int) := by omega
    simp [h1, hl]

/-- A row and itself are the same. -/
theorem F18_same {n : Nat} {row : List V} (hn : row.length < n) (hc : row.length ≤ 1000) : F18 n (row, row, ()) = some ((true, ()), ()) := by
  unfold F18 F34
  dsimp only
  rw [if_neg (by simp), iter_first0 row.length (fun _ => false) (fun i => some ((false, ()), ())) (some ((true, ()), ())) hn]
  · rw [show (List.range row.length).find? (fun _ => false) = none by simp]
    rfl
  · intro rec i hi
    have h2 : (i : Int) < row.length := by omega
    simp [h2, atI, wrap_succ (show i < 9223372036854775807 by omega)]
  · intro rec
    simp

end Go.Rb.S1

namespace Go.Rb.S1
open Go.Rb

def widerV (v : V) : V := if v.1 = 3 then (1, v.2) else if v.1 = 1 then (2, v.2) else v

theorem F39_eq (n : Nat) (v : V) : F39 n (v, ()) = some ((widerV v, ()), ()) := by
  unfold F39 widerV
  dsimp only
  by_cases h3 : v.1 = 3
  · simp [h3]
  · by_cases h1 : v.1 = 1 <;> simp [h1, h3]

/-- A value ahead of a sign, and behind it. -/
def apartV (v : V) (c : Int) : V × V :=
  if v.1 = 4 ∧ 0 ≤ idxI v.2.2.1 c then ((4, 0, v.2.2.1.take (idxI v.2.2.1 c).toNat, ()), (4, 0, v.2.2.1.drop ((idxI v.2.2.1 c).toNat + 1), ())) else (v, d0)

theorem F40_eq (n : Nat) (v : V) (c : Int) (hv : v.2.2.1.length ≤ 1000) : F40 n (v, c, ()) = some (((apartV v c).1, (apartV v c).2, ()), ()) := by
  obtain ⟨t, k, s, u⟩ := v
  have hi := idxI_lt c s
  unfold F40 F56 ixF apartV
  simp only [Option.bind_some] at *
  by_cases ht : t = 4
  · subst ht
    by_cases h : idxI s c < 0
    · have : ¬ (0 ≤ idxI s c) := by omega
      simp [h, this]
    · have hw : IntKind.i64.wrap (idxI s c + 1) = idxI s c + 1 := wrap_i64 (by omega) (by omega)
      have h0 : 0 ≤ idxI s c := by omega
      have h1 : idxI s c ≤ (s.length : Int) := by omega
      have h2 : (0 ≤ idxI s c + 1 ∧ idxI s c + 1 ≤ (s.length : Int)) := by omega
      have h3 : (idxI s c + 1).toNat = (idxI s c).toNat + 1 := by omega
      simp [h, hw, h0, h1, h2, h3]
  · simp [ht]

/-- What a row is behind a change; was it changed? -/
def chRow (cols : List Cl) (c : Chg) (row : List V) : List V × Bool :=
  if fitsRow cols row = false then ([], false)
  else if c.1 = 1 then (row ++ [c.2.2.2.2.1], true)
  else if c.1 = 2 ∨ c.1 = 4 ∨ c.1 = 5 then
    match byId cols c.2.1 with
    | none => ([], false)
    | some i =>
      if c.1 = 2 then (row.take i ++ row.drop (i + 1), true)
      else if c.1 = 4 then (row.set i (widerV (row.getD i d0)), true)
      else ((row.set i (apartV (row.getD i d0) c.2.2.2.2.2.1).1).take (i + 1) ++ ([(apartV (row.getD i d0) c.2.2.2.2.2.1).2] ++ (row.set i (apartV (row.getD i d0) c.2.2.2.2.2.1).1).drop (i + 1)), true)
  else (row, true)

theorem mayV_len {v : V} (h : mayV v = true) : v.2.2.1.length ≤ 20 := by
  obtain ⟨t, k, s, u⟩ := v
  unfold mayV at h
  dsimp only at h ⊢
  split at h
  · simp at h; simp [h.2]
  · split at h
    · simp at h; simp [h.2]
    · split at h
      · simp at h; simp [h]
      · split at h
        · simp at h; simp [h.2]
        · split at h
          · simp at h; exact h.2
          · simp at h

theorem fitsV_len {t : Int} {v : V} (h : fitsV t v = true) : v.2.2.1.length ≤ 20 := by
  unfold fitsV at h
  simp only [Bool.and_eq_true] at h
  exact mayV_len h.1.1

theorem F19_eq {n : Nat} {cols : List Cl} {last : Int} {u : Unit} {c : Chg} {row : List V} (hn : cols.length < n) (hc : cols.length ≤ 100) : F19 n ((cols, last, u), c, row, ()) = some (((chRow cols c row).1, (chRow cols c row).2, ()), ()) := by
  unfold F19 chRow
  dsimp only
  rw [F35_eq hn (by omega)]
  simp only [Option.bind_some]
  cases hf : fitsRow cols row with
  | false => simp
  | true =>
    obtain ⟨hl, hfit⟩ := fitsRow_iff.1 hf
    simp only [F36, Option.bind_some, F37_eq hn (show cols.length ≤ 1000 by omega)]
    by_cases h1 : c.1 = 1
    · have : (row.length + 1) * 32 ≤ room := by unfold room; omega
      simp [joinF, h1, this]
    · by_cases h2 : c.1 = 2
      · unfold byIdR
        cases hb : byId cols c.2.1 with
        | none => simp [joinF, h2]
        | some i =>
          have hi := byId_lt hb
          have h38 : F38 n (row, (i : Int), ((i + 1 : Nat) : Int), ()) = some ((row.take i ++ row.drop (i + 1), ()), ()) := by
            have g2 : (i : Int) ≤ ((i + 1 : Nat) : Int) := by omega
            have g3 : ((i + 1 : Nat) : Int) ≤ (row.length : Int) := by omega
            unfold F38 delF
            dsimp only
            rw [if_pos ⟨by omega, g2, g3⟩]
            simp only [Int.toNat_natCast]
          simp [joinF, h2, wrap_succ (show i < 9223372036854775807 by omega)]
          rw [show ((i : Int) + 1) = ((i + 1 : Nat) : Int) by simp, h38]
          simp
      · by_cases h4 : c.1 = 4
        · unfold byIdR
          cases hb : byId cols c.2.1 with
          | none => simp [joinF, h4]
          | some i =>
            have hi := byId_lt hb
            have h3 : (i : Int) < row.length := by omega
            simp [joinF, h4, atI, h3, F39_eq]
        · by_cases h5 : c.1 = 5
          · unfold byIdR
            cases hb : byId cols c.2.1 with
            | none => simp [joinF, h5]
            | some i =>
              have hi := byId_lt hb
              have h3 : (i : Int) < row.length := by omega
              have hlen := fitsV_len (hfit i hi)
              have h41 : ∀ a b : V, F41 n (row.set i a, ((i + 1 : Nat) : Int), [b], ()) = some (((row.set i a).take (i + 1) ++ ([b] ++ (row.set i a).drop (i + 1)), ()), ()) := fun a b => by
                unfold F41 insF
                dsimp only
                rw [if_pos ⟨by omega, by rw [List.length_set]; omega, by rw [List.length_set]; simp [room]; omega⟩]
                simp only [Int.toNat_natCast]
              have h40 := F40_eq n (row.getD i d0) c.2.2.2.2.2.1 (by omega)
              simp only [List.getD_eq_getElem?_getD] at h40 ⊢
              simp [joinF, h5, atI, h3, h40, wrap_succ (show i < 9223372036854775807 by omega)]
              rw [show ((i : Int) + 1) = ((i + 1 : Nat) : Int) by simp, h41]
              simp
          · simp [joinF, h1, h2, h4, h5]

end Go.Rb.S1

namespace Go.Rb.S1
open Go.Rb

abbrev Pks : Type := List Int × Int × Unit

/-- Numbers from which choices are read. -/
def Nums (l : List Int) : Prop := l.length ≤ 60 ∧ ∀ c, c ∈ l → 0 ≤ c ∧ c ≤ 255
def Pk (l : List Int) (st : Pks) : Prop := st.1 = l ∧ 0 ≤ st.2.1 ∧ st.2.1 ≤ l.length

theorem num {l : List Int} {st : Pks} {m : Int} (n : Nat) (hl : Nums l) (hp : Pk l st) (hm : 1 ≤ m) : Gets (F22 n (st, m, ())) fun y => 0 ≤ y.1.1 ∧ y.1.1 < m ∧ Pk l y.2.1 := by
  obtain ⟨l', k, u⟩ := st
  obtain ⟨rfl, h1, h2⟩ := hp
  obtain ⟨g1, g2⟩ := hl
  unfold F22
  dsimp only at *
  refine .dec (fun h => .some ⟨Int.le_refl _, by dsimp only; omega, rfl, h1, h2⟩) fun h => ?_
  rw [wrap_i64 (x := k + 1) (by omega) (by omega), show k + 1 - 1 = k by omega, wrap_i64 (x := k) (by omega) (by omega)]
  refine .atI h1 (by omega) (.neg (by omega) (.some ?_))
  have hc : 0 ≤ l'.getD k.toNat 0 ∧ l'.getD k.toNat 0 ≤ 255 := by
    have hk : k.toNat < l'.length := by omega
    rw [List.getD_eq_getElem?_getD, List.getElem?_eq_getElem hk]
    exact g2 _ (List.getElem_mem hk)
  rw [wrap_i64 (x := l'.getD k.toNat 0) (by omega) (by omega)]
  exact ⟨Int.tmod_nonneg _ hc.1, Int.tmod_lt_of_pos _ (by omega), rfl, by dsimp only; omega, by dsimp only; omega⟩

/-- A made column. -/
def ColOK (c : Cl) : Prop := 1 ≤ c.2.2.1 ∧ c.2.2.1 ≤ 4 ∧ c.2.1.length ≤ 2

theorem gets_F9 {l : List Int} {st : Pks} {n : Nat} (hn : 20 ≤ n) (hl : Nums l) (hp : Pk l st) : Gets (F9 n (st, ())) fun y => 2 ≤ y.1.1.1.length ∧ y.1.1.1.length ≤ 4 ∧ (∀ c, c ∈ y.1.1.1 → ColOK c) ∧ y.1.2.1.2.2.2.1.length ≤ 4 ∧ Pk l y.2.1 := by
  unfold F9
  dsimp only
  refine .bind (num n hl hp (by omega)) fun y1 ⟨a1, b1, p1⟩ => ?_
  refine .bind (num n hl p1 (by omega)) fun y2 ⟨a2, b2, p2⟩ => ?_
  refine .iter (fun s => Pk l s.1 ∧ 0 ≤ s.2.2 ∧ 2 ≤ s.2.1.1.length ∧ s.2.1.1.length + s.2.2 ≤ 4 ∧ ∀ c, c ∈ s.2.1.1 → ColOK c) (fun s => s.2.2.toNat) ⟨p2, a2, by simp, by simp; omega, fun c hc => ?_⟩ (by dsimp only; omega) fun rec s hi ih => ?_
  · dsimp only at hc
    rw [wrap_i64 (by omega) (by omega)] at hc
    rcases List.mem_cons.1 hc with rfl | hc
    · exact ⟨by dsimp only; omega, by dsimp only; omega, by simp⟩
    · rw [List.mem_singleton.1 hc]
      exact ⟨by simp, by simp, by simp⟩
  obtain ⟨q1, q2, q3, q4, q5⟩ := hi
  refine .dec (fun h => ?_) fun h => ?_
  · refine .pos (by simp) (.bind (num n hl q1 (by omega)) fun y5 ⟨a5, b5, p5⟩ => ?_)
    refine .pos (by simp [room]; omega) (ih _ ⟨p5, ?_, ?_, ?_, fun c hc => ?_⟩ ?_)
    · dsimp only; rw [wrap_i64 (by omega) (by omega)]; omega
    · simp only [List.length_append, List.length_cons, List.length_nil]; omega
    · simp only [List.length_append, List.length_cons, List.length_nil]; rw [wrap_i64 (by omega) (by omega)]; omega
    · rcases List.mem_append.1 hc with hc | hc
      · exact q5 c hc
      · rw [List.mem_singleton.1 hc]
        refine ⟨?_, ?_, by simp⟩
        · dsimp only; rw [wrap_i64 (x := 1 + y5.1.1) (by omega) (by omega)]; omega
        · dsimp only; rw [wrap_i64 (x := 1 + y5.1.1) (by omega) (by omega)]; omega
    · dsimp only; rw [wrap_i64 (by omega) (by omega)]; omega
  · refine .iter (fun t => Pk l t.1 ∧ 2 ≤ t.2.1.1.length ∧ t.2.1.1.length ≤ 4 ∧ 0 ≤ t.2.2.2 ∧ t.2.2.2 ≤ t.2.1.1.length ∧ (t.2.2.1.2.2.2.1.length : Int) = t.2.2.2 ∧ ∀ c, c ∈ t.2.1.1 → ColOK c) (fun t => (4 - t.2.2.2).toNat) ⟨q1, q3, by dsimp only; omega, by simp, by simp, by simp, q5⟩ (by dsimp only; omega) fun rec' t hj ih' => ?_
    obtain ⟨r1, r2, r3, r4, r5, r6, r7⟩ := hj
    refine .dec (fun h => ?_) fun h => ?_
    · refine .bind (num n hl r1 (by omega)) fun y8 ⟨_, _, p8⟩ => ?_
      refine .pos (by simp [room]; omega) (ih' _ ⟨p8, r2, r3, ?_, ?_, ?_, r7⟩ ?_)
      all_goals (try simp only [List.length_append, List.length_cons, List.length_nil]); (rw [wrap_i64 (by omega) (by omega)]); omega
    · refine .join (fun u => Pk l u.1 ∧ 2 ≤ u.2.1.1.length ∧ u.2.1.1.length ≤ 4 ∧ (∀ c, c ∈ u.2.1.1 → ColOK c) ∧ u.2.2.2.2.2.1.length ≤ 4) (fun u hu => ?_) fun J hJ => ?_
      · obtain ⟨v1, v2, v3, v4, v5⟩ := hu
        refine .bind (num n hl v1 (by omega)) fun y11 ⟨_, _, p11⟩ => ?_
        refine .dec (fun h => ?_) fun h => .some ⟨v2, v3, v4, v5, p11⟩
        refine .bind (num n hl p11 (by omega)) fun y12 ⟨_, _, p12⟩ => ?_
        refine .bind (num n hl p12 (by omega)) fun y13 ⟨_, _, p13⟩ => ?_
        exact .some ⟨v2, v3, v4, v5, p13⟩
      · refine .bind (num n hl r1 (by omega)) fun y14 ⟨_, _, p14⟩ => ?_
        refine .dec (fun h => ?_) fun h => hJ _ ⟨p14, r2, r3, r7, by dsimp only; omega⟩
        refine .bind (num n hl p14 (by omega)) fun y15 ⟨_, _, p15⟩ => ?_
        exact hJ _ ⟨p15, r2, r3, r7, by dsimp only; omega⟩

theorem fits_none {t : Int} (h1 : 1 ≤ t) (h2 : t ≤ 4) : fitsV t d0 = true := by simp [fitsV, mayV, d0, h1, h2]

theorem gets_F26 {l : List Int} {st : Pks} {t : Int} (n : Nat) (hl : Nums l) (hp : Pk l st) (ht : 1 ≤ t) (ht4 : t ≤ 4) : Gets (F26 n (st, t, ())) fun y => fitsV t y.1.1 = true ∧ Pk l y.2.1 := by
  unfold F26
  dsimp only
  refine .bind (num n hl hp (by omega)) fun y1 ⟨a1, b1, p1⟩ => ?_
  have hk : y1.1.1.toNat < 9 := by omega
  refine .join (fun s => Pk l s.1) (fun s hs => ?_) fun J hJ => ?_
  · refine .dec (fun h => ?_) fun h => ?_
    · subst h
      refine .atI a1 (by simpa using b1) (.some ⟨?_, hs⟩)
      dsimp only
      generalize y1.1.1.toNat = i at hk
      have key : ∀ i, i < 9 → fitsV 1 (1, ([(0:Int), (1:Int), (2:Int), (3:Int), (-1:Int), (100:Int), (-32768:Int), (32767:Int), (5:Int)].getD i (0:Int)), [], ()) = true := by decide
      exact key i hk
    refine .dec (fun h => ?_) fun h => ?_
    · subst h
      refine .atI a1 (by simpa using b1) (.some ⟨?_, hs⟩)
      simp [fitsV, mayV]
    refine .dec (fun h => ?_) fun h => ?_
    · subst h
      refine .some ⟨?_, hs⟩
      have e1 := Int.tmod_nonneg 2 a1
      have e2 := Int.tmod_lt_of_pos y1.1.1 (b := 2) (by omega)
      have : y1.1.1.tmod 2 = 0 ∨ y1.1.1.tmod 2 = 1 := by omega
      simp [fitsV, mayV, this]
    have h4 : t = 4 := by omega
    subst h4
    refine .atI a1 (by simpa using b1) (.some ⟨?_, hs⟩)
    dsimp only
    generalize y1.1.1.toNat = i at hk
    have key : ∀ i, i < 9 → fitsV 4 (4, 0, (([[], [97], [98], [97, 58, 98], [97, 98], [120, 58, 121, 58, 122], [58], [116, 119, 101, 110, 116, 121, 45, 98, 121, 116, 101, 115, 45, 111, 102, 45, 116, 101, 120, 116], [99]] : List (List Int)).getD i []), ()) = true := by decide
    exact key i hk
  · refine .dec (fun h => ?_) fun h => hJ _ p1
    refine .bind (Q' := fun y => Pk l y.2.1) (.some p1) fun y4 p4 => ?_
    exact .not (fun _ => .some ⟨fits_none ht ht4, p4⟩) fun _ => hJ _ p4

theorem getD_mem {α : Type} {l : List α} {i : Nat} {d : α} (hi : i < l.length) : l.getD i d ∈ l := by
  rw [getD_lt hi]; exact List.getElem_mem hi

theorem gets_F32 {l : List Int} {st : Pks} {s : Sch} {n : Nat} (hn : 20 ≤ n) (hl : Nums l) (hp : Pk l st) (hc : s.1.length ≤ 4) (hok : ∀ c, c ∈ s.1 → ColOK c) :
    Gets (F32 n (st, s, ())) fun y => fitsRow s.1 y.1.1 = true ∧ Pk l y.2.1 := by
  unfold F32
  dsimp only
  refine .iter (fun t => Pk l t.1 ∧ (∀ i, i < t.2.1.length → fitsV (s.1.getD i k0).2.2.1 (t.2.1.getD i d0) = true) ∧ (t.2.1.length : Int) = t.2.2 ∧ t.2.2 ≤ s.1.length) (fun t => (4 - t.2.2).toNat) ⟨hp, by simp, by simp, by simp⟩ (by dsimp only; omega) fun rec t hi ih => ?_
  obtain ⟨q1, q2, q3, q4⟩ := hi
  refine .dec (fun h => ?_) fun h => ?_
  · have hco := hok _ (getD_mem (d := k0) (show t.2.2.toNat < s.1.length by omega))
    refine .atI (by omega) h (.bind (gets_F26 n hl q1 hco.1 hco.2.1) fun y3 ⟨a3, p3⟩ => ?_)
    refine .pos (by simp [room]; omega) (ih _ ⟨p3, fun i hi => ?_, ?_, ?_⟩ ?_)
    · dsimp only at hi ⊢
      rw [List.length_append] at hi
      simp only [List.length_cons, List.length_nil] at hi
      by_cases hit : i < t.2.1.length
      · rw [getD_lt (l := t.2.1 ++ [y3.1.1]) (i := i) (d := d0) (by simp; omega), List.getElem_append_left hit, ← getD_lt (d := d0) hit]
        exact q2 i hit
      · have : i = t.2.1.length := by omega
        subst this
        rw [getD_lt (l := t.2.1 ++ [y3.1.1]) (i := t.2.1.length) (d := d0) (by simp), List.getElem_append_right (by omega)]
        simpa [show t.2.2.toNat = t.2.1.length by omega] using a3
    all_goals (try simp only [List.length_append, List.length_cons, List.length_nil]); (rw [wrap_i64 (by omega) (by omega)]); omega
  · refine .some ⟨fitsRow_iff.2 ⟨by dsimp only; omega, fun i hi => q2 i (by omega)⟩, q1⟩

theorem gets_F15 {l : List Int} {st : Pks} {s : Sch} {n : Nat} (hn : 50 ≤ n) (hl : Nums l) (hp : Pk l st) (hc : s.1.length ≤ 4) (hok : ∀ c, c ∈ s.1 → ColOK c) :
    Gets (F15 n (st, s, 10, ())) fun y => y.1.1.length = 10 ∧ (∀ r, r ∈ y.1.1 → fitsRow s.1 r = true) ∧ Pk l y.2.1 := by
  unfold F15
  dsimp only
  refine .iter (fun t => Pk l t.1 ∧ (∀ r, r ∈ t.2.1 → fitsRow s.1 r = true) ∧ (t.2.1.length : Int) = t.2.2 ∧ t.2.2 ≤ 10) (fun t => (10 - t.2.2).toNat) ⟨hp, by simp, by simp, by simp⟩ (by dsimp only; omega) fun rec t hi ih => ?_
  obtain ⟨q1, q2, q3, q4⟩ := hi
  refine .dec (fun h => ?_) fun h => ?_
  · refine .bind (gets_F32 (by omega) hl q1 hc hok) fun y3 ⟨a3, p3⟩ => ?_
    refine .pos (by simp [room]; omega) (ih _ ⟨p3, ?_, ?_, ?_⟩ ?_)
    · intro v hv
      rcases List.mem_append.1 hv with hv | hv
      · exact q2 v hv
      · rw [List.mem_singleton.1 hv]; exact a3
    all_goals (try simp only [List.length_append, List.length_cons, List.length_nil]); (rw [wrap_i64 (by omega) (by omega)]); omega
  · exact .some ⟨by dsimp only; omega, q2, q1⟩

theorem gets_F25 {l : List Int} {st : Pks} {s : Sch} (n : Nat) (hl : Nums l) (hp : Pk l st) (hc : 1 ≤ s.1.length) : Gets (F25 n (st, s, ())) fun y => Pk l y.2.1 := by
  unfold F25
  dsimp only
  refine .bind (num n hl hp (by omega)) fun y1 ⟨a1, b1, p1⟩ => ?_
  exact .atI a1 b1 (.some p1)

/-- A made change's name is short. -/
theorem gets_F13 {l : List Int} {st : Pks} {s : Sch} (n : Nat) (hl : Nums l) (hp : Pk l st) (hc : 1 ≤ s.1.length) : Gets (F13 n (st, s, ())) fun y => y.1.1.2.2.1.length ≤ 2 ∧ Pk l y.2.1 := by
  unfold F13
  dsimp only
  refine .bind (num n hl hp (by omega)) fun y1 ⟨a1, b1, p1⟩ => ?_
  refine .bind (gets_F25 n hl p1 hc) fun y2 p2 => ?_
  refine .dec (fun h => ?_) fun h => ?_
  · refine .bind (num n hl p2 (by omega)) fun y3 ⟨a3, b3, p3⟩ => ?_
    refine .bind (num n hl p3 (by omega)) fun y4 ⟨a4, b4, p4⟩ => ?_
    rw [wrap_i64 (x := 1 + y3.1.1) (by omega) (by omega)]
    exact .pos (by simp) (.bind (gets_F26 n hl p4 (by omega) (by omega)) fun y5 ⟨_, p5⟩ => .some ⟨by simp, p5⟩)
  refine .dec (fun h => ?_) fun h => ?_
  · exact .bind (num n hl p2 (by omega)) fun y6 ⟨a6, b6, p6⟩ => .pos (by simp) (.some ⟨by simp, p6⟩)
  refine .dec (fun h => ?_) fun h => ?_
  · refine .bind (num n hl p2 (by omega)) fun y7 ⟨a7, b7, p7⟩ => .pos (by simp) (.bind (num n hl p7 (by omega)) fun y8 ⟨a8, b8, p8⟩ => ?_)
    exact .dec (fun _ => .some ⟨by simp, p8⟩) fun _ => .some ⟨by simp, p8⟩
  refine .dec (fun h => ?_) fun h => ?_
  · refine .bind (num n hl p2 (by omega)) fun y9 ⟨a9, b9, p9⟩ => ?_
    exact .dec (fun _ => .some ⟨by simp, p9⟩) fun _ => .some ⟨by simp, p9⟩
  refine .dec (fun h => ?_) fun h => ?_
  · exact .bind (num n hl p2 (by omega)) fun y10 ⟨_, _, p10⟩ => .some ⟨by simp, p10⟩
  refine .dec (fun h => .some ⟨by simp, p2⟩) fun h => ?_
  refine .dec (fun h => ?_) fun h => .some ⟨by simp, p2⟩
  exact .bind (num n hl p2 (by omega)) fun y11 ⟨_, _, p11⟩ => .some ⟨by simp, p11⟩

end Go.Rb.S1

namespace Go.Rb.S1
open Go.Rb

/-- A schema behind a change that may be. -/
def ApOK (cols : List Cl) (c : Chg) (t : List Cl) : Prop :=
  (c.1 = 1 ∧ fitsV c.2.2.2.1 c.2.2.2.2.1 = true ∧ ∃ id nm, t = cols ++ [(id, nm, c.2.2.2.1, ())]) ∨
  (c.1 = 2 ∧ ∃ i, byId cols c.2.1 = some i ∧ t = cols.take i ++ cols.drop (i + 1)) ∨
  (c.1 = 3 ∧ ∃ i nm, byId cols c.2.1 = some i ∧ t = cols.set i ((cols.getD i k0).1, nm, (cols.getD i k0).2.2)) ∨
  (c.1 = 4 ∧ ∃ i ty, byId cols c.2.1 = some i ∧ (((cols.getD i k0).2.2.1 = 3 ∧ ty = 1) ∨ ((cols.getD i k0).2.2.1 = 1 ∧ ty = 2)) ∧ t = cols.set i ((cols.getD i k0).1, (cols.getD i k0).2.1, ty, (cols.getD i k0).2.2.2)) ∨
  (c.1 = 5 ∧ ∃ i id nm, byId cols c.2.1 = some i ∧ (cols.getD i k0).2.2.1 = 4 ∧ t = cols.take (i + 1) ++ [(id, nm, 4, ())] ++ cols.drop (i + 1)) ∨
  (6 ≤ c.1 ∧ t = cols)

theorem gets_F45 {n : Nat} {nm : List Int} (hn : 20 ≤ n) (h : nm.length ≤ 12) : Gets (F45 n (nm, ())) fun _ => True := by
  unfold F45
  dsimp only
  refine .iter (fun s => 0 ≤ s ∧ s ≤ nm.length) (fun s => ((nm.length : Int) - s).toNat) ⟨by simp, by simp⟩ (by simp; omega) fun rec s hi ih => ?_
  obtain ⟨q1, q2⟩ := hi
  refine .dec (fun h => ?_) fun h => .dec (fun _ => .some trivial) fun _ => .some trivial
  refine .atI q1 h (.dec (fun _ => .some trivial) fun _ => .atI q1 h (.dec (fun _ => .some trivial) fun _ => ih _ ⟨?_, ?_⟩ ?_))
  all_goals (rw [wrap_i64 (by omega) (by omega)]); omega

theorem gets_F48 {n : Nat} {s : Sch} {nm : List Int} (hn : 20 ≤ n) (h : s.1.length ≤ 10) : Gets (F48 n (s, nm, ())) fun _ => True := by
  unfold F48
  dsimp only
  refine .iter (fun i => 0 ≤ i ∧ i ≤ s.1.length) (fun i => ((s.1.length : Int) - i).toNat) ⟨by simp, by simp⟩ (by simp; omega) fun rec i hi ih => ?_
  obtain ⟨q1, q2⟩ := hi
  refine .dec (fun h => ?_) fun h => .some trivial
  refine .atI q1 h (.dec (fun _ => .some trivial) fun _ => ih _ ⟨?_, ?_⟩ ?_)
  all_goals (rw [wrap_i64 (by omega) (by omega)]); omega

theorem gets_F46 (n : Nat) (t : Int) : Gets (F46 n (t, ())) fun _ => True := by
  unfold F46
  dsimp only
  exact .dec (fun _ => .some trivial) fun _ => .some trivial

theorem gets_F27 {n : Nat} {s : Sch} (hn : 20 ≤ n) (h : s.1.length ≤ 10) (hnm : ∀ c, c ∈ s.1 → c.2.1.length ≤ 12) : Gets (F27 n (s, ())) fun _ => True := by
  unfold F27
  dsimp only
  refine .iter (fun i => 0 ≤ i ∧ i ≤ s.1.length) (fun i => ((s.1.length : Int) - i).toNat) ⟨by simp, by simp⟩ (by simp; omega) fun rec i hi ih => ?_
  obtain ⟨q1, q2⟩ := hi
  refine .dec (fun h => ?_) fun h => .dec (fun _ => .dec (fun _ => .some trivial) fun _ => .some trivial) fun _ => .some trivial
  refine .atI q1 h (.dec (fun _ => .some trivial) fun _ => .dec (fun _ => .some trivial) fun _ => ?_)
  refine .bind (gets_F45 hn (hnm _ (getD_mem (d := k0) (show i.toNat < s.1.length by omega)))) fun y3 _ => .not (fun _ => .some trivial) fun _ => ?_
  refine .bind (gets_F46 n _) fun y4 _ => .not (fun _ => .some trivial) fun _ => ?_
  refine .iter (fun j => 0 ≤ j ∧ j ≤ i) (fun j => (i - j).toNat) ⟨by simp, q1⟩ (by simp; omega) fun rec' j hj ih' => ?_
  obtain ⟨r1, r2⟩ := hj
  refine .dec (fun h' => ?_) fun h' => ih _ ⟨?_, ?_⟩ ?_
  · refine .atI r1 (by omega) (.dec (fun _ => .some trivial) fun _ => .atI r1 (by omega) (.dec (fun _ => .some trivial) fun _ => ih' _ ⟨?_, ?_⟩ ?_))
    all_goals (rw [wrap_i64 (by omega) (by omega)]); omega
  all_goals (rw [wrap_i64 (by omega) (by omega)]); omega

theorem gets_F28 {n : Nat} {s : Sch} {lay : Lay} (hn : 20 ≤ n) (h : s.1.length ≤ 10) (he : lay.2.2.2.1.length ≤ 10) : Gets (F28 n (s, lay, ())) fun y => y.1.1 = true → lay.2.2.2.1.length = s.1.length := by
  obtain ⟨cols, last, u⟩ := s
  unfold F28
  dsimp only at *
  rw [F47_eq (by omega) (by omega), F47_eq (by omega) (by omega)]
  simp only [Option.bind_some]
  refine .iter (fun i => 0 ≤ i ∧ i ≤ lay.2.2.2.1.length) (fun i => ((lay.2.2.2.1.length : Int) - i).toNat) ⟨by simp, by simp⟩ (by simp; omega) fun rec i hi ih => ?_
  obtain ⟨q1, q2⟩ := hi
  have hfin : Gets (some (((decide ((lay.2.2.2.1.length : Int) = (cols.length : Int)), ()), ()) : (Bool × Unit) × Unit)) fun y => y.1.1 = true → lay.2.2.2.1.length = cols.length := .some fun h => by
    simp at h; omega
  have hno : Gets (some (((false, ()), ()) : (Bool × Unit) × Unit)) fun y => y.1.1 = true → lay.2.2.2.1.length = cols.length := .some fun h => by simp at h
  refine .dec (fun h => ?_) fun h => ?_
  · refine .atI q1 h (.dec (fun _ => hno) fun _ => .atI q1 h (.dec (fun _ => hno) fun _ => ih _ ⟨?_, ?_⟩ ?_))
    all_goals (rw [wrap_i64 (by omega) (by omega)]); omega
  · have hrest : Gets (if (decide ((1:Int) ≤ lay.2.2.1)) = true then (if (decide (lay.2.2.1 ≤ (4:Int))) = true then (if (byIdR cols lay.2.1).2.1 = true then (some (((decide ((lay.2.2.2.1.length : Int) = (cols.length : Int))), ()), ())) else (if (decide (lay.2.1 = (0:Int))) = true then (if (decide (lay.2.2.1 = (1:Int))) = true then (some (((decide ((lay.2.2.2.1.length : Int) = (cols.length : Int))), ()), ())) else (some ((false, ()), ()))) else (some ((false, ()), ())))) else (some ((false, ()), ()))) else (some ((false, ()), ())) : Option ((Bool × Unit) × Unit)) fun y => y.1.1 = true → lay.2.2.2.1.length = cols.length :=
      .dec (fun _ => .dec (fun _ => .ite (fun _ => hfin) fun _ => .dec (fun _ => .dec (fun _ => hfin) fun _ => hno) fun _ => hno) fun _ => hno) fun _ => hno
    exact .dec (fun _ => hrest) fun _ => .ite (fun _ => hrest) fun _ => hno

theorem gets_F29 {n : Nat} {s : Sch} {lay : Lay} {c : Chg} (hn : 20 ≤ n) (h : s.1.length ≤ 10) (he : lay.2.2.2.1.length ≤ 10) (hnm : c.2.2.1.length ≤ 12) (hk : c.1 = 1) :
    Gets (F29 n (s, lay, c, ())) fun y => y.1.1 = 0 → ApOK s.1 c y.2.1.1 := by
  unfold F29
  dsimp only
  have hno : ∀ (e : Int) (s' : Sch) (l' : Lay), e ≠ 0 → Gets (some (((e, ()), (s', l', ())) : (Int × Unit) × (Sch × Lay × Unit))) fun y => y.1.1 = 0 → ApOK s.1 c y.2.1.1 := fun e s' l' he => .some fun h => absurd h he
  refine .bind (gets_F48 hn h) fun y1 _ => .bind (gets_F45 hn hnm) fun y2 _ => .not (fun _ => hno _ _ _ (by simp)) fun _ => ?_
  refine .bind (gets_F46 n _) fun y3 _ => .not (fun _ => hno _ _ _ (by simp)) fun _ => .ite (fun _ => hno _ _ _ (by simp)) fun _ => ?_
  rw [F33_eq]
  simp only [Option.bind_some]
  refine .not (fun _ => hno _ _ _ (by simp)) fun hfit => .dec (fun _ => hno _ _ _ (by simp)) fun _ => .dec (fun _ => hno _ _ _ (by simp)) fun _ => ?_
  refine .pos (by simp [room]; omega) (.pos (by simp [room]; omega) (.some fun _ => ?_))
  exact .inl ⟨hk, hfit, _, _, rfl⟩

theorem gets_F31 {n : Nat} {s : Sch} {lay : Lay} {c : Chg} (hn : 20 ≤ n) (h : s.1.length ≤ 10) (he : lay.2.2.2.1.length = s.1.length) :
    Gets (F31 n (s, lay, c, ())) fun y => y.1.1 = 0 → 6 ≤ c.1 := by
  obtain ⟨cols, last, u⟩ := s
  unfold F31
  dsimp only at *
  rw [F47_eq (by omega) (by omega)]
  simp only [Option.bind_some]
  have hno : ∀ (e : Int) (l' : Lay), e ≠ 0 → Gets (some (((e, ()), (l', ())) : (Int × Unit) × (Lay × Unit))) fun y => y.1.1 = 0 → 6 ≤ c.1 := fun e l' he => .some fun h => absurd h he
  have hyes : ∀ (e : Int) (l' : Lay), 6 ≤ c.1 → Gets (some (((e, ()), (l', ())) : (Int × Unit) × (Lay × Unit))) fun y => y.1.1 = 0 → 6 ≤ c.1 := fun e l' h => .some fun _ => h
  refine .dec (fun hk => ?_) fun _ => .dec (fun hk => ?_) fun _ => .dec (fun hk => hyes _ _ (by omega)) fun _ => .dec (fun hk => ?_) fun _ => hno _ _ (by simp)
  · exact .not (fun _ => .ite (fun _ => hno _ _ (by simp)) fun _ => hyes _ _ (by omega)) fun _ => hyes _ _ (by omega)
  · exact .dec (fun _ => hno _ _ (by simp)) fun _ => .dec (fun _ => hno _ _ (by simp)) fun _ => .not (fun _ => .ite (fun _ => hno _ _ (by simp)) fun _ => .ite (fun _ => hno _ _ (by simp)) fun _ => hyes _ _ (by omega)) fun _ => hyes _ _ (by omega)
  · refine .not (fun _ => hno _ _ (by simp)) fun hb => .dec (fun _ => hno _ _ (by simp)) fun _ => .dec (fun _ => hno _ _ (by simp)) fun _ => ?_
    unfold byIdR at hb ⊢
    cases hbi : byId cols c.2.1 with
    | none => rw [hbi] at hb; simp at hb
    | some i =>
      have := byId_lt hbi
      exact .atI (by simp) (by simp; omega) (hyes _ _ (by omega))

theorem gets_F30 {n : Nat} {s : Sch} {lay : Lay} {c : Chg} (hn : 20 ≤ n) (h : s.1.length ≤ 10) (he : lay.2.2.2.1.length = s.1.length) (hnm : c.2.2.1.length ≤ 12) (hk : 2 ≤ c.1 ∧ c.1 ≤ 5) :
    Gets (F30 n (s, lay, c, ())) fun y => y.1.1 = 0 → ApOK s.1 c y.2.1.1 := by
  obtain ⟨cols, last, u⟩ := s
  unfold F30
  dsimp only at *
  rw [F47_eq (by omega) (by omega)]
  simp only [Option.bind_some]
  have hno : ∀ (e : Int) (s' : Sch) (l' : Lay), e ≠ 0 → Gets (some (((e, ()), (s', l', ())) : (Int × Unit) × (Sch × Lay × Unit))) fun y => y.1.1 = 0 → ApOK cols c y.2.1.1 := fun e s' l' he => .some fun h => absurd h he
  refine .not (fun _ => hno _ _ _ (by simp)) fun hb => ?_
  unfold byIdR at hb ⊢
  cases hbi : byId cols c.2.1 with
  | none => rw [hbi] at hb; simp at hb
  | some i =>
    have hi := byId_lt hbi
    have hi' : (i : Int) < cols.length := by omega
    dsimp only
    rw [wrap_succ (show i < 9223372036854775807 by omega)]
    refine .join (fun t => t.1 = lay) (fun t ht => ?_) fun J hJ => ?_
    · rw [ht]
      refine .bind (gets_F48 hn h) fun y4 _ => .dec (fun hk2 => ?_) fun hk2 => .dec (fun hk3 => ?_) fun hk3 => .dec (fun hk4 => ?_) fun hk4 => ?_
      · refine .dec (fun _ => hno _ _ _ (by simp)) fun _ => .ite (fun _ => hno _ _ _ (by simp)) fun _ => ?_
        refine .pos (by omega) (.pos (by omega) (.pos (by simp [room]; omega) (.pos (by omega) (.pos (by omega) (.pos (by simp [room]; omega) (.some fun _ => ?_))))))
        refine .inr (.inl ⟨hk2, i, hbi, ?_⟩)
        simp
      · refine .bind (gets_F45 hn hnm) fun y5 _ => .not (fun _ => hno _ _ _ (by simp)) fun _ => .ite (fun _ => ?_) fun _ => ?_
        · refine .ite (fun _ => hno _ _ _ (by simp)) fun _ => .atI (by omega) hi' (.some fun _ => ?_)
          exact .inr (.inr (.inl ⟨hk3, i, c.2.2.1, hbi, rfl⟩))
        · refine .atI (by omega) hi' (.some fun _ => ?_)
          exact .inr (.inr (.inl ⟨hk3, i, c.2.2.1, hbi, rfl⟩))
      · refine .atI (by omega) hi' (.dec (fun ht3 => .atI (by omega) hi' (.some fun _ => ?_)) fun _ => .dec (fun ht1 => .atI (by omega) hi' (.some fun _ => ?_)) fun _ => hno _ _ _ (by simp))
        · exact .inr (.inr (.inr (.inl ⟨hk4, i, 1, hbi, .inl ⟨by simpa using ht3, rfl⟩, by simp⟩)))
        · exact .inr (.inr (.inr (.inl ⟨hk4, i, 2, hbi, .inr ⟨by simpa using ht1, rfl⟩, by simp⟩)))
      · refine .atI (by omega) hi' (.ite (fun _ => hno _ _ _ (by simp)) fun h4 => .ite (fun _ => hno _ _ _ (by simp)) fun _ => .bind (gets_F45 hn hnm) fun y6 _ => .not (fun _ => hno _ _ _ (by simp)) fun _ => .ite (fun _ => hno _ _ _ (by simp)) fun _ => ?_)
        refine .dec (fun _ => hno _ _ _ (by simp)) fun _ => .dec (fun _ => hno _ _ _ (by simp)) fun _ => ?_
        refine .pos (by omega) (.pos (by simp [room]; omega) (.pos (by simp [room]; omega) (.pos (by omega) (.pos (by simp [room]; omega) (.pos (by omega) (.pos (by simp [room]; omega) (.pos (by simp [room]; omega) (.pos (by omega) (.pos (by simp [room]; omega) (.some fun _ => ?_))))))))))
        refine .inr (.inr (.inr (.inr (.inl ⟨by omega, i, IntKind.i64.wrap (last + 1), c.2.2.1, hbi, by simpa using h4, ?_⟩))))
        simp
    · exact .dec (fun _ => hJ _ rfl) fun _ => hJ _ rfl

theorem gets_F14 {n : Nat} {s : Sch} {lay : Lay} {c : Chg} (hn : 20 ≤ n) (h : s.1.length ≤ 10) (hcn : ∀ c, c ∈ s.1 → c.2.1.length ≤ 12) (he : lay.2.2.2.1.length ≤ 10) (hnm : c.2.2.1.length ≤ 12) :
    Gets (F14 n (s, lay, c, ())) fun y => y.1.2.2.1 = 0 → ApOK s.1 c y.1.1.1 := by
  unfold F14
  dsimp only
  refine .bind (gets_F27 hn h hcn) fun y1 _ => .not (fun _ => .some fun h => by simp at h) fun _ => .bind (gets_F28 hn h he) fun y2 hy2 => .not (fun _ => .some fun h => by simp at h) fun h2 => ?_
  have hel := hy2 h2
  simp only [List.nil_append]
  refine .pos (by simp [room]; omega) (.pos (by simp [room]; omega) (.join (fun t => t.2.2 = 0 → ApOK s.1 c t.1.1) (fun t ht => ?_) fun J hJ => ?_))
  · refine .ite (fun hne => .some fun h => ?_) fun hne => .some fun _ => ht (by simpa using hne)
    simp at hne
    exact absurd h hne
  · refine .dec (fun hk => .bind (gets_F29 hn h (by omega) hnm hk) fun y5 h5 => hJ _ h5) fun _ => .dec (fun hk2 => .dec (fun hk5 => ?_) fun hk5 => ?_) fun hk2 => ?_
    · exact .bind (gets_F30 (s := s) (lay := lay) hn h hel hnm ⟨hk2, hk5⟩) fun y6 h6 => hJ _ h6
    · exact .bind (gets_F31 (s := s) (lay := lay) hn h hel) fun y7 h7 => hJ _ fun h0 => .inr (.inr (.inr (.inr (.inr ⟨h7 h0, rfl⟩))))
    · exact .bind (gets_F31 (s := s) (lay := lay) hn h hel) fun y7 h7 => hJ _ fun h0 => .inr (.inr (.inr (.inr (.inr ⟨h7 h0, rfl⟩))))

end Go.Rb.S1

namespace Go.Rb.S1
open Go.Rb

theorem getD_cut {α : Type} (l : List α) (i j : Nat) (d : α) (hi : i < l.length) : (l.take i ++ l.drop (i + 1)).getD j d = if j < i then l.getD j d else l.getD (j + 1) d := by
  simp only [List.getD_eq_getElem?_getD, List.getElem?_append, List.length_take, List.getElem?_take, List.getElem?_drop]
  have : min i l.length = i := by omega
  rw [this]
  split
  · rfl
  · congr 2; omega

theorem getD_ins {α : Type} (l : List α) (i j : Nat) (x d : α) (hi : i < l.length) : (l.take (i + 1) ++ ([x] ++ l.drop (i + 1))).getD j d = if j < i + 1 then l.getD j d else if j = i + 1 then x else l.getD (j - 1) d := by
  simp only [List.getD_eq_getElem?_getD, List.getElem?_append, List.length_take, List.getElem?_take, List.getElem?_drop, List.length_cons, List.length_nil]
  have : min (i + 1) l.length = i + 1 := by omega
  rw [this]
  split
  · rfl
  · split
    · have : j = i + 1 := by omega
      subst this
      simp
    · rw [if_neg (by omega)]
      congr 2; omega

theorem getD_set {α : Type} (l : List α) (i j : Nat) (a d : α) (hi : i < l.length) : (l.set i a).getD j d = if i = j then a else l.getD j d := by
  simp only [List.getD_eq_getElem?_getD, List.getElem?_set, hi, if_true]
  split <;> rfl

theorem getD_push {α : Type} (l : List α) (j : Nat) (a d : α) (hj : j < l.length + 1) : (l ++ [a]).getD j d = if j < l.length then l.getD j d else a := by
  simp only [List.getD_eq_getElem?_getD, List.getElem?_append]
  split
  · rfl
  · have : j - l.length = 0 := by omega
    simp [this]

theorem wider_fits {t ty : Int} {v : V} (h : fitsV t v = true) (ht : (t = 3 ∧ ty = 1) ∨ (t = 1 ∧ ty = 2)) : fitsV ty (widerV v) = true := by
  obtain ⟨a, k, s, u⟩ := v
  unfold fitsV mayV at h
  unfold fitsV mayV widerV
  dsimp only at *
  simp only [Bool.and_eq_true, Bool.or_eq_true, decide_eq_true_eq] at h
  obtain ⟨⟨h1, h2⟩, h3⟩ := h
  rcases ht with ⟨rfl, rfl⟩ | ⟨rfl, rfl⟩ <;> rcases h3 with rfl | rfl
  · simpa using h1
  · simp at h1
    obtain ⟨h4, h5⟩ := h1
    rcases h4 with rfl | rfl <;> simp [h5]
  · simpa using h1
  · simp at h1
    simp [h1.2]

theorem apart_fits {c : Int} {v : V} (h : fitsV 4 v = true) : fitsV 4 (apartV v c).1 = true ∧ fitsV 4 (apartV v c).2 = true := by
  unfold apartV
  split
  · have hl := fitsV_len h
    have h1 : (v.2.2.1.take (idxI v.2.2.1 c).toNat).length ≤ 20 := by rw [List.length_take]; omega
    have h2 : (v.2.2.1.drop ((idxI v.2.2.1 c).toNat + 1)).length ≤ 20 := by rw [List.length_drop]; omega
    constructor
    · simp only [fitsV, mayV]; simp [h1]; simpa using h1
    · simp only [fitsV, mayV]; simp; simpa using h2
  · exact ⟨h, fits_none (by decide) (by decide)⟩

/-- What a change makes of a row fits what it makes of the schema. -/
theorem chRow_fits {cols t : List Cl} {c : Chg} {row : List V} (ha : ApOK cols c t) (hf : fitsRow cols row = true) : (chRow cols c row).2 = true ∧ fitsRow t (chRow cols c row).1 = true ∧ (6 ≤ c.1 → (chRow cols c row).1 = row) := by
  obtain ⟨hl, hfit⟩ := fitsRow_iff.1 hf
  unfold chRow
  rw [if_neg (by simp [hf])]
  rcases ha with ⟨hk, hv, id, nm, rfl⟩ | ⟨hk, i, hb, rfl⟩ | ⟨hk, i, nm, hb, rfl⟩ | ⟨hk, i, ty, hb, hty, rfl⟩ | ⟨hk, i, id, nm, hb, h4, rfl⟩ | ⟨hk, rfl⟩
  · rw [if_pos hk]
    refine ⟨rfl, fitsRow_iff.2 ⟨by simp [hl], fun j hj => ?_⟩, fun h => by omega⟩
    simp only [List.length_append, List.length_cons, List.length_nil] at hj
    rw [getD_push _ _ _ _ (by omega), getD_push _ _ _ _ (by omega), hl]
    split
    · exact hfit j (by omega)
    · exact hv
  · have hi := byId_lt hb
    rw [if_neg (by omega), if_pos (by omega), hb]
    dsimp only
    rw [if_pos hk]
    refine ⟨rfl, fitsRow_iff.2 ⟨by simp [hl], fun j hj => ?_⟩, fun h => by omega⟩
    simp only [List.length_append, List.length_take, List.length_drop] at hj
    dsimp only
    rw [getD_cut _ _ _ _ hi, getD_cut _ _ _ _ (by omega)]
    split <;> exact hfit _ (by omega)
  · have hi := byId_lt hb
    rw [if_neg (by omega), if_neg (by omega)]
    refine ⟨rfl, fitsRow_iff.2 ⟨by simp [hl], fun j hj => ?_⟩, fun h => by omega⟩
    rw [getD_set _ _ _ _ _ hi]
    rw [List.length_set] at hj
    split
    · rename_i he; subst he; exact hfit i hi
    · exact hfit j hj
  · have hi := byId_lt hb
    rw [if_neg (by omega), if_pos (by omega), hb]
    dsimp only
    rw [if_neg (by omega), if_pos hk]
    refine ⟨rfl, fitsRow_iff.2 ⟨by simp [hl], fun j hj => ?_⟩, fun h => by omega⟩
    rw [List.length_set] at hj
    dsimp only
    rw [getD_set _ _ _ _ _ hi, getD_set _ _ _ _ _ (by omega)]
    split
    · exact wider_fits (hfit i hi) hty
    · exact hfit j hj
  · have hi := byId_lt hb
    rw [if_neg (by omega), if_pos (by omega), hb]
    dsimp only
    rw [if_neg (by omega), if_neg (by omega)]
    have hvi := hfit i hi
    rw [h4] at hvi
    obtain ⟨a1, a2⟩ := apart_fits (c := c.2.2.2.2.2.1) hvi
    refine ⟨rfl, fitsRow_iff.2 ⟨by simp [hl], fun j hj => ?_⟩, fun h => by omega⟩
    simp only [List.length_append, List.length_take, List.length_drop, List.length_cons, List.length_nil] at hj
    dsimp only
    rw [List.append_assoc, getD_ins _ _ _ _ _ hi, getD_ins _ _ _ _ _ (by rw [List.length_set]; omega)]
    split
    · rw [getD_set _ _ _ _ _ (by omega)]
      split
      · rename_i he; subst he; rw [h4]; exact a1
      · exact hfit j (by omega)
    · split
      · exact a2
      · rw [getD_set _ _ _ _ _ (by omega), if_neg (by omega)]
        exact hfit _ (by omega)
  · rw [if_neg (by omega), if_neg (by omega)]
    exact ⟨rfl, hf, fun _ => rfl⟩

theorem gets_F16 {n : Nat} {s : Sch} {c : Chg} {rows : List (List V)} (hn : 20 ≤ n) (hc : s.1.length ≤ 10) (hr : rows.length ≤ 15) (hok : ∀ r, r ∈ rows → (chRow s.1 c r).2 = true) :
    Gets (F16 n (s, c, rows, ())) fun y => y.1.2.1 = true ∧ y.1.1 = rows.map fun r => (chRow s.1 c r).1 := by
  obtain ⟨cols, last, u⟩ := s
  unfold F16
  dsimp only at *
  refine .iter (fun t => 0 ≤ t.2 ∧ t.2 ≤ rows.length ∧ t.1 = (rows.take t.2.toNat).map fun r => (chRow cols c r).1) (fun t => ((rows.length : Int) - t.2).toNat) ⟨by simp, by simp, by simp⟩ (by simp; omega) fun rec t hi ih => ?_
  obtain ⟨q1, q2, q3⟩ := hi
  refine .dec (fun h => ?_) fun h => ?_
  · have hmem := getD_mem (l := rows) (d := []) (show t.2.toNat < rows.length by omega)
    refine .atI q1 h ?_
    rw [F19_eq (by omega) (by omega)]
    simp only [Option.bind_some]
    refine .not (fun hf => ?_) fun _ => ?_
    · rw [hok _ hmem] at hf; simp at hf
    · have hlen : t.1.length ≤ 15 := by rw [q3]; simp; omega
      refine .pos (by simp [room]; omega) (ih _ ⟨?_, ?_, ?_⟩ ?_)
      · dsimp only; rw [wrap_i64 (by omega) (by omega)]; omega
      · dsimp only; rw [wrap_i64 (by omega) (by omega)]; omega
      · dsimp only
        rw [wrap_i64 (by omega) (by omega), q3, show (t.2 + 1).toNat = t.2.toNat + 1 by omega, List.take_add_one, List.map_append]
        congr 1
        have hlt : t.2.toNat < rows.length := by omega
        rw [getD_lt hlt, List.getElem?_eq_getElem hlt]
        rfl
      · dsimp only; rw [wrap_i64 (by omega) (by omega)]; omega
  · refine .some ⟨rfl, ?_⟩
    dsimp only
    rw [q3, show t.2.toNat = rows.length by omega, List.take_length]

theorem law_fits (l m : List Int) (hl : ∀ c, c ∈ l → 0 ≤ c ∧ c ≤ 255) (hm : ∀ c, c ∈ m → 0 ≤ c ∧ c ≤ 255) : Gets (F4 200 (l, m, ())) fun y => y.1.1 = true := by
  unfold F4
  rw [begun12]
  dsimp only [Option.bind_some]
  refine .not (fun h => by simp at h) fun _ => .dec (fun _ => .some rfl) fun h1 => .dec (fun _ => .some rfl) fun h2 => ?_
  have hnl : Nums l := ⟨by omega, hl⟩
  have hnm : Nums m := ⟨by omega, hm⟩
  refine .bind (Q' := fun y => Pk l y.1.1) (.some ⟨rfl, by simp, by simp⟩) fun y2 p2 => ?_
  refine .bind (gets_F9 (by omega) hnl p2) fun y3 ⟨c2, c4, cok, ce, p3⟩ => ?_
  refine .bind (Q' := fun y => Pk m y.1.1) (.some ⟨rfl, by simp, by simp⟩) fun y4 p4 => ?_
  refine .bind (gets_F13 200 hnm p4 (by omega)) fun y5 ⟨hname, p5⟩ => ?_
  refine .bind (gets_F14 (by omega) (by omega) (fun c hc => by have := (cok c hc).2.2; omega) (by omega) (by omega)) fun y6 hap => ?_
  refine .ite (fun _ => .some rfl) fun h0 => ?_
  have hap := hap (by simpa using h0)
  refine .bind (gets_F15 (by omega) hnm p5 c4 cok) fun y7 ⟨r10, rfit, _⟩ => ?_
  have hch : ∀ r, r ∈ y7.1.1 → (chRow y3.1.1.1 y5.1.1 r).2 = true := fun r hr => (chRow_fits hap (rfit r hr)).1
  refine .bind (gets_F16 (by omega) (by omega) (by omega) hch) fun y8 ⟨h8, h8e⟩ => ?_
  refine .not (fun h => by rw [h8] at h; simp at h) fun _ => .ite (fun h => by rw [h8e] at h; simp at h) fun _ => ?_
  have hl8 : y8.1.1.length = 10 := by rw [h8e]; simp [r10]
  have htl : y6.1.1.1.length ≤ 100 := by
    have h0 : 0 < y7.1.1.length := by omega
    have hmem := getD_mem (d := ([] : List V)) h0
    have := (fitsRow_iff.1 (chRow_fits hap (rfit _ hmem)).2.1).1
    rcases hap with ⟨_, _, _, _, h⟩ | ⟨_, _, _, h⟩ | ⟨_, _, _, _, h⟩ | ⟨_, _, _, _, _, h⟩ | ⟨_, _, _, _, _, _, h⟩ | ⟨_, h⟩ <;> rw [h] <;> simp <;> omega
  refine .iter (fun i => 0 ≤ i ∧ i ≤ 10) (fun i => (10 - i).toNat) ⟨by simp, by simp⟩ (by simp) fun rec i hi ih => ?_
  obtain ⟨q1, q2⟩ := hi
  have hnext : i < 10 → Gets (rec (IntKind.i64.wrap (i + 1))) fun y => y.1.1 = true := fun h => by
    refine ih _ ⟨?_, ?_⟩ ?_
    all_goals (rw [wrap_i64 (by omega) (by omega)]); omega
  refine .dec (fun h => ?_) fun h => .some rfl
  have hi10 : i.toNat < y7.1.1.length := by omega
  have hmem := getD_mem (d := ([] : List V)) hi10
  have hrow : y8.1.1.getD i.toNat [] = (chRow y3.1.1.1 y5.1.1 (y7.1.1.getD i.toNat [])).1 := by
    rw [h8e, getD_lt (by simp; exact hi10), getD_lt hi10, List.getElem_map]
  obtain ⟨_, f2, f3⟩ := chRow_fits hap (rfit _ hmem)
  refine .atI q1 h ?_
  rw [hrow]
  have h17 := F17_eq (n := 200) (cols := y6.1.1.1) (last := y6.1.1.2.1) (u := y6.1.1.2.2) (row := (chRow y3.1.1.1 y5.1.1 (y7.1.1.getD i.toNat [])).1) (by omega) (by omega)
  rw [show ((y6.1.1.1, y6.1.1.2.1, y6.1.1.2.2) : Sch) = y6.1.1 from rfl] at h17
  rw [h17, f2]
  simp only [Option.bind_some]
  refine .not (fun h => by simp at h) fun _ => .dec (fun hk => ?_) fun _ => hnext (by omega)
  rw [f3 hk]
  refine .atI q1 h (.atI q1 (by omega) ?_)
  have hrl : (y7.1.1.getD i.toNat []).length ≤ 4 := by
    have := (fitsRow_iff.1 (rfit _ hmem)).1
    omega
  rw [F18_same (by omega) (by omega)]
  simp only [Option.bind_some]
  exact .not (fun h => by simp at h) fun _ => hnext (by omega)

end Go.Rb.S1
