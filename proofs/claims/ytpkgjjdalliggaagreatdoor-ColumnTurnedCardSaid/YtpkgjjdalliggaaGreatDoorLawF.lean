/- Plain law: the document's answer on numbers of few bytes and of few bits. Own work. -/
import Derived.Test.YtpkgjjdalliggaaGreatDoorLawD
import Derived.Test.YtpkgjjdalliggaaGreatDoorLawE
set_option autoImplicit false
set_option linter.unusedVariables false
set_option linter.unusedSimpArgs false
namespace Go.Rb.R4
open Go.Rb
theorem f5e {R : Type} {o : Option R} {r : R} (h : Gets o fun y => y = r) : o = some r := by
 obtain ⟨y, h1, rfl⟩ := h
 exact h1
def isT (t : Int) : Bool := decide (1 ≤ t) && decide (t ≤ 4)
theorem c8e {t : Int} : isT t = true ↔ 1 ≤ t ∧ t ≤ 4 := by simp [isT]
theorem b0v (n : Nat) (t : Int) : a1m n (t, ()) = some ((isT t, ()), ()) := by
 unfold a1m isT
 dsimp only
 by_cases h : 1 ≤ t <;> simp [h]
theorem d0s (n : Nat) (v : Vl) : a6m n (v, ()) = some ((mayV v, ()), ()) := by
 obtain ⟨a, b, c, u⟩ := v
 unfold a6m mayV
 dsimp only
 by_cases h1 : a = 1
 ·subst h1
  by_cases h2 : -32768 ≤ b
  ·by_cases h3 : b ≤ 32767 <;> simp [h2, h3]
  ·simp [h2]
 ·by_cases h2 : a = 2
  ·subst h2; simp
  ·by_cases h3 : a = 0
   ·subst h3
    by_cases h4 : b = 0 <;> simp [h4]
   ·by_cases h4 : a = 3
    ·subst h4
     by_cases h5 : b = 0
     ·simp [h5]
     ·by_cases h6 : b = 1 <;> simp [h5, h6]
    ·by_cases h5 : a = 4
     ·subst h5
      by_cases h6 : b = 0
      ·have : ((c.length : Int) ≤ 20) ↔ c.length ≤ 20 := by omega
       simp [h6, this]
      ·simp [h6]
     ·simp [h1, h2, h3, h4, h5]
theorem a8r {n v : Nat} (hv : v < 18446744073709551616) (hn : 10 ≤ n) : a1f n ((v : Int), ()) = some ((putN v, ()), ()) := by
 unfold a1f
 refine (a9r (I := fun k (s : Int × List Int) => ∃ v : Nat, s.1 = (v : Int) ∧ v < 128 ^ (k + 1) ∧ v < 18446744073709551616 ∧ s.2.length + k ≤ 1000)
  (res := fun s => some ((s.2 ++ putN s.1.toNat, ()), ())) ?_ n 9 _ ⟨v, rfl, by omega, hv, by simp⟩ (by omega)).trans (by simp)
 rintro k ⟨a, acc⟩ rec ⟨v, rfl, h1, h2, h3⟩ hrec
 dsimp only at h3
 have hr := a1t
 dsimp only
 by_cases h : v < 128
 ·rw [if_neg (by simp; omega), if_pos (by simp; omega)]
  rw [Int.toNat_natCast, a5e h, b3n (by omega)]
 ·obtain ⟨k, rfl⟩ : ∃ k', k = k' + 1 := ⟨k - 1, by
   rcases Nat.eq_zero_or_pos k with h0 | h0
   ·subst h0; omega
   ·omega⟩
  rw [if_pos (by simp; omega), if_pos (by simp; omega)]
  have e1 : IntKind.u8.wrap ((IntKind.u8.wrap ((v : Int).tmod (128:Int))) + 128) = ((v % 128 + 128 : Nat) : Int) := by
   rw [show (v : Int).tmod (128:Int) = ((v % 128 : Nat) : Int) from a9o v 128, b3n (by omega), show (((v % 128 : Nat) : Int) + 128) = ((v % 128 + 128 : Nat) : Int) by omega, b3n (by omega)]
  have e2 : IntKind.u64.wrap ((v : Int).tdiv (128:Int)) = ((v / 128 : Nat) : Int) := by
   rw [show (v : Int).tdiv (128:Int) = ((v / 128 : Nat) : Int) from a5x v 128, a2s (by omega)]
  rw [e1, e2]
  rw [hrec k _ (by omega) ⟨v / 128, rfl, by rw [Nat.pow_succ] at h1; omega, by omega, by simp; omega⟩]
  simp only [Int.toNat_natCast]
  rw [a9p (v := v) (by omega)]
  simp
theorem c3x {v : Int} (h1 : -9223372036854775808 ≤ v) (h2 : v ≤ 9223372036854775807) (n : Nat) : a5s n (v, ()) = some ((((zig v : Nat) : Int), ()), ()) := by
 unfold a5s zig
 dsimp only
 by_cases h : v < 0
 ·rw [if_pos (by simpa using h), if_neg (by omega), a1e (x := v + 1) (by omega) (by omega), a1e (x := 0 - (v + 1)) (by omega) (by omega)]
  simp only [a2g]
  congr 3
  omega
 ·rw [if_neg (by simpa using h), if_pos (by omega)]
  simp only [a2g]
  congr 3
  omega
theorem c3t {u : Nat} (h : u < 18446744073709551616) (n : Nat) : a7m n ((u : Int), ()) = some ((zag u, ()), ()) := by
 unfold a7m zag
 dsimp only
 rw [show ((u : Int)).tmod (2:Int) = ((u % 2 : Nat) : Int) from a9o u 2, show ((u : Int)).tdiv (2:Int) = ((u / 2 : Nat) : Int) from a5x u 2, a2s (by omega), a0x (by omega)]
 by_cases h1 : u % 2 = 0
 ·rw [if_neg (by simp; omega), if_pos h1]
 ·rw [if_pos (by simp; omega), if_neg h1, a1e (x := 0 - ((u / 2 : Nat) : Int)) (by omega) (by omega), a1e (by omega) (by omega)]
  congr 3
  omega
def c2r : List Int → Nat
 | [] => 0
 | x :: l => x.toNat % 128 + 128 * c2r l
theorem e6p : ∀ v, c2r (putN v) = v := by
 intro v
 induction v using Nat.strongRecOn with
 | ind v ih =>
  by_cases h : v < 128
  ·rw [a5e h]; simp [c2r]; omega
  ·rw [a9p (by omega)]
   simp only [c2r, Int.toNat_natCast]
   rw [ih (v / 128) (by omega)]
   omega
theorem d1d : ∀ (v i : Nat) (hi : i < (putN v).length), (i + 1 < (putN v).length → 128 ≤ (putN v)[i]) ∧ (i + 1 = (putN v).length → (putN v)[i] < 128) := by
 intro v
 induction v using Nat.strongRecOn with
 | ind v ih =>
  intro i hi
  by_cases h : v < 128
  ·have e := a5e h
   rw [List.getElem_of_eq e]
   have hl : (putN v).length = 1 := by rw [e]; rfl
   have : i = 0 := by omega
   subst this
   simp
   omega
  ·have e := a9p (show 128 ≤ v by omega)
   rw [List.getElem_of_eq e]
   have hl : (putN v).length = (putN (v / 128)).length + 1 := by rw [e]; rfl
   have h1 := b6o (v / 128)
   cases i with
   | zero =>
    simp only [List.getElem_cons_zero]
    omega
   | succ i =>
    simp only [List.getElem_cons_succ]
    have := ih (v / 128) (by omega) i (by omega)
    exact ⟨fun h => this.1 (by omega), fun h => this.2 (by omega)⟩
theorem c8d {b : List Int} (hb : a3o b) {v k : Nat} (h : a4e b = some (v, k)) : 1 ≤ k ∧ k ≤ 10 ∧ k ≤ b.length ∧ b.take k = putN v ∧ v < 18446744073709551616 ∧ ∀ i (hi : i < b.length), (i + 1 < k → 128 ≤ b[i]) ∧ (i + 1 = k → b[i] < 128) := by
 obtain ⟨h1, h2, h3⟩ := a2y hb h
 obtain ⟨h4, _⟩ := b1p hb h
 have h5 := b6o v
 have h6 := a4d h1
 refine ⟨by omega, by omega, h2, h3, h1, fun i hi => ?_⟩
 have key : ∀ (hik : i < k), b[i] = (putN v)[i]'(by omega) := by
  intro hik
  rw [← List.getElem_of_eq h3 (by rw [List.length_take]; omega), List.getElem_take]
 exact ⟨fun hk => by rw [key (by omega)]; exact (d1d v i (by omega)).1 (by omega), fun hk => by rw [key (by omega)]; exact (d1d v i (by omega)).2 (by omega)⟩
theorem a7p {n : Nat} {b : List Int} (hb : a3o b) (hl : b.length < 1000000) (hn : 13 ≤ n) :
  a2k n (b, ()) = some (match a4e b with | some (v, k) => ((v : Int), (k : Int), true, ()) | none => (0, 0, false, ()), ()) := by
 apply f5e
 unfold a2k
 dsimp only
 refine Gets.iter (I := fun s : Int => ∃ i : Nat, s = ((i + 1 : Nat) : Int) ∧ i ≤ 10 ∧ i ≤ b.length ∧ ∀ j (hj : j < b.length), j < i → 128 ≤ b[j]) (μ := fun s => 12 - s.toNat) ⟨0, rfl, by omega, by omega, by omega⟩ (by simp; omega) ?_
 rintro rec _ ⟨i, rfl, hi1, hi2, hall⟩ hrec
 have stop : (10 ≤ i ∨ b.length ≤ i) → a4e b = none := by
  intro h
  cases htk : a4e b with
  | none => rfl
  | some r =>
   obtain ⟨v, k⟩ := r
   obtain ⟨g1, g2, g3, _, _, g4⟩ := c8d hb htk
   have h1 := (g4 (k - 1) (by omega)).2 (by omega)
   have h2 := hall (k - 1) (by omega) (by omega)
   omega
 by_cases h10 : i < 10
 rotate_left
 ·rw [if_neg (by simp; omega), stop (by omega)]
  exact Gets.some rfl
 rw [if_pos (by simp; omega)]
 by_cases hlen : i < b.length
 rotate_left
 ·rw [if_neg (by simp; omega), stop (by omega)]
  exact Gets.some rfl
 have e0 : IntKind.i64.wrap (((i + 1 : Nat) : Int) - 1) = (i : Int) := by rw [show (((i + 1 : Nat) : Int) - 1) = (i : Int) by omega, a0x (by omega)]
 obtain ⟨c, hc1, hc2, hc3⟩ := hb.get (i := i) hlen
 rw [if_pos (by simp; omega), e0, a0g hlen, Int.toNat_natCast, hc1]
 by_cases hc : 128 ≤ c
 ·rw [if_pos (by simp; omega), a0f (by omega)]
  refine hrec _ ⟨i + 1, rfl, by omega, by omega, fun j hj hji => ?_⟩ (by simp; omega)
  rcases Nat.lt_or_ge j i with h | h
  ·exact hall j hj h
  ·obtain rfl : j = i := by omega
   omega
 rw [if_neg (by simp; omega)]
 have hHlt : c2r (b.take (i + 1)) % 18446744073709551616 < 18446744073709551616 := Nat.mod_lt _ (by omega)
 have fin : ∀ s4 : Int × Int, s4 = (((c2r (b.take (i + 1)) % 18446744073709551616 : Nat) : Int), (-1 : Int)) → Gets ((a1f n (s4.1, ())).bind fun y5 => (if 0 ≤ ((i + 1 : Nat) : Int) ∧ ((i + 1 : Nat) : Int) ≤ (b.length : Int) then (if (!decide (y5.1.1 = ((b.take ((i + 1 : Nat) : Int).toNat).drop (0:Int).toNat))) = true then (some (((0:Int), (0:Int), false, ()), ())) else (some ((s4.1, ((i + 1 : Nat) : Int), true, ()), ()))) else none)) (fun y => y = (match a4e b with | some (v, k) => ((v : Int), (k : Int), true, ()) | none => (0, 0, false, ()), ())) := by
  rintro _ rfl
  dsimp only
  rw [a8r hHlt (by omega)]
  simp only [Option.bind_some]
  rw [if_pos (by omega), Int.toNat_natCast]
  by_cases heq : putN (c2r (b.take (i + 1)) % 18446744073709551616) = b.take (i + 1)
  ·rw [if_neg (by simp [heq])]
   have e : a4e b = some (c2r (b.take (i + 1)) % 18446744073709551616, i + 1) := by
    have h1 := a5w (c2r (b.take (i + 1)) % 18446744073709551616) (b.drop (i + 1)) hHlt
    rw [heq, List.take_append_drop, List.length_take, Nat.min_eq_left (by omega)] at h1
    exact h1
   rw [e]
   exact Gets.some rfl
  ·rw [if_pos (by simpa using heq)]
   have e : a4e b = none := by
    cases htk : a4e b with
    | none => rfl
    | some r =>
     obtain ⟨v, k⟩ := r
     obtain ⟨g1, g2, g3, g5, g6, g4⟩ := c8d hb htk
     have hk : k = i + 1 := by
      rcases Nat.lt_trichotomy k (i + 1) with h | h | h
      ·have h1 := (g4 (k - 1) (by omega)).2 (by omega)
       have h2 := hall (k - 1) (by omega) (by omega)
       omega
      ·exact h
      ·have h1 := (g4 i (by omega)).1 h
       omega
     subst hk
     exact absurd (by rw [g5, e6p, Nat.mod_eq_of_lt g6]) heq
   rw [e]
   exact Gets.some rfl
 refine Gets.iter (I := fun s : Int × Int => ∃ j : Nat, j ≤ i + 1 ∧ s = (((c2r ((b.take (i + 1)).drop j) % 18446744073709551616 : Nat) : Int), (j : Int) - 1)) (μ := fun s => (s.2 + 1).toNat) ⟨i + 1, by omega, ?_⟩ (by simp; omega) ?_
 ·have : (b.take (i + 1)).drop (i + 1) = [] := by rw [List.drop_eq_nil_iff]; simp; omega
  rw [this]
  simp [c2r]
 ·rintro rec2 _ ⟨j, hj, rfl⟩ hrec2
  dsimp only
  cases j with
  | zero =>
   rw [if_neg (by simp)]
   exact fin (((c2r ((b.take (i + 1)).drop 0) % 18446744073709551616 : Nat) : Int), ((0 : Nat) : Int) - 1) (by simp)
  | succ j =>
   have hjl : j < (b.take (i + 1)).length := by simp; omega
   obtain ⟨d, hd1, hd2, hd3⟩ := hb.get (i := j) (by omega)
   have hcons : (b.take (i + 1)).drop j = (d : Int) :: (b.take (i + 1)).drop (j + 1) := by
    rw [List.drop_eq_getElem_cons hjl, List.getElem_take, hd3]
   have ej : (((j + 1 : Nat) : Int) - 1) = (j : Int) := by omega
   rw [ej, if_pos (by simp), a0g (by omega), Int.toNat_natCast, hd1]
   refine hrec2 _ ⟨j, by omega, ?_⟩ (by dsimp only; rw [a1e (x := (j : Int) - 1) (by omega) (by omega)]; omega)
   rw [hcons]
   simp only [c2r, Int.toNat_natCast]
   rw [a1e (x := (j : Int) - 1) (by omega) (by omega), show ((d : Int)).tmod (128:Int) = ((d % 128 : Nat) : Int) from a9o d 128]
   simp only [a2g]
   congr 1
   omega
theorem b4g {n v : Nat} (hv : v < 18446744073709551616) (hn : 64 < n) : a5c n ((v : Int), ()) = some ((((blen v : Nat) : Int), ()), ()) := by
 unfold a5c
 refine (a9r (I := fun k (s : Int × Int) => ∃ v m : Nat, s = ((v : Int), (m : Int)) ∧ v < 2 ^ k ∧ v < 18446744073709551616 ∧ m + k ≤ 1000)
  (res := fun s => some ((s.2 + ((blen s.1.toNat : Nat) : Int), ()), ())) ?_ n 64 _ ⟨v, 0, rfl, by omega, hv, by omega⟩ (by omega)).trans (by simp)
 rintro k _ rec ⟨v, m, rfl, h1, h2, h3⟩ hrec
 dsimp only
 by_cases h : v = 0
 ·subst h
  rw [if_neg (by simp)]
  simp [c6b]
 ·obtain ⟨k, rfl⟩ : ∃ k', k = k' + 1 := ⟨k - 1, by
   rcases Nat.eq_zero_or_pos k with h0 | h0
   ·subst h0; simp at h1; omega
   ·omega⟩
  rw [if_pos (by simp; omega), show ((v : Int)).tdiv (2:Int) = ((v / 2 : Nat) : Int) from a5x v 2, a2s (by omega), a0f (by omega)]
  rw [hrec k _ (by omega) ⟨v / 2, m + 1, rfl, by rw [Nat.pow_succ] at h1; omega, by omega, by omega⟩]
  simp only [Int.toNat_natCast]
  rw [c5s (v := v) (by omega)]
  congr 3
  omega
theorem c4n {n : Nat} {l : List Int} (hl : Nums l) (hn : l.length < n) (hn2 : 64 < n) (hc : l.length < 1000000) : a6c n (l, ()) = some ((((a3j l : Nat) : Int), ()), ()) := by
 unfold a6c
 dsimp only
 refine a0z (st := fun i => (((a3j (l.take i) : Nat) : Int), (i : Int))) l.length (by simp [a3j]) ?_ ?_ hn
 ·intro rec i hi
  have hx := hl _ (List.getElem_mem hi)
  dsimp only
  rw [if_pos (by simp; omega), a0g hi, Int.toNat_natCast, a0i hi]
  obtain ⟨v, hv⟩ : ∃ v : Nat, l[i] = (v : Int) := ⟨_, (Int.toNat_of_nonneg hx.1).symm⟩
  rw [hv, b4g (by omega) hn2]
  simp only [Option.bind_some]
  rw [a0f (by omega)]
  congr 2
  rw [List.take_succ_eq_append_getElem hi]
  unfold a3j
  rw [List.foldl_append]
  simp only [List.foldl_cons, List.foldl_nil, hv, Int.toNat_natCast]
  split <;> omega
 ·intro rec
  simp
theorem d4v {m : Nat} (h : m < 1000000000) : IntKind.i64.wrap ((IntKind.i64.wrap ((m : Int) + 7)).tdiv (8:Int)) = (((m + 7) / 8 : Nat) : Int) := by
 rw [show ((m : Int) + 7) = ((m + 7 : Nat) : Int) by omega, a0x (by omega), show ((8 : Int)) = ((8 : Nat) : Int) from rfl, a5x, a0x (by omega)]
theorem b1x {n : Nat} {l : List Int} {w : Nat} (hl : Nums l) (hn : l.length < n) (hnw : 64 < n) (hc : l.length < 100000) :
  a2u n (l, (w : Int), ()) = some (if w ≤ 64 ∧ a3j l ≤ w then (a7j l w, true, ()) else ([], false, ()), ()) := by
 unfold a2u
 dsimp only
 rw [if_neg (by simp)]
 by_cases hw : w ≤ 64
 rotate_left
 ·rw [if_pos (by simp; omega), if_neg (by omega)]
 rw [if_neg (by simp; omega), c4n hl hn hnw (by omega)]
 simp only [Option.bind_some]
 by_cases hwl : a3j l ≤ w
 rotate_left
 ·rw [if_pos (by simp; omega), if_neg (by omega)]
 rw [if_neg (by simp; omega), if_pos (c := w ≤ 64 ∧ a3j l ≤ w) ⟨hw, hwl⟩]
 have hmul : l.length * w ≤ l.length * 64 := Nat.mul_le_mul_left _ hw
 have hr := a1t
 rw [show ((l.length : Int) * (w : Int)) = ((l.length * w : Nat) : Int) by push_cast; rfl, a0x (x := l.length * w) (by omega), d4v (by omega)]
 rw [if_pos (by refine ⟨by omega, by omega, ?_⟩; omega)]
 have hb := b4m l w
 refine a0z (st := fun i => (a6o (bitL l w) ((l.length * w + 7) / 8) (i * w), (i : Int))) l.length (by rw [Nat.zero_mul, b7h, Int.toNat_natCast]; rfl) ?_ ?_ hn
 ·intro rec i hi
  have hiw : i * w + w ≤ l.length * w := by
   have := Nat.mul_le_mul_right w (show i + 1 ≤ l.length from hi)
   rwa [Nat.add_mul, Nat.one_mul] at this
  have hx := hl _ (List.getElem_mem hi)
  obtain ⟨v, hv⟩ : ∃ v : Nat, l[i] = (v : Int) := ⟨_, (Int.toNat_of_nonneg hx.1).symm⟩
  dsimp only
  rw [if_pos (by simp; omega), a0g hi, Int.toNat_natCast, a0i hi, hv]
  refine a0z (st := fun k => (a6o (bitL l w) ((l.length * w + 7) / 8) (i * w + k), ((v / 2 ^ k : Nat) : Int), (k : Int))) w (by simp) ?_ ?_ (by omega)
  ·intro rec2 k hk
   dsimp only
   rw [if_pos (by simp; omega)]
   have e1 : IntKind.i64.wrap ((IntKind.i64.wrap ((i : Int) * (w : Int))) + (k : Int)) = ((i * w + k : Nat) : Int) := by
    rw [show ((i : Int) * (w : Int)) = ((i * w : Nat) : Int) by push_cast; rfl, a0x (by omega), show (((i * w : Nat) : Int) + (k : Int)) = ((i * w + k : Nat) : Int) by omega, a0x (by omega)]
   have e2 : (((i * w + k : Nat) : Int)).tdiv (8 : Int) = (((i * w + k) / 8 : Nat) : Int) := by
    rw [show ((8 : Int)) = ((8 : Nat) : Int) from rfl, a5x]
   have e3 : (((i * w + k : Nat) : Int)).tmod (8 : Int) = (((i * w + k) % 8 : Nat) : Int) := by
    rw [show ((8 : Int)) = ((8 : Nat) : Int) from rfl, a9o]
   have hlt : (i * w + k) / 8 < (l.length * w + 7) / 8 := by omega
   rw [e1, e2, e3, a0x (x := (i * w + k) / 8) (by omega), a0g (by rw [a7x]; exact hlt), if_neg (by omega), a0g (by rw [a7x]; exact hlt)]
   simp only [Int.toNat_natCast]
   rw [a0f (by omega)]
   have hv2 : v / 2 ^ k ≤ v := Nat.div_le_self _ _
   have e4 : IntKind.u64.wrap (((v / 2 ^ k : Nat) : Int).tdiv (2:Int)) = ((v / 2 ^ (k + 1) : Nat) : Int) := by
    rw [show (((v / 2 ^ k : Nat) : Int)).tdiv (2:Int) = ((v / 2 ^ k / 2 : Nat) : Int) from a5x _ 2, a2s (by omega), Nat.div_div_eq_div_mul, Nat.pow_succ]
   rw [e4]
   congr 2
   rw [show i * w + (k + 1) = i * w + k + 1 by omega, ← b8h hlt]
   congr 1
   have hsm := b7t hb (i * w + k)
   have hp8 : 2 ^ ((i * w + k) % 8) ≤ 2 ^ 7 := Nat.pow_le_pow_right (by omega) (by omega)
   have hbit : bitL l w (i * w + k) = v / 2 ^ k % 2 := by
    unfold bitL
    rw [mul_add_div hk, mul_add_mod hk, a0i hi, hv, Int.toNat_natCast]
   have h3 : (((v / 2 ^ k : Nat) : Int)).tmod (2:Int) = ((v / 2 ^ k % 2 : Nat) : Int) := a9o _ 2
   have h4 := c9t (v / 2 ^ k % 2) ((i * w + k) % 8) 8 (by omega)
   rw [Int.toNat_natCast] at h4
   have h5 : v / 2 ^ k % 2 * 2 ^ ((i * w + k) % 8) ≤ 1 * 2 ^ ((i * w + k) % 8) := Nat.mul_le_mul_right _ (by omega)
   rw [b3q hlt, h3, b3n (x := v / 2 ^ k % 2) (by omega), show IntKind.u8.bits = 8 from rfl, h4, b3n (x := v / 2 ^ k % 2 * 2 ^ ((i * w + k) % 8)) (by omega), hbit]
   rw [show (((b1y (bitL l w) (i * w + k) ((i * w + k) / 8) : Nat) : Int) + ((v / 2 ^ k % 2 * 2 ^ ((i * w + k) % 8) : Nat) : Int)) = ((b1y (bitL l w) (i * w + k) ((i * w + k) / 8) + v / 2 ^ k % 2 * 2 ^ ((i * w + k) % 8) : Nat) : Int) by push_cast; rfl, b3n (by omega)]
  ·intro rec2
   dsimp only
   rw [if_neg (by simp), a0f (by omega), show i * w + w = (i + 1) * w by rw [Nat.add_mul, Nat.one_mul]]
 ·intro rec
  dsimp only
  rw [if_neg (by simp)]
  rfl
def b3e (b : List Int) (n w i j : Nat) : List Int := (List.range n).map fun k => if k < i then ((a5v (bitB b) (k * w) w : Nat) : Int) else if k = i then ((a5v (bitB b) (k * w + j) (w - j) : Nat) : Int) else 0
theorem b0q {n : Nat} {b : List Int} {m w : Int} (hb : a3o b) (hl : b.length < 1000000) (hn : 64001 < n) : a3e n (b, m, w, ()) = some (b4a b m w, ()) := by
 unfold a3e b4a
 dsimp only
 by_cases h1 : m < 0
 ·rw [if_pos (by simpa using h1), if_neg (by omega)]
 rw [if_neg (by simpa using h1)]
 by_cases h2 : 1000 < m
 ·rw [if_pos (by simpa using h2), if_neg (by omega)]
 rw [if_neg (by simpa using h2)]
 by_cases h3 : w < 0
 ·rw [if_pos (by simpa using h3), if_neg (by omega)]
 rw [if_neg (by simpa using h3)]
 by_cases h4 : 64 < w
 ·rw [if_pos (by simpa using h4), if_neg (by omega)]
 rw [if_neg (by simpa using h4)]
 obtain ⟨M, rfl⟩ : ∃ M : Nat, m = (M : Int) := ⟨_, (Int.toNat_of_nonneg (by omega)).symm⟩
 obtain ⟨W, rfl⟩ : ∃ W : Nat, w = (W : Int) := ⟨_, (Int.toNat_of_nonneg (by omega)).symm⟩
 simp only [Int.toNat_natCast]
 have hmul : M * W ≤ 1000 * 64 := Nat.mul_le_mul (by omega) (by omega)
 have hr := a1t
 rw [show ((M : Int) * (W : Int)) = ((M * W : Nat) : Int) by push_cast; rfl, a0x (x := M * W) (by omega), d4v (by omega)]
 by_cases h5 : b.length = (M * W + 7) / 8
 rotate_left
 ·rw [if_pos (by simp; omega), if_neg (by omega)]
 rw [if_neg (by simp; omega), if_pos (c := 0 ≤ (M : Int) ∧ (M : Int) ≤ (M : Int) ∧ (M : Int) * 8 ≤ (room : Int)) (by omega)]
 refine a0z (st := fun i => (b3e b M W i W, (i : Int))) M ?_ ?_ ?_ (by omega)
 ·have : b3e b M W 0 W = List.replicate M 0 := by
   apply List.ext_getElem
   ·simp [b3e]
   ·intro i q1 q2
    simp [b3e, a5v]
  rw [this]; rfl
 ·intro rec i hi
  have hiw : i * W + W ≤ M * W := by
   have := Nat.mul_le_mul_right W (show i + 1 ≤ M from hi)
   rwa [Nat.add_mul, Nat.one_mul] at this
  have hnlen : ∀ i j, (b3e b M W i j).length = M := by intro i j; simp [b3e]
  dsimp only
  rw [if_pos (by simp; omega)]
  refine a0z (st := fun t => (b3e b M W i (W - t), ((W - t : Nat) : Int) - 1)) W ?_ ?_ ?_ (by omega)
  ·rw [Nat.sub_zero, a1e (by omega) (by omega)]
  ·intro rec2 t ht
   obtain ⟨j, hj⟩ : ∃ j, W - t = j + 1 := ⟨W - t - 1, by omega⟩
   have hj2 : W - (t + 1) = j := by omega
   dsimp only
   rw [hj, hj2, show (((j + 1 : Nat) : Int) - 1) = (j : Int) by omega, if_pos (by simp)]
   have e1 : IntKind.i64.wrap ((IntKind.i64.wrap ((i : Int) * (W : Int))) + (j : Int)) = ((i * W + j : Nat) : Int) := by
    rw [show ((i : Int) * (W : Int)) = ((i * W : Nat) : Int) by push_cast; rfl, a0x (by omega), show (((i * W : Nat) : Int) + (j : Int)) = ((i * W + j : Nat) : Int) by omega, a0x (by omega)]
   have e4 : (((i * W + j : Nat) : Int)).tdiv (8 : Int) = (((i * W + j) / 8 : Nat) : Int) := a5x _ 8
   have e5 : (((i * W + j : Nat) : Int)).tmod (8 : Int) = (((i * W + j) % 8 : Nat) : Int) := a9o _ 8
   rw [e1, e4, e5, a0x (x := (i * W + j) / 8) (by omega), a0g (by rw [hnlen]; exact hi), a0g (by omega), if_neg (by omega), a0g (by rw [hnlen]; exact hi)]
   simp only [Int.toNat_natCast]
   rw [a1e (x := (j : Int) - 1) (by omega) (by omega)]
   congr 2
   obtain ⟨c, hc1, hc2, hc3⟩ := hb.get (i := (i * W + j) / 8) (by omega)
   have hbit : bitB b (i * W + j) = c / 2 ^ ((i * W + j) % 8) % 2 := by
    unfold bitB
    rw [hc1, Int.toNat_natCast]
   have h6 := e5e c ((i * W + j) % 8) (by omega)
   rw [Int.toNat_natCast] at h6
   have h7 : (((c / 2 ^ ((i * W + j) % 8) : Nat) : Int)).tmod (2:Int) = ((c / 2 ^ ((i * W + j) % 8) % 2 : Nat) : Int) := a9o _ 2
   have hget : (b3e b M W i (j + 1)).getD i 0 = ((a5v (bitB b) (i * W + (j + 1)) (W - (j + 1)) : Nat) : Int) := by
    rw [a0i (by rw [hnlen]; exact hi)]
    simp [b3e]
   have hlt := b6a (c2q b) (i * W + (j + 1)) (W - (j + 1))
   have hp : 2 ^ (W - (j + 1)) ≤ 2 ^ 63 := Nat.pow_le_pow_right (by omega) (by omega)
   rw [hget, hc1, h6, h7, ← hbit, a2s (x := bitB b (i * W + j)) (by have := c2q b (i * W + j); omega), show ((2:Int) * ((a5v (bitB b) (i * W + (j + 1)) (W - (j + 1)) : Nat) : Int)) = ((2 * a5v (bitB b) (i * W + (j + 1)) (W - (j + 1)) : Nat) : Int) by push_cast; rfl, a2s (by omega)]
   have hlow := c1f (bitB b) (i * W + j) (W - (j + 1))
   rw [show W - (j + 1) + 1 = W - j by omega] at hlow
   have hble := c2q b (i * W + j)
   rw [show (((2 * a5v (bitB b) (i * W + (j + 1)) (W - (j + 1)) : Nat) : Int) + ((bitB b (i * W + j) : Nat) : Int)) = ((a5v (bitB b) (i * W + j) (W - j) : Nat) : Int) by rw [hlow, show i * W + (j + 1) = i * W + j + 1 by omega]; push_cast; omega, a2s (by rw [hlow, show i * W + j + 1 = i * W + (j + 1) by omega]; omega)]
   apply List.ext_getElem
   ·simp [b3e]
   ·intro k q1 q2
    rw [List.getElem_set]
    simp only [b3e, List.getElem_map, List.getElem_range]
    by_cases hk : i = k
    ·subst hk
     rw [if_pos rfl, if_neg (by omega), if_pos rfl]
    ·rw [if_neg hk]
     by_cases hk2 : k < i
     ·rw [if_pos hk2, if_pos hk2]
     ·rw [if_neg hk2, if_neg hk2, if_neg (by omega), if_neg (by omega)]
  ·intro rec2
   dsimp only
   rw [if_neg (by simp), a0f (by omega)]
   congr 2
   apply List.ext_getElem
   ·simp [b3e]
   ·intro k q1 q2
    simp only [b3e, List.getElem_map, List.getElem_range, Nat.sub_self]
    by_cases hk : k < i
    ·rw [if_pos hk, if_pos (by omega)]
    ·rw [if_neg hk]
     by_cases hk2 : k = i
     ·subst hk2
      rw [if_pos rfl, if_pos (by omega)]
      simp
     ·rw [if_neg hk2, if_neg (by omega)]
      by_cases hk3 : k = i + 1
      ·rw [if_pos hk3]; simp [a5v]
      ·rw [if_neg hk3]
 ·intro rec
  dsimp only
  have hall : b3e b M W M W = b0y b M W := by
   unfold b3e b0y
   apply List.map_congr_left
   intro i hi
   have hi' : i < M := by simpa using hi
   rw [if_pos hi']
  rw [if_neg (by simp), hall, b1x (b2z (by omega)) (by rw [b0o]; omega) (by omega) (by rw [b0o]; omega), if_pos ⟨by omega, c9n⟩]
  simp only [Option.bind_some]
  by_cases h6 : a7j (b0y b M W) W = b
  ·rw [if_neg (by simp [h6]), if_pos ⟨by omega, by omega, by omega, by omega, h5, h6⟩]
  ·rw [if_pos (by simp [h6]), if_neg (fun h => h6 h.2.2.2.2.2)]
end Go.Rb.R4

namespace Go.Rb.R4
open Go.Rb
theorem c9s (n : Nat) (t : Int) (v : Vl) : a8p n (t, v, ()) = some ((mayV v && (isT t && (decide (v.1 = 0) || decide (v.1 = t))), ()), ()) := by
 unfold a8p
 dsimp only
 rw [d0s, b0v]
 simp only [Option.bind_some]
 cases mayV v <;> cases isT t <;> by_cases h : v.1 = 0 <;> simp [h]
theorem d6q {n : Nat} {t : Int} {l : List Vl} (hn : l.length < n) (hc : l.length < 1000000) : a9y n (t, l, ()) = some ((a1k t l, ()), ()) := by
 unfold a9y
 dsimp only
 rw [b7v l (fun v => isT t && a0r t v) (some ((false, ()), ())) (some ((isT t, ()), ())) hn]
 ·unfold a1k
  cases h : isT t with
  | true =>
   have h1 : (decide (1 ≤ t) && decide (t ≤ 4)) = true := h
   rw [h1]
   simp only [Bool.true_and]
   cases hh : l.all (a0r t) with
   | true => rw [if_pos (by simp)]
   | false => rw [if_neg (by simp)]
  | false =>
   have h1 : (decide (1 ≤ t) && decide (t ≤ 4)) = false := h
   rw [h1]
   simp
 ·intro rec i hi
  rw [if_pos (by simp; omega), a0g hi, Int.toNat_natCast, a0i hi, c9s, a0f (by omega)]
  simp only [Option.bind_some]
  rw [a0g hi]
  unfold a0r
  cases mayV l[i] <;> cases isT t <;> by_cases h3 : l[i].1 = t <;> by_cases h4 : l[i].1 = 0 <;> simp [h3, h4] <;> intro h5 <;> omega
 ·intro rec
  rw [if_neg (by simp), b0v]
  rfl
theorem c2p {n : Nat} {t : Int} {v : Vl} (h : a0r t v = true) (hv : okV v) (hn : 10 ≤ n) : a9f n (v, ()) = some ((oneV v, ()), ()) := by
 obtain ⟨h1, h2⟩ := a2n h
 have hr := a1t
 unfold a9f oneV
 dsimp only
 by_cases h3 : v.1 = 3
 ·rw [if_pos (by simpa using h3), if_pos h3]
  rw [b3d (by rcases h2 with h2 | h2 | h2 | h2 | h2 <;> omega) (by rcases h2 with h2 | h2 | h2 | h2 | h2 <;> omega)]
 ·rw [if_neg (by simpa using h3), if_neg h3]
  by_cases h4 : v.1 = 4
  ·have hl : v.2.2.1.length ≤ 20 := by omega
   rw [if_pos (by simpa using h4), if_pos (by simp; omega), if_pos h4, b3d (by omega) (by omega)]
   rfl
  ·rw [if_neg (by simpa using h4), if_neg h4, c3x hv.2.1.1 hv.2.1.2]
   simp only [Option.bind_some]
   rw [a8r (b4e hv.2.1.1 hv.2.1.2) hn]
   simp only [Option.bind_some]
theorem b9y {n : Nat} {t : Int} {x y : Vl} (ht : t ≠ 0) (hx : a0r t x = true) (hy : a0r t y = true) : ∃ c, a6f n (x, y, ()) = some ((c, ()), ()) ∧ (c < 0 ↔ ltV t x y = true) ∧ (c = 0 ↔ x = y) := by
 have a := (a2n hx).1
 have b := (a2n hy).1
 have hl := a7r t
 unfold a6f b0d
 dsimp only
 rw [a, b]
 have e : ∀ z : Int, decide (z < z) = false := fun z => by simp
 by_cases h4 : t = 4
 ·subst h4
  have l1 : ltV 4 x y = a1q x.2.2.1 y.2.2.1 := by simp [ltV]
  have l2 : ltV 4 y x = a1q y.2.2.1 x.2.2.1 := by simp [ltV]
  have hne : x = y ↔ (a1q x.2.2.1 y.2.2.1 = false ∧ a1q y.2.2.1 x.2.2.1 = false) := by
   rw [← l1, ← l2]
   constructor
   ·rintro rfl; exact ⟨hl.irrefl _ hx, hl.irrefl _ hx⟩
   ·rintro ⟨h1, h2⟩
    rcases hl.total x y hx hy with h | h | h
    ·rw [h1] at h; cases h
    ·exact h
    ·rw [h2] at h; cases h
  have has : a1q x.2.2.1 y.2.2.1 = true → a1q y.2.2.1 x.2.2.1 = false := by
   rw [← l1, ← l2]; exact hl.asymm hx hy
  rw [l1]
  cases h1 : a1q x.2.2.1 y.2.2.1 with
  | true =>
   have h2 := has h1
   refine ⟨-1, by simp [h1, h2], by simp, ?_⟩
   rw [hne, h1]; simp
  | false =>
   cases h2 : a1q y.2.2.1 x.2.2.1 with
   | true =>
    refine ⟨1, by simp [h1, h2], by simp, ?_⟩
    rw [hne, h1, h2]; simp
   | false =>
    refine ⟨0, by simp [h1, h2], by simp, ?_⟩
    rw [hne, h1, h2]; simp
 ·have l1 : ltV t x y = decide (x.2.1 < y.2.1) := by simp [ltV, h4]
  have l2 : ltV t y x = decide (y.2.1 < x.2.1) := by simp [ltV, h4]
  have hne : x = y ↔ x.2.1 = y.2.1 := by
   constructor
   ·rintro rfl; rfl
   ·intro h; exact c2c hx hy (by rw [if_neg h4]; exact h)
  rw [l1]
  rcases Int.lt_trichotomy x.2.1 y.2.1 with h | h | h
  ·have h2 : ¬ y.2.1 < x.2.1 := by omega
   refine ⟨-1, by simp [ht, h4, h], by simp [h], ?_⟩
   rw [hne]; simp; omega
  ·have h2 : ¬ y.2.1 < x.2.1 := by omega
   have h3 : ¬ x.2.1 < y.2.1 := by omega
   refine ⟨0, by simp [ht, h4, h2, h3], by simp [h3], ?_⟩
   rw [hne]; simp [h]
  ·have h2 : ¬ x.2.1 < y.2.1 := by omega
   refine ⟨1, by simp [ht, h4, h, h2], by simp [h2], ?_⟩
   rw [hne]; simp; omega
theorem e6h {α : Type} [DecidableEq α] {lt : α → α → Bool} {S : α → Prop} (h : LinO lt S) {v : α} (hv : S v) : ∀ (k : Nat) (d : List α), (∀ x, x ∈ d → S x) → (∀ j (hj : j < d.length), j < k → lt d[j] v = true) → k ≤ d.length →
  (∀ hk : k < d.length, lt d[k] v = false) → insS lt v d = if d[k]? = some v then d else d.take k ++ v :: d.drop k
 | 0, [], _, _, _, _ => by simp [insS]
 | k + 1, [], _, _, hk, _ => by simp at hk
 | 0, x :: d, hS, _, _, hn => by
  have h1 : lt x v = false := hn (by simp)
  have hx := hS x (by simp)
  unfold insS
  rw [if_neg (by rw [h1]; simp)]
  rcases h.total x v hx hv with h2 | h2 | h2
  ·rw [h1] at h2; cases h2
  ·subst h2
   rw [h1, if_neg (by simp)]
   simp
  ·rw [if_pos h2]
   have : x ≠ v := by rintro rfl; rw [h.irrefl x hx] at h2; cases h2
   simp [this]
 | k + 1, x :: d, hS, hlt, hk, hn => by
  have h1 : lt x v = true := hlt 0 (by simp) (by omega)
  have hd := fun y hy => hS y (List.mem_cons_of_mem _ hy)
  unfold insS
  rw [if_pos h1, e6h h hv k d hd (fun j hj hjk => by have := hlt (j + 1) (by simpa using hj) (by omega); simpa using this) (by simpa using hk) (fun hk' => by have := hn (by simpa using hk'); simpa using this)]
  simp only [List.getElem?_cons_succ]
  split <;> simp
theorem d2k {n : Nat} {t : Int} {l : List Vl} (ht : t ≠ 0) (hr : ∀ v, v ∈ l → a0r t v = true) (hl : l.length < 100000) (hn : l.length + 1 < n) :
  a8t n (l, ()) = some ((a9c t l, ()), ()) := by
 have hro := a1t
 have hS : ∀ i, ∀ x, x ∈ a9c t (l.take i) → a0r t x = true := fun i x hx => hr x (List.mem_of_mem_take ((b2o (a7r t) (fun y hy => hr y (List.mem_of_mem_take hy)) x).1 hx))
 unfold a8t
 dsimp only
 refine a0z (st := fun i => (a9c t (l.take i), (i : Int))) l.length (by simp [a9c, d3h]) ?_ ?_ (by omega)
 ·intro rec i hi
  have hv := hr _ (List.getElem_mem hi)
  have hstep : a9c t (l.take (i + 1)) = insS (ltV t) l[i] (a9c t (l.take i)) := by
   rw [List.take_succ_eq_append_getElem hi]
   unfold a9c d3h
   rw [List.foldl_append]
   rfl
  have hdl : (a9c t (l.take i)).length ≤ (l.take i).length := b8w (ltV t) (l.take i)
  rw [List.length_take] at hdl
  dsimp only
  rw [if_pos (by simp; omega), hstep]
  obtain ⟨d, hd⟩ : ∃ d, a9c t (l.take i) = d := ⟨_, rfl⟩
  have hSd := hS i
  rw [hd] at hSd hdl ⊢
  have hdl2 : d.length ≤ i := by omega
  refine a9u (I := fun s q => ∃ k : Nat, s = (k : Int) ∧ k ≤ d.length ∧ (∀ j (hj : j < d.length), j < k → ltV t d[j] l[i] = true) ∧ (∀ hk : k < d.length, ltV t d[k] l[i] = false) ∧ q = rec (insS (ltV t) l[i] d, ((i + 1 : Nat) : Int))) ?_ ?_
  ·rintro _ _ ⟨k, rfl, hk, h1, h2, rfl⟩
   rw [e6h (a7r t) hv k d hSd h1 hk h2]
   have ins : (if 0 ≤ (k : Int) ∧ (k : Int) ≤ (d.length : Int) then (if (([] : List Vl).length + ((d.take (k : Int).toNat).drop (0:Int).toNat).length) * 32 ≤ room then (atI (i : Int) l.length (if ((([] : List Vl) ++ ((d.take (k : Int).toNat).drop (0:Int).toNat)).length + ([(l.getD (i : Int).toNat ((0:Int), (0:Int), [], ()))] : List Vl).length) * 32 ≤ room then (if 0 ≤ (k : Int) ∧ (k : Int) ≤ (d.length : Int) then (if (((([] : List Vl) ++ ((d.take (k : Int).toNat).drop (0:Int).toNat)) ++ ([(l.getD (i : Int).toNat ((0:Int), (0:Int), [], ()))] : List Vl)).length + ((d.take (d.length : Int).toNat).drop (k : Int).toNat).length) * 32 ≤ room then (rec ((((([] : List Vl) ++ ((d.take (k : Int).toNat).drop (0:Int).toNat)) ++ ([(l.getD (i : Int).toNat ((0:Int), (0:Int), [], ()))] : List Vl)) ++ ((d.take (d.length : Int).toNat).drop (k : Int).toNat)), (IntKind.i64.wrap ((i : Int) + 1)))) else none) else none) else none)) else none) else none) = rec (d.take k ++ l[i] :: d.drop k, ((i + 1 : Nat) : Int)) := by
    simp only [Int.toNat_natCast]
    rw [if_pos ⟨by omega, by omega⟩, if_pos (by simp; omega), a0g hi, a0i hi, if_pos (by simp; omega), if_pos ⟨by omega, by omega⟩, if_pos (by simp; omega), a0f (by omega)]
    simp
   by_cases hke : k = d.length
   ·subst hke
    rw [if_pos (by simp), ins, if_neg (by simp)]
   ·have hk' : k < d.length := by omega
    obtain ⟨c, hc, _, hc0⟩ := b9y (n := n) ht (hSd _ (List.getElem_mem hk')) hv
    rw [if_neg (by simp; omega), a0g hk', a0g hi, Int.toNat_natCast, Int.toNat_natCast, a0i hk', a0i hi, hc]
    simp only [Option.bind_some]
    by_cases hc1 : c = 0
    ·rw [if_neg (by simp [hc1]), if_pos (by rw [List.getElem?_eq_getElem hk', hc0.1 hc1]), a0f (by omega)]
    ·rw [if_pos (by simp [hc1]), if_neg (c := d[k]? = some l[i]) (by rw [List.getElem?_eq_getElem hk']; intro h; exact hc1 (hc0.2 (Option.some.inj h)))]
     simp only [Int.toNat_natCast, a0i hi] at ins ⊢
     exact ins
  ·intro J hJ
   refine (a9r (I := fun m (s : Int) => ∃ k : Nat, s = (k : Int) ∧ k ≤ d.length ∧ d.length - k ≤ m ∧ ∀ j (hj : j < d.length), j < k → ltV t d[j] l[i] = true)
    (res := fun _ => rec (insS (ltV t) l[i] d, ((i + 1 : Nat) : Int))) ?_ n d.length _ ⟨0, rfl, by omega, by omega, by omega⟩ (by omega))
   rintro m _ rec2 ⟨k, rfl, hk, hm, h1⟩ hrec2
   by_cases hk' : k < d.length
   ·obtain ⟨c, hc, hcl, _⟩ := b9y (n := n) ht (hSd _ (List.getElem_mem hk')) hv
    rw [if_pos (by simp; omega), a0g hk', a0g hi, Int.toNat_natCast, Int.toNat_natCast, a0i hk', a0i hi, hc]
    simp only [Option.bind_some]
    by_cases hc0 : c < 0
    ·rw [if_pos (by simpa using hc0), a0f (by omega)]
     refine hrec2 (d.length - (k + 1)) _ (by omega) ⟨k + 1, rfl, by omega, by omega, fun j hj hjk => ?_⟩
     rcases Nat.lt_or_ge j k with h | h
     ·exact h1 j hj h
     ·obtain rfl : j = k := by omega
      exact hcl.1 hc0
    ·rw [if_neg (by simpa using hc0)]
     refine hJ _ _ ⟨k, rfl, hk, h1, fun _ => ?_, rfl⟩
     cases hb : ltV t d[k] l[i] with
     | false => rfl
     | true => exact absurd (hcl.2 hb) hc0
   ·rw [if_neg (by simp; omega)]
    exact hJ _ _ ⟨k, rfl, hk, h1, fun h => absurd h hk', rfl⟩
 ·intro rec
  dsimp only
  rw [if_neg (by simp), List.take_length]
end Go.Rb.R4

namespace Go.Rb.R4
open Go.Rb
theorem f4m (x y : Vl) : ((decide (x.1 = y.1)) && ((decide (x.2.1 = y.2.1)) && (decide (x.2.2.1 = y.2.2.1)))) = decide (x = y) := by
 obtain ⟨a, b, c, u⟩ := x
 obtain ⟨a', b', c', u'⟩ := y
 by_cases h1 : a = a' <;> by_cases h2 : b = b' <;> by_cases h3 : c = c' <;> simp [h1, h2, h3]
theorem c3g {m : Nat} (hm : m < 1000000) : IntKind.u64.wrap (IntKind.i64.wrap ((if (1:Int) ≤ (m : Int) then (m : Int) else (1:Int)) - 1)) = ((m - 1 : Nat) : Int) := by
 have e : (if (1:Int) ≤ (m : Int) then (m : Int) else (1:Int)) - (1:Int) = ((m - 1 : Nat) : Int) := by split <;> omega
 rw [e, a0x (by omega), a2s (by omega)]
theorem e0e {n : Nat} {t : Int} {l : List Vl} (hv : ∀ v, v ∈ l → okV v) (hr : a1k t l = true) (hl : l.length ≤ 1000) (hn : 2000 ≤ n) :
  b1f n (l, ()) = some ((b5d t l, ()), ()) := by
 have hro := a1t
 obtain ⟨ht1, ht4, hrr⟩ := a2x hr
 have hR := b2w hr hv
 have hmem := fun v => b2o (a7r t) hrr v
 have hris := c0s (a7r t) hrr
 have hsm := b0i hr
 have hdl : (a9c t l).length ≤ l.length := b8w (ltV t) l
 unfold b1f b5d
 dsimp only
 rw [d2k (by omega) hrr (by omega) (by omega)]
 simp only [Option.bind_some]
 have hplen := a2h (t := t) l
 have hpl : ∀ i (hi : i < l.length), (a2d t l)[i]'(by rw [hplen]; exact hi) = ((posS (a9c t l) l[i] : Nat) : Int) := by
  intro i hi
  simp [a2d]
 obtain ⟨pl, hpd⟩ : ∃ pl, a2d t l = pl := ⟨_, rfl⟩
 simp only [hpd] at hsm hpl hplen ⊢
 obtain ⟨D, hD⟩ : ∃ D, a9c t l = D := ⟨_, rfl⟩
 have hris' : b0t (ltV t) D := by rw [← hD]; exact hris
 have hmem' : ∀ v, v ∈ D ↔ v ∈ l := by rw [← hD]; exact hmem
 rw [hD] at hR hsm hdl ⊢
 simp only [hD] at hpl
 have hb10 : blen (D.length - 1) ≤ 10 := b5b (by omega)
 have hfl := a1v hR
 have hput := a4d (v := D.length) (by omega)
 rw [a2s (by omega), a8r (by omega) (by omega)]
 simp only [Option.bind_some]
 refine a0z (st := fun i => (putN D.length ++ (D.take i).flatMap oneV, (i : Int))) D.length (by simp) ?_ ?_ (by omega)
 ·intro rec i hi
  have hRi := hR _ (List.getElem_mem hi)
  have h1 := b9c hRi.1 hRi.2
  have h2 : ((D.take i).flatMap oneV).length ≤ 21 * i := by
   have := a1v (d := D.take i) fun v hv => hR v (List.mem_of_mem_take hv)
   rw [List.length_take, Nat.min_eq_left (by omega)] at this
   exact this
  dsimp only
  rw [if_pos (by simp; omega), a0g hi, Int.toNat_natCast, a0i hi, c2p hRi.1 hRi.2 (by omega)]
  simp only [Option.bind_some]
  rw [if_pos (by simp only [List.length_append]; omega), a0f (by omega), b4c _ hi, List.append_assoc]
 ·intro rec
  dsimp only
  rw [if_neg (by simp), List.take_length]
  refine a0z (st := fun i => (pl.take i, (i : Int))) l.length (by simp) ?_ ?_ (by omega)
  ·intro rec2 i hi
   have hpi : i < pl.length := by omega
   have hin : l[i] ∈ D := (hmem' _).2 (List.getElem_mem hi)
   have hp := b7g hin
   dsimp only
   rw [if_pos (by simp; omega)]
   refine a0z (st := fun k => (pl.take i ++ (if posS D l[i] < k then [((posS D l[i] : Nat) : Int)] else []), (k : Int))) D.length (by simp) ?_ ?_ (by omega)
   ·intro rec3 k hk
    have hiff := f0f (a7r t) (fun x hx => (hR x hx).1) hris' hin hk
    dsimp only
    rw [if_pos (by simp; omega), a0g hk, a0g hi, Int.toNat_natCast, Int.toNat_natCast, a0i hk, a0i hi, f4m]
    by_cases he : k = posS D l[i]
    ·rw [if_pos (by simpa using hiff.2 he), if_neg (c := posS D l[i] < k) (by omega), if_pos (by simp; omega), a2s (by omega), a0f (by omega), if_pos (c := posS D l[i] < k + 1) (by omega)]
     simp [he]
    ·rw [if_neg (by simpa using fun h => he (hiff.1 h)), a0f (by omega)]
     congr 2
     congr 1
     by_cases h : posS D l[i] < k
     ·rw [if_pos h, if_pos (by omega)]
     ·rw [if_neg h, if_neg (by omega)]
   ·intro rec3
    dsimp only
    rw [if_neg (by simp), if_pos hp, a0f (by omega), List.take_succ_eq_append_getElem hpi, hpl i hi]
  ·intro rec2
   dsimp only
   have hnum : Nums pl := fun x hx => by
    have h1 := hsm x hx
    have h2 : 2 ^ blen (D.length - 1) ≤ 2 ^ 10 := Nat.pow_le_pow_right (by omega) hb10
    omega
   have htake : pl.take l.length = pl := by rw [← hplen, List.take_length]
   rw [if_neg (by simp), c3g (by omega), b4g (by omega) (by omega)]
   simp only [Option.bind_some]
   rw [htake, b1x hnum (by omega) (by omega) (by omega), if_pos ⟨by omega, b5f.2 fun x hx => (hsm x hx).2⟩]
   simp only [Option.bind_some]
   have hmul : l.length * blen (D.length - 1) ≤ 1000 * 10 := Nat.mul_le_mul hl hb10
   rw [if_pos (by simp only [List.length_append, a4g, hplen]; omega), List.append_assoc]
def OneP (t : Int) (b : List Int) (y : (Vl × Int × Bool × Unit) × Unit) : Prop :=
 match a3s t b with
 | some (v, k) => y = ((v, (k : Int), mayV v, ()), ())
 | none => ∃ v k, y = ((v, k, false, ()), ())
theorem a9n {n : Nat} {t : Int} {b : List Int} (ht : 1 ≤ t ∧ t ≤ 4) (hb : a3o b) (hl : b.length < 1000000) (hn : 13 ≤ n) : Gets (a4b n (t, b, ())) (OneP t b) := by
 have hT : isT t = true := c8e.2 ht
 unfold a4b
 dsimp only
 cases b with
 | nil =>
  rw [if_pos (by simp)]
  refine Gets.some ?_
  unfold OneP a3s
  split
  ·rename_i h
   split at h
   ·exact absurd h (by simp [a4e])
   ·exact absurd h (by simp)
  ·exact ⟨_, _, rfl⟩
 | cons c r =>
  have hc := hb c (by simp)
  have e0 : (c :: r).getD ((0:Int)).toNat (0:Int) = c := rfl
  have fin : ∀ (v : Vl) (k : Int), Gets ((a6m n (v, ())).bind fun y1 => (if y1.1.1 = true then ((a1m n (t, ())).bind fun y2 => (some ((v, k, y2.1.1, ()), ()))) else (some ((v, k, false, ()), ())))) (fun y => y = ((v, k, mayV v, ()), ())) := by
   intro v k
   rw [d0s, b0v]
   simp only [Option.bind_some]
   rw [hT]
   cases mayV v with
   | true => exact Gets.some rfl
   | false => exact Gets.some rfl
  rw [if_neg (by simp; omega)]
  by_cases h3 : t = 3
  ·rw [if_pos (by simpa using h3)]
   refine Gets.atI (by omega) (by simp) ?_
   rw [e0, a1e (x := c) (by omega) (by omega)]
   refine (fin _ _).mono fun y hy => ?_
   unfold OneP a3s
   rw [if_neg (by omega)]
   dsimp only
   rw [if_pos h3]
   exact hy
  ·rw [if_neg (by simpa using h3)]
   by_cases h4 : t = 4
   ·rw [if_pos (by simpa using h4)]
    refine Gets.atI (by omega) (by simp) ?_
    rw [e0, a1e (x := c) (by omega) (by omega), a1e (x := 1 + c) (by omega) (by omega)]
    have e1 : (1 + c).toNat = 1 + c.toNat := by omega
    by_cases h : 1 + c.toNat ≤ (c :: r).length
    ·rw [if_neg (by simp at h ⊢; omega), if_pos (by simp at h ⊢; omega)]
     refine (fin _ _).mono fun y hy => ?_
     unfold OneP a3s
     rw [if_neg (by omega)]
     dsimp only
     rw [if_neg h3, if_pos h, ← e1]
     dsimp only
     rw [hy, show (1 + c) = (((1 + c).toNat : Nat) : Int) by omega]
     rfl
    ·rw [if_pos (by simp at h ⊢; omega)]
     refine Gets.some ?_
     unfold OneP a3s
     rw [if_neg (by omega)]
     dsimp only
     rw [if_neg h3, if_neg h]
     exact ⟨_, _, rfl⟩
   ·rw [if_neg (by simpa using h4), a7p hb hl hn]
    simp only [Option.bind_some]
    have hfv : a3s t (c :: r) = (match a4e (c :: r) with | some (u, k) => some ((t, zag u, [], ()), k) | none => none) := by
     unfold a3s
     rw [if_pos ⟨h3, h4⟩]
     rfl
    unfold OneP
    rw [hfv]
    cases htk : a4e (c :: r) with
    | none =>
     dsimp only
     rw [if_pos (by simp)]
     exact Gets.some ⟨_, _, rfl⟩
    | some q =>
     obtain ⟨u, k⟩ := q
     dsimp only
     rw [if_neg (by simp), c3t (a2y hb htk).1]
     simp only [Option.bind_some]
     exact fin _ _
def RefP (t m : Int) (b : List Int) (y : (List Vl × Bool × Unit) × Unit) : Prop := (∃ l, y = ((l, true, ()), ()) ∧ (∀ v, v ∈ l → okV v) ∧ l.length ≤ 1000) ∨ y = (([], false, ()), ())
theorem c3r {n : Nat} {t m : Int} {b : List Int} (ht : 1 ≤ t ∧ t ≤ 4) (hm : 0 ≤ m ∧ m ≤ 1000) (hb : a3o b) (hl : b.length < 1000000) (hn : 70000 ≤ n) :
  Gets (a4j n (t, m, b, ())) (RefP t m b) := by
 have hro := a1t
 have bad : Gets (some ((([] : List Vl), false, ()), ())) (RefP t m b) := Gets.some (.inr rfl)
 unfold a4j
 dsimp only
 rw [a7p hb hl (by omega)]
 simp only [Option.bind_some]
 obtain ⟨M, rfl⟩ : ∃ M : Nat, m = (M : Int) := ⟨_, (Int.toNat_of_nonneg (by omega)).symm⟩
 cases htk : a4e b with
 | none =>
  dsimp only
  rw [if_pos (by simp)]; exact bad
 | some r =>
  obtain ⟨u, k⟩ := r
  have hT := a2y hb htk
  dsimp only
  rw [if_neg (by simp), a2s (by omega)]
  by_cases h3 : M < u
  ·rw [if_pos (by simp; omega)]; exact bad
  rw [if_neg (by simp; omega), if_pos (by omega)]
  refine Gets.iter (I := fun s : List Int × List Vl × Int => ∃ (rest : List Int) (all : List Vl), s = (rest, all, (all.length : Int)) ∧ a3o rest ∧ rest.length < 1000000 ∧ all.length ≤ u ∧ ∀ v, v ∈ all → okV v)
   (μ := fun s => u - s.2.1.length) ⟨_, [], rfl, ?_, ?_, by simp, by simp⟩ (by simp; omega) ?_
  ·simp only [Int.toNat_natCast, List.take_length]; exact hb.drop _
  ·simp only [Int.toNat_natCast, List.take_length, List.length_drop]; omega
  rintro rec _ ⟨rest, all, rfl, g1, g2, g3, g4⟩ hrec
  dsimp only
  by_cases h4 : all.length < u
  ·rw [if_pos (by simp; omega)]
   refine Gets.bind (a9n (n := n) ht g1 g2 (by omega)) fun y hy => ?_
   unfold OneP at hy
   cases hf : a3s t rest with
   | none =>
    rw [hf] at hy
    obtain ⟨v, k, rfl⟩ := hy
    dsimp only
    rw [if_pos (by simp)]; exact bad
   | some r =>
    obtain ⟨v, k'⟩ := r
    rw [hf] at hy
    subst hy
    obtain ⟨q1, q2, q3, q4⟩ := b5c (by omega) g1 hf
    dsimp only
    cases hmay : mayV v with
    | false => rw [if_pos (by simp)]; exact bad
    | true =>
     rw [if_neg (by simp), if_pos (by simp; omega), if_pos (by omega)]
     refine hrec _ ⟨List.drop ((k' : Nat) : Int).toNat (List.take ((rest.length : Nat) : Int).toNat rest), all ++ [v], ?_, ?_, ?_, by simp; omega, ?_⟩ (by simp; omega)
     ·rw [show IntKind.u64.wrap ((all.length : Int) + 1) = (((all ++ [v]).length : Nat) : Int) by simp; rw [c1y (by omega) (by omega)]]
     ·simp only [Int.toNat_natCast, List.take_length]; exact g1.drop _
     ·simp only [Int.toNat_natCast, List.take_length, List.length_drop]; omega
     ·intro x hx
      rcases List.mem_append.1 hx with hx | hx
      ·exact g4 x hx
      ·simp at hx; subst hx; exact q1
  ·rw [if_neg (by simp; omega), c3g (by omega), b4g (by omega) (by omega)]
   simp only [Option.bind_some]
   rw [b0q g1 g2 (by omega)]
   simp only [Option.bind_some]
   unfold b4a
   split
   ·rename_i hok
    dsimp only
    rw [if_neg (by simp)]
    have hnum := b2z (b := rest) (n := ((M : Int)).toNat) (w := (((blen (all.length - 1) : Nat) : Int)).toNat) (by omega)
    have hplen := b0o rest ((M : Int)).toNat (((blen (all.length - 1) : Nat) : Int)).toNat
    generalize b0y rest ((M : Int)).toNat (((blen (all.length - 1) : Nat) : Int)).toNat = places at hnum hplen ⊢
    rw [Int.toNat_natCast] at hplen
    refine Gets.iter (I := fun s : List Vl × Int => s.2 = (s.1.length : Int) ∧ s.1.length ≤ M ∧ ∀ v, v ∈ s.1 → okV v) (μ := fun s => M - s.1.length) ⟨by simp, by simp, by simp⟩ (by simp; omega) ?_
    rintro rec2 ⟨l, i⟩ ⟨k1, k2, k3⟩ hrec2
    dsimp only at k1 k2 k3
    subst k1
    dsimp only
    by_cases h5 : l.length < M
    ·have h5' : l.length < places.length := by omega
     have hx := hnum _ (List.getElem_mem h5')
     rw [if_pos (by simp; omega), a0g h5', Int.toNat_natCast, a0i h5', a2s (by omega)]
     obtain ⟨p, hp⟩ : ∃ p : Nat, places[l.length] = (p : Int) := ⟨_, (Int.toNat_of_nonneg hx.1).symm⟩
     rw [hp]
     by_cases h6 : all.length ≤ p
     ·rw [if_pos (by simp; omega)]; exact bad
     ·have hpl : p < all.length := by omega
      rw [if_neg (by simp; omega), a0g h5', a0g hpl, Int.toNat_natCast, a0i hpl, if_pos (by simp; omega), a0f (by omega)]
      refine hrec2 _ ⟨by simp, by simp; omega, fun x hx => ?_⟩ (by simp; omega)
      rcases List.mem_append.1 hx with hx | hx
      ·exact k3 x hx
      ·simp at hx; subst hx; exact g4 _ (List.getElem_mem hpl)
    ·rw [if_neg (by simp; omega)]
     exact Gets.some (.inl ⟨l, rfl, k3, by omega⟩)
   ·dsimp only
    rw [if_pos (by simp)]; exact bad
end Go.Rb.R4

namespace Go.Rb.R4
open Go.Rb
theorem c3d {n : Nat} {t : Int} {l : List Vl} (hv : ∀ v, v ∈ l → okV v) (hr : a1k t l = true) (hl : l.length ≤ 1000) (hn : 70000 ≤ n) :
  a4j n (t, (l.length : Int), b5d t l, ()) = some ((l, true, ()), ()) := by
 have hro := a1t
 obtain ⟨ht1, ht4, hrr⟩ := a2x hr
 have hb := d2u hr hv
 have hbl := c6h hr hv hl
 have hdl := b8w (ltV t) l
 have hR := b2w hr hv
 have hsm := b0i hr
 have hplt := c2f hr
 have hback := b6r hr
 obtain ⟨b, hbd⟩ : ∃ b, b5d t l = b := ⟨_, rfl⟩
 rw [hbd] at hb hbl ⊢
 have hbd' := hbd
 unfold b5d at hbd'
 obtain ⟨D, hD⟩ : ∃ D, a9c t l = D := ⟨_, rfl⟩
 rw [hD] at hbd' hR hsm hplt hback
 have hDl : D.length ≤ l.length := by rw [← hD]; exact hdl
 have htk : a4e b = some (D.length, (putN D.length).length) := by rw [← hbd']; exact a5w _ _ (by omega)
 have hdrop : b.drop (putN D.length).length = D.flatMap oneV ++ a7j (a2d t l) (blen (D.length - 1)) := by rw [← hbd']; simp
 have hb10 : blen (D.length - 1) ≤ 10 := b5b (by omega)
 have hmul : l.length * blen (D.length - 1) ≤ 1000 * 10 := Nat.mul_le_mul hl hb10
 have hkl := (a2y hb htk).2.1
 have hfl := a1v hR
 have hbits : a3o (a7j (a2d t l) (blen (D.length - 1))) := b5a (b4m _ _)
 unfold a4j
 dsimp only
 rw [a7p hb (by omega) (by omega), htk]
 simp only [Option.bind_some]
 rw [if_neg (by simp), a2s (by omega), if_neg (by simp; omega), if_pos (by omega)]
 refine a0z (st := fun i => ((D.drop i).flatMap oneV ++ a7j (a2d t l) (blen (D.length - 1)), D.take i, (i : Int))) D.length ?_ ?_ ?_ (by omega)
 ·simp only [Int.toNat_natCast, List.take_length, hdrop]; simp
 ·intro rec i hi
  have hsub : ∀ v, v ∈ D.drop i → a0r t v = true ∧ okV v := fun v hm => hR v (List.mem_of_mem_drop hm)
  have hfl2 := a1v hsub
  have hrest : a3o ((D.drop i).flatMap oneV ++ a7j (a2d t l) (blen (D.length - 1))) := by
   intro x hx
   rcases List.mem_append.1 hx with hx | hx
   ·exact b1v hsub x hx
   ·exact hbits x hx
  have hlen : ((D.drop i).flatMap oneV ++ a7j (a2d t l) (blen (D.length - 1))).length < 1000000 := by
   simp only [List.length_append, a4g, a2h]
   simp only [List.length_drop] at hfl2
   omega
  have hdi : D.drop i = D[i] :: D.drop (i + 1) := List.drop_eq_getElem_cons hi
  have hRi := hR _ (List.getElem_mem hi)
  have hmay : mayV D[i] = true := by
   have := hRi.1
   unfold a0r at this
   simp only [Bool.and_eq_true] at this
   exact this.2
  have hfst := b1o hRi.1 hRi.2 ((D.drop (i + 1)).flatMap oneV ++ a7j (a2d t l) (blen (D.length - 1)))
  obtain ⟨y, hy1, hy2⟩ := a9n (n := n) (t := t) ⟨ht1, ht4⟩ hrest hlen (by omega)
  dsimp only
  rw [if_pos (by simp; omega), hy1]
  rw [hdi] at hy2 hlen ⊢
  rw [List.flatMap_cons, List.append_assoc] at hy2 hlen ⊢
  unfold OneP at hy2
  rw [hfst] at hy2
  subst hy2
  simp only [Option.bind_some]
  rw [if_neg (by simp [hmay]), if_pos (by simp; omega), if_pos (by refine ⟨by omega, ?_⟩; simp only [List.length_append]; omega), c1y (by omega) (by omega)]
  simp only [Int.toNat_natCast, List.take_length, List.drop_left, List.take_succ_eq_append_getElem hi]
  rfl
 ·intro rec
  dsimp only
  rw [if_neg (by simp), List.drop_length, List.flatMap_nil, List.nil_append, List.take_length, c3g (by omega), b4g (by omega) (by omega)]
  simp only [Option.bind_some]
  rw [b0q hbits (by rw [a4g, a2h]; omega) (by omega)]
  simp only [Option.bind_some]
  have hbb : b0y (a7j (a2d t l) (blen (D.length - 1))) l.length (blen (D.length - 1)) = a2d t l := by
   have := b3v (l := a2d t l) (w := blen (D.length - 1)) hsm
   rwa [a2h] at this
  unfold b4a
  split
  rotate_left
  ·rename_i hno
   exfalso
   apply hno
   simp only [Int.toNat_natCast, hbb]
   exact ⟨by omega, by omega, by omega, by omega, by rw [a4g, a2h], trivial⟩
  simp only [Int.toNat_natCast, hbb]
  rw [if_neg (by simp)]
  refine a0z (st := fun i => (((a2d t l).take i).map (fun p => D.getD p.toNat d0), (i : Int))) (a2d t l).length (by simp) ?_ ?_ (by rw [a2h]; omega)
  ·intro rec2 i hi
   have hx := hplt _ (List.getElem_mem hi)
   have hil : i < l.length := by rw [a2h] at hi; exact hi
   dsimp only
   obtain ⟨p, hp⟩ : ∃ p : Nat, (a2d t l)[i] = (p : Int) := ⟨_, (Int.toNat_of_nonneg hx.1).symm⟩
   have hpl : p < D.length := by rw [hp, Int.toNat_natCast] at hx; exact hx.2
   rw [if_pos (by simp; omega), a0g hi, Int.toNat_natCast, a0i hi, hp, a2s (by omega), if_neg (by simp; omega), a0g hi, a0g hpl, Int.toNat_natCast, if_pos (by simp; omega), a0f (by omega), map_take _ hi, hp, Int.toNat_natCast]
  ·intro rec2
   dsimp only
   rw [if_neg (by rw [a2h]; simp), List.take_length, hback]
end Go.Rb.R4

namespace Go.Rb.R4
open Go.Rb
theorem d2i (n : Nat) (t : Int) : a9b n (t, ()) = some ((decide (1 ≤ t ∧ t ≤ 3), ()), ()) := by
 unfold a9b
 dsimp only
 by_cases h1 : t = 1
 ·subst h1; rfl
 by_cases h2 : t = 2
 ·subst h2; rfl
 by_cases h3 : t = 3
 ·subst h3; rfl
 ·have : ¬ (1 ≤ t ∧ t ≤ 3) := by omega
  simp [h1, h2, h3, this]
theorem d9f {n : Nat} {t : Int} {l : List Vl} (hv : ∀ v, v ∈ l → okV v) (h : a1k t l = true) (hl : l.length ≤ 1000) (hn : 2000 ≤ n) :
  b1b n (l, ()) = some ((b7c l, ()), ()) := by
 have hro := a1t
 unfold b1b
 dsimp only
 cases l with
 | nil => rfl
 | cons v r =>
  obtain ⟨l, hlr⟩ : ∃ l, v :: r = l := ⟨_, rfl⟩
  have hne : l ≠ [] := by rw [← hlr]; simp
  have h0 : 0 < l.length := by rw [← hlr]; simp
  have hz : (l.getD ((0:Int)).toNat ((0:Int), (0:Int), [], ())) = v := by rw [← hlr]; rfl
  have hL : a3w l = l.foldl (fun m x => if m ≤ x.2.1 then m else x.2.1) v.2.1 := by rw [← hlr]; rfl
  have hlr2 := b1j hv
  have hw64 := b3p hv
  rw [hlr] at hlr2 hw64 hv hl h ⊢
  rw [if_neg (by simp <;> omega), a8d (by omega) (by omega), hz]
  refine a0z (st := fun i => ((l.take i).foldl (fun m x => if m ≤ x.2.1 then m else x.2.1) v.2.1, (i : Int))) l.length (by simp) ?_ ?_ (by omega)
  ·intro rec i hi
   dsimp only
   rw [if_pos (by simp <;> omega), a0g hi, Int.toNat_natCast, a0i hi, a0f (by omega), List.take_succ_eq_append_getElem hi, List.foldl_append]
   rfl
  ·intro rec
   dsimp only
   rw [if_neg (by simp), List.take_length, ← hL]
   refine a0z (st := fun i => ((l.take i).map (fun v => v.2.1 - a3w l), (i : Int))) l.length (by simp) ?_ ?_ (by omega)
   ·intro rec2 i hi
    have hm := List.getElem_mem hi
    dsimp only
    rw [if_pos (by simp <;> omega), a0g hi, Int.toNat_natCast, a0i hi, d1u (hv _ hm).2.1 hlr2 (d3q hm), if_pos (by simp <;> omega), a0f (by omega), map_take _ hi]
   ·intro rec2
    dsimp only
    have habove : (l.take l.length).map (fun v => v.2.1 - a3w l) = a1z l := by rw [List.take_length]; rfl
    have hnum : Nums (a1z l) := b5r hv
    rw [if_neg (by simp), habove, c4n hnum (by rw [a3m]; omega) (by omega) (by rw [a3m]; omega)]
    simp only [Option.bind_some]
    rw [b1x hnum (by rw [a3m]; omega) (by omega) (by rw [a3m]; omega), if_pos ⟨hw64, Nat.le_refl _⟩]
    simp only [Option.bind_some]
    rw [c3x hlr2.1 hlr2.2]
    simp only [Option.bind_some]
    have hzl := b4e hlr2.1 hlr2.2
    have hp := a4d hzl
    rw [a8r hzl (by omega)]
    simp only [Option.bind_some]
    have hmul : l.length * a3j (a1z l) ≤ l.length * 64 := Nat.mul_le_mul_left _ hw64
    rw [if_pos (by simp <;> omega), if_pos (by simp only [List.length_append, List.length_singleton, a4g, a3m]; omega), b3n (by omega), b1k hne]
    simp
theorem b6d {n : Nat} {e t : Int} {l : List Vl} (hv : ∀ v, v ∈ l → okV v) (hl : l.length ≤ 1000) (hn : 2000 ≤ n) :
  a6b n (e, t, l, ()) = some (if a6x e t = true ∧ a1k t l = true then (encB e t l, true, ()) else ([], false, ()), ()) := by
 have hro := a1t
 unfold a6b
 dsimp only
 refine a9u (I := fun _ q => (e = 4 → t ≤ 3) ∧ (e = 5 → t ≤ 2) ∧ a1k t l = true ∧ q = some (if a6x e t = true ∧ a1k t l = true then (encB e t l, true, ()) else ([], false, ()), ())) ?_ ?_
 ·rintro _ _ ⟨q4, q5, hr, rfl⟩
  have hb := a5m hr hv
  rw [hr]
  by_cases c1 : e = 1
  ·subst c1
   rw [if_pos (by simp), if_pos (by simp [a6x])]
   have he : encB 1 t l = l.flatMap oneV := by simp [encB]
   rw [he]
   refine a0z (st := fun i => ((l.take i).flatMap oneV, (i : Int))) l.length (by simp) ?_ ?_ (by omega)
   ·intro rec i hi
    have h2 := a1v (d := l.take i) fun v hv => hb v (List.mem_of_mem_take hv)
    have h3 : (l.take i).length ≤ l.length := by simp <;> omega
    have h4 := b9c (hb _ (List.getElem_mem hi)).1 (hb _ (List.getElem_mem hi)).2
    dsimp only
    rw [if_pos (by simp <;> omega), a0g hi, Int.toNat_natCast, a0i hi, c2p (hb _ (List.getElem_mem hi)).1 (hb _ (List.getElem_mem hi)).2 (by omega)]
    simp only [Option.bind_some]
    rw [if_pos (by omega), a0f (by omega), b4c _ hi]
   ·intro rec
    dsimp only
    rw [if_neg (by simp), List.take_length]
  rw [if_neg (by simpa using c1)]
  by_cases c2 : e = 2
  ·subst c2
   rw [if_pos (by simp), if_pos (by simp [a6x])]
   have he : encB 2 t l = rleB l := by simp [encB]
   rw [he]
   refine (a9r (I := fun k (s : List Int × Int) => ∃ i : Nat, s.2 = (i : Int) ∧ i + k = l.length ∧ s.1.length + 31 * k ≤ 40000) (res := fun s => some ((s.1 ++ rleB (l.drop s.2.toNat), true, ()), ())) ?_ n l.length _ ⟨0, rfl, by omega, by simp <;> omega⟩ (by omega)).trans (by simp)
   rintro k ⟨acc, q⟩ rec ⟨i, rfl, h1, h2⟩ hrec
   dsimp only at h2 ⊢
   rw [Int.toNat_natCast]
   by_cases hi : i < l.length
   rotate_left
   ·rw [if_neg (by simp <;> omega), List.drop_eq_nil_iff.2 (by omega)]; simp [b9k]
   have hm := hb _ (List.getElem_mem hi)
   have e0 := List.drop_eq_getElem_cons hi
   obtain ⟨v, hve⟩ : ∃ v, l[i] = v := ⟨_, rfl⟩
   have hgi : l.getD i ((0:Int), (0:Int), [], ()) = v := by rw [a0i hi, hve]
   rw [hve] at hm e0
   have hrn := c2o v (l.drop (i + 1))
   have hdl : (l.drop (i + 1)).length = l.length - (i + 1) := by simp
   rw [if_pos (by simp <;> omega)]
   refine a9u (I := fun s q => s = ((1 + runN v (l.drop (i + 1)) : Nat) : Int) ∧ q = some ((acc ++ rleB (l.drop i), true, ()), ())) ?_ ?_
   ·rintro _ _ ⟨rfl, rfl⟩
    have hp := a4d (v := 1 + runN v (l.drop (i + 1))) (by omega)
    rw [a2s (by omega), a8r (by omega) (by omega)]
    simp only [Option.bind_some]
    have h5 := b9c hm.1 hm.2
    rw [if_pos (by omega), a0g hi, hgi, c2p hm.1 hm.2 (by omega)]
    simp only [Option.bind_some]
    have hw : IntKind.i64.wrap ((i : Int) + ((1 + runN v (l.drop (i + 1)) : Nat) : Int)) = ((i + (1 + runN v (l.drop (i + 1))) : Nat) : Int) := by
     rw [show ((i : Int) + ((1 + runN v (l.drop (i + 1)) : Nat) : Int)) = ((i + (1 + runN v (l.drop (i + 1))) : Nat) : Int) by omega, a0x (by omega)]
    rw [if_pos (by simp <;> omega), hw, hrec (k - (1 + runN v (l.drop (i + 1)))) _ (by omega) ⟨i + (1 + runN v (l.drop (i + 1))), rfl, by omega, by simp <;> omega⟩]
    dsimp only
    rw [Int.toNat_natCast, e0, b0w]
    have hd : l.drop (i + (1 + runN v (l.drop (i + 1)))) = (l.drop (i + 1)).drop (runN v (l.drop (i + 1))) := by rw [List.drop_drop]; congr 1; omega
    rw [hd]
    simp
   ·intro J hJ
    have hcode : ∀ j : Nat, j < 100000 → IntKind.i64.wrap ((i : Int) + (j : Int)) = ((i + j : Nat) : Int) := fun j hj => by
     rw [show ((i : Int) + (j : Int)) = ((i + j : Nat) : Int) by omega, a0x (by omega)]
    refine a0z (st := fun j => ((1 + j : Nat) : Int)) (runN v (l.drop (i + 1))) rfl ?_ ?_ (by omega)
    ·intro rec2 j hj
     have hlt : i + (1 + j) < l.length := by omega
     have e1 : l.getD (i + (1 + j)) ((0:Int), (0:Int), [], ()) = v := by
      have := e2p v hj
      rw [a0i (by omega), List.getElem_drop] at this
      rw [a0i hlt, ← this]
      congr 1; omega
     rw [hcode _ (by omega), if_pos (by simp <;> omega), a0g hlt, a0g hi]
     rw [if_pos (by simp only [Int.toNat_natCast, e1, hgi, decide_true, Bool.and_self]), a0f (by omega)]
     congr 2
    ·intro rec2
     rw [hcode _ (by omega)]
     by_cases hend : runN v (l.drop (i + 1)) < (l.drop (i + 1)).length
     ·have hlt : i + (1 + runN v (l.drop (i + 1))) < l.length := by omega
      have e1 : l.getD (i + (1 + runN v (l.drop (i + 1)))) ((0:Int), (0:Int), [], ()) ≠ v := by
       have := d9y v hend
       rw [List.getElem_drop] at this
       rw [a0i hlt]
       intro h
       refine this (Eq.trans ?_ h)
       congr 1; omega
      rw [if_pos (by simp <;> omega), a0g hlt, a0g hi]
      rw [if_neg (by simp only [Int.toNat_natCast, hgi, eqVl, decide_eq_true_eq]; exact e1)]
      exact hJ _ _ ⟨rfl, rfl⟩
     ·rw [if_neg (by simp <;> omega)]
      exact hJ _ _ ⟨rfl, rfl⟩
  rw [if_neg (by simpa using c2)]
  by_cases c3 : e = 3
  ·subst c3
   rw [if_pos (by simp), if_pos (by simp [a6x]), e0e hv hr hl hn]
   simp [encB]
  rw [if_neg (by simpa using c3)]
  by_cases c4 : e = 4
  ·subst c4
   rw [if_pos (by simp), if_pos (by simp [a6x, q4]), d9f hv hr hl hn]
   simp [encB]
  rw [if_neg (by simpa using c4)]
  by_cases c5 : e = 5
  ·subst c5
   have ht2 := q5 rfl
   rw [if_pos (by simp), if_pos (by simp [a6x, ht2])]
   have he : encB 5 t l = a6g 0 l := by simp [encB]
   rw [he]
   refine (a9r (I := fun k (s : List Int × Int) => ∃ i : Nat, s.2 = (i : Int) ∧ i + k = l.length ∧ s.1.length + 10 * k ≤ 20000) (res := fun s => some ((s.1 ++ a6g (if s.2.toNat = 0 then 0 else (l.getD (s.2.toNat - 1) ((0:Int), (0:Int), [], ())).2.1) (l.drop s.2.toNat), true, ()), ())) ?_ n l.length _ ⟨0, rfl, by omega, by simp <;> omega⟩ (by omega)).trans (by simp)
   rintro k ⟨acc, q⟩ rec ⟨i, rfl, h1, h2⟩ hrec
   dsimp only at h2 ⊢
   rw [Int.toNat_natCast]
   by_cases hi : i < l.length
   rotate_left
   ·rw [if_neg (by simp <;> omega), List.drop_eq_nil_iff.2 (by omega)]; simp [a6g]
   have hm := hb _ (List.getElem_mem hi)
   rw [if_pos (by simp <;> omega), a0g hi, List.drop_eq_getElem_cons hi]
   obtain ⟨last, hlast⟩ : ∃ last, (if i = 0 then (0:Int) else (l.getD (i - 1) ((0:Int), (0:Int), [], ())).2.1) = last := ⟨_, rfl⟩
   rw [hlast]
   have h7 := b5u last l[i].2.1
   have hz := a8h last l[i].2.1
   have h8 := a4d hz
   have hgo : ((a5s n (c3q last l[i].2.1, ())).bind fun y18 => ((a1f n (y18.1.1, ())).bind fun y19 => (if (acc.length + y19.1.1.length) * 1 ≤ room then (rec ((acc ++ y19.1.1), (IntKind.i64.wrap ((i : Int) + 1)))) else none))) = some ((acc ++ a6g last (l[i] :: l.drop (i + 1)), true, ()), ()) := by
    rw [c3x h7.1 h7.2]
    simp only [Option.bind_some]
    rw [a8r hz (by omega)]
    simp only [Option.bind_some]
    rw [if_pos (by omega), a0f (by omega), hrec (k - 1) _ (by omega) ⟨i + 1, rfl, by omega, by simp <;> omega⟩]
    dsimp only
    rw [Int.toNat_natCast, if_neg (by omega), Nat.add_sub_cancel, a0i hi]
    simp only [a6g, List.append_assoc]
   by_cases h0 : i = 0
   ·rw [if_neg (by simp <;> omega)]
    rw [if_pos h0] at hlast
    have hst : c3q last l[i].2.1 = l[i].2.1 := by
     unfold c3q
     rw [← hlast, Int.sub_zero, a1e hm.2.2.1.1 hm.2.2.1.2]
    rw [hst] at hgo
    rw [a0i hi]
    exact hgo
   ·rw [if_pos (by simp <;> omega), a0g hi]
    rw [if_neg h0] at hlast
    have hw : IntKind.i64.wrap ((i : Int) - 1) = ((i - 1 : Nat) : Int) := by
     rw [show ((i : Int) - 1) = ((i - 1 : Nat) : Int) by omega, a0x (by omega)]
    rw [hw, a0g (by omega)]
    simp only [Int.toNat_natCast]
    rw [hlast, a0i hi]
    exact hgo
  ·rw [if_neg (by simpa using c5), if_neg]
   rintro ⟨h, _⟩
   simp [a6x, c1, c2, c3, c4, c5] at h
 ·intro J hJ
  rw [d6q (by omega) (by omega)]
  simp only [Option.bind_some]
  by_cases hr : a1k t l = true
  rotate_left
  ·rw [if_pos (by simp [hr]), if_neg (fun h => hr h.2)]
  ·obtain ⟨ht1, ht4, _⟩ := a2x hr
   rw [if_neg (by simp [hr]), d2i]
   simp only [Option.bind_some]
   by_cases c4 : e = 4
   ·subst c4
    rw [if_pos (by simp)]
    by_cases h3 : t ≤ 3
    ·rw [if_neg (by simp <;> omega), if_neg (by simp)]
     exact hJ _ _ ⟨fun _ => h3, fun h => by omega, hr, rfl⟩
    ·rw [if_pos (by simp <;> omega), if_neg]
     rintro ⟨h, _⟩
     simp [a6x] at h
     omega
   ·rw [if_neg (by simpa using c4)]
    by_cases c5 : e = 5
    ·subst c5
     rw [if_pos (by simp)]
     by_cases h1 : t = 1
     ·rw [if_neg (by simpa using h1)]
      exact hJ _ _ ⟨fun h => by omega, fun _ => by omega, hr, rfl⟩
     rw [if_pos (by simpa using h1)]
     by_cases h2 : t = 2
     ·rw [if_neg (by simpa using h2)]
      exact hJ _ _ ⟨fun h => by omega, fun _ => by omega, hr, rfl⟩
     ·rw [if_pos (by simpa using h2), if_neg]
      rintro ⟨h, _⟩
      simp [a6x] at h
      omega
    ·rw [if_neg (by simpa using c5)]
     exact hJ _ _ ⟨fun h => absurd h c4, fun h => absurd h c5, hr, rfl⟩
theorem e0k (n : Nat) (e t : Int) : a8f n (e, t, ()) = some (match b7f e t with | some u => (u, true, ()) | none => (0, false, ()), ()) := by
 unfold a8f b7f
 dsimp only
 rw [b0v]
 simp only [Option.bind_some]
 by_cases h1 : 1 ≤ t ∧ t ≤ 4
 rotate_left
 ·have : isT t = false := by
   cases h : isT t with
   | false => rfl
   | true => exact absurd (c8e.1 h) h1
  rw [this, if_pos (by simp), if_neg (by omega)]
 rw [c8e.2 h1, if_neg (by simp)]
 by_cases h3 : e < 1
 ·rw [if_pos (by simpa using h3), if_neg (by omega)]
 rw [if_neg (by simpa using h3)]
 by_cases h4 : 5 < e
 ·rw [if_pos (by simpa using h4), if_neg (by omega)]
 rw [if_neg (by simpa using h4)]
 have ht : t = 1 ∨ t = 2 ∨ t = 3 ∨ t = 4 := by omega
 have he : e = 5 ∨ e = 4 ∨ e = 3 ∨ e = 2 ∨ e = 1 := by omega
 rcases he with rfl | rfl | rfl | rfl | rfl <;> rcases ht with rfl | rfl | rfl | rfl <;> decide
theorem c9r {n : Nat} {l : List Bool} (hl : l.length < 100000) (hn : l.length < n) (hn2 : 64 < n) : a6t n (l, ()) = some ((b2h l, ()), ()) := by
 have hro := a1t
 unfold a6t
 dsimp only
 rw [if_pos (by omega), Int.toNat_natCast]
 refine a0z (st := fun i => ((l.take i).map b2i ++ List.replicate (l.length - i) 0, (i : Int))) l.length (by simp) ?_ ?_ hn
 ·intro rec i hi
  have hset : ∀ x : Int, ((l.take i).map b2i ++ List.replicate (l.length - i) 0).set i x = (l.take i).map b2i ++ (x :: List.replicate (l.length - (i + 1)) 0) := by
   intro x
   rw [List.set_append_right _ _ (by simp <;> omega), show l.length - i = (l.length - (i + 1)) + 1 by omega, List.replicate_succ]
   have : i - ((l.take i).map b2i).length = 0 := by simp <;> omega
   rw [this, List.set_cons_zero]
  dsimp only
  rw [if_pos (by simp <;> omega), a0g hi]
  simp only [Int.toNat_natCast]
  rw [a0i hi, a0f (by omega), map_take _ hi]
  by_cases hx : l[i] = true
  ·rw [if_pos hx, a0g (by simp <;> omega), hset, hx]
   simp [b2i]
  ·rw [if_neg hx]
   have hx' : l[i] = false := by simpa using hx
   rw [hx', show l.length - i = (l.length - (i + 1)) + 1 by omega, List.replicate_succ]
   simp [b2i]
 ·intro rec
  dsimp only
  have hsm := c6y l
  have hnum : Nums (l.map b2i) := fun x hx => ⟨(hsm x hx).1, by have := hsm x hx; omega⟩
  have hw : a3j (l.map b2i) ≤ 1 := b5f.2 fun x hx => (hsm x hx).2
  have := b1x (n := n) (w := 1) hnum (by simp <;> omega) hn2 (by simp <;> omega)
  rw [if_pos ⟨by omega, hw⟩] at this
  rw [if_neg (by simp), List.take_length, Nat.sub_self, List.replicate_zero, List.append_nil]
  erw [this]
  rfl
theorem f0q (t : Int) (v : Vl) : (mayV v && (isT t && (decide (v.1 = 0) || decide (v.1 = t)))) = a8c t v := by
 unfold a8c isT
 cases mayV v <;> simp
theorem e5m (l : List Vl) : (a4k l).length < l.length ↔ l.any isN = true := by
 unfold a4k
 rw [List.length_filter_lt_length_iff_exists, List.any_eq_true]
 simp
theorem b7a {n : Nat} {e t : Int} {l : List Vl} (hv : ∀ v, v ∈ l → okV v) (hl : l.length ≤ 1000) (hn : 2000 ≤ n) :
  a2v n (e, t, l, ()) = some (match b4q e t l with | some b => (b, true, ()) | none => ([], false, ()), ()) := by
 have hro := a1t
 unfold a2v b4q
 dsimp only
 rw [e0k]
 simp only [Option.bind_some]
 cases hu : b7f e t with
 | none => rfl
 | some u =>
  obtain ⟨u1, u2, u3, u4, u5, _⟩ := b3u hu
  dsimp only
  rw [if_neg (by simp)]
  refine (a9r (I := fun k (s : List Bool × List Vl × Int) => ∃ i : Nat, s = ((l.take i).map isN, a4k (l.take i), (i : Int)) ∧ i + k = l.length ∧ ∀ v, v ∈ l.take i → a8c t v = true)
   (res := fun s => some (if (l.drop s.2.2.toNat).all (a8c t) = true then (colB u t l, true, ()) else ([], false, ()), ())) ?_ n l.length _ ⟨0, by simp [a4k], by omega, by simp⟩ (by omega)).trans ?_
  ·rintro k _ rec ⟨i, rfl, h1, h2⟩ hrec
   dsimp only
   rw [Int.toNat_natCast]
   by_cases hi : i < l.length
   ·have hsl := b8m (l.take i)
    have hti : (l.take i).length ≤ 1000 := by simp <;> omega
    rw [if_pos (by simp <;> omega), a0g hi, a0i hi, c9s]
    simp only [Option.bind_some]
    rw [f0q, List.drop_eq_getElem_cons hi, List.all_cons]
    cases hf : a8c t l[i] with
    | false => rw [if_pos (by simp), if_neg (by simp)]
    | true =>
     have hnext : ∀ v, v ∈ l.take (i + 1) → a8c t v = true := by
      intro v hm
      rw [List.take_succ_eq_append_getElem hi] at hm
      rcases List.mem_append.1 hm with hm | hm
      ·exact h2 v hm
      ·simp at hm; subst hm; exact hf
     rw [if_neg (by simp), a0g hi, if_pos (by simp <;> omega), a0g hi, a0f (by omega)]
     have e1 : (l.take i).map isN ++ [decide (l[i].1 = 0)] = (l.take (i + 1)).map isN := by
      rw [List.take_succ_eq_append_getElem hi, List.map_append]; rfl
     rw [e1]
     have e2 : a4k (l.take (i + 1)) = a4k (l.take i) ++ a4k [l[i]] := by
      unfold a4k
      rw [List.take_succ_eq_append_getElem hi, List.filter_append]
     cases hN : isN l[i] with
     | true =>
      have h0 : l[i].1 = 0 := by simpa [isN] using hN
      have e3 : a4k (l.take i) = a4k (l.take (i + 1)) := by rw [e2]; simp [a4k, hN]
      rw [if_neg (by simp [h0]), e3, hrec (k - 1) _ (by omega) ⟨i + 1, rfl, by omega, hnext⟩]
      dsimp only
      rw [Int.toNat_natCast, Bool.true_and]
     | false =>
      have h0 : ¬ l[i].1 = 0 := by simpa [isN] using hN
      have e3 : a4k (l.take i) ++ [l[i]] = a4k (l.take (i + 1)) := by rw [e2]; simp [a4k, hN]
      rw [if_pos (by simp [h0]), a0g hi, if_pos (by simp <;> omega), e3, hrec (k - 1) _ (by omega) ⟨i + 1, rfl, by omega, hnext⟩]
      dsimp only
      rw [Int.toNat_natCast, Bool.true_and]
   ·have hil : i = l.length := by omega
    subst hil
    rw [List.take_length] at h2 ⊢
    have hr := a8a ⟨u2, u3⟩ h2
    have hok := b1u hv
    have hsl := b8m l
    have hEL := d2j (e := u) hr hok (by omega)
    have hHL := d5j u hl
    rw [if_neg (by simp), List.drop_length, if_pos (by simp)]
    refine a9u (I := fun s q => s = c5b u l ∧ q = some ((colB u t l, true, ()), ())) ?_ ?_
    ·rintro _ _ ⟨rfl, rfl⟩
     rw [b6d hok (by omega) hn, if_pos ⟨u1, hr⟩]
     simp only [Option.bind_some]
     rw [if_pos (by omega), d7o]
    ·intro J hJ
     rw [b3d (by omega) (by omega)]
     by_cases ha : l.any isN = true
     ·have hlt := (e5m l).2 ha
      rw [if_pos (by simp only [decide_eq_true_eq]; omega), a8d (by omega) (by simp), c9r (by simp <;> omega) (by simp <;> omega) (by omega)]
      simp only [Option.bind_some]
      have hnl := b0r (l.map isN)
      rw [List.length_map] at hnl
      rw [if_pos (by simp <;> omega)]
      exact hJ _ _ ⟨by unfold c5b; rw [if_pos ha]; rfl, rfl⟩
     ·have hlt : ¬ (a4k l).length < l.length := fun h => ha ((e5m l).1 h)
      rw [if_neg (by simp only [decide_eq_true_eq]; omega)]
      exact hJ _ _ ⟨by unfold c5b; rw [if_neg ha], rfl⟩
  ·dsimp only
   rw [show Int.toNat 0 = 0 from rfl, List.drop_zero]
   split <;> rfl
end Go.Rb.R4

namespace Go.Rb.R4
open Go.Rb
def d3r (e t m : Int) (b : List Int) (y : (List Vl × Bool × Unit) × Unit) : Prop :=
 (∃ l, y = ((l, true, ()), ()) ∧ (∀ v, v ∈ l → okV v) ∧ l.length ≤ 1000 ∧ ∀ l', a4t e t m b l' → l = l') ∨ (y = (([], false, ()), ()) ∧ ∀ l, ¬ a4t e t m b l)
theorem d5c {t : Int} {v : Vl} (h : a0r t v = true) : mayV v = true := by
 unfold a0r at h
 simp only [Bool.and_eq_true] at h
 exact h.2
theorem d0d {n : Nat} {t m : Int} {b : List Int} (ht : 1 ≤ t ∧ t ≤ 4) (hm : 0 ≤ m ∧ m ≤ 1000) (hb : a3o b) (hl : b.length < 1000000) (hn : 70000 ≤ n) :
  Gets (a4s n ((1:Int), t, m, b, ())) (d3r 1 t m b) := by
 have hro := a1t
 have bad : (∀ l, ¬ a4t 1 t m b l) → Gets (some ((([] : List Vl), false, ()), ())) (d3r 1 t m b) := fun h => Gets.some (.inr ⟨rfl, h⟩)
 obtain ⟨M, rfl⟩ : ∃ M : Nat, m = (M : Int) := ⟨_, (Int.toNat_of_nonneg (by omega)).symm⟩
 unfold a4s
 dsimp only
 rw [if_pos (by simp)]
 refine Gets.iter (I := fun s : List Int × List Vl => ∃ (rest : List Int) (vs : List Vl), s = (rest, vs) ∧ vs.length ≤ M ∧ a3o rest ∧ rest.length < 1000000 ∧ (∀ v, v ∈ vs → okV v) ∧ ∀ l, a4t 1 t (M : Int) b l → vs = l.take vs.length ∧ rest = (l.drop vs.length).flatMap oneV)
  (μ := fun s => M - s.2.length) ⟨b, [], rfl, by simp, hb, hl, by simp, fun l hg => ⟨by simp, by simpa using (d5s hg).2.2.2.2.2.symm⟩⟩ (by simp <;> omega) ?_
 rintro rec _ ⟨rest, vs, rfl, g1, g2, g3, g4, g5⟩ hrec
 dsimp only
 by_cases h3 : vs.length < M
 ·rw [if_pos (by simp <;> omega)]
  refine Gets.bind (a9n (n := n) (t := t) ht g2 g3 (by omega)) fun y hy => ?_
  have hgood : ∀ l, a4t 1 t (M : Int) b l → ∃ v r, rest = oneV v ++ r.flatMap oneV ∧ a0r t v = true ∧ okV v ∧ l.drop vs.length = v :: r := by
   intro l hg
   obtain ⟨_, e2⟩ := g5 l hg
   obtain ⟨_, _, q3, q4, q5, _⟩ := d5s hg
   have hlt : vs.length < l.length := by omega
   have e3 := List.drop_eq_getElem_cons hlt
   rw [e3, List.flatMap_cons] at e2
   exact ⟨l[vs.length], _, e2, (a2x q4).2.2 _ (List.getElem_mem _), q5 _ (List.getElem_mem _), e3⟩
  unfold OneP at hy
  cases hf : a3s t rest with
  | none =>
   rw [hf] at hy
   obtain ⟨v, k, rfl⟩ := hy
   dsimp only
   rw [if_pos (by simp)]
   refine bad fun l hg => ?_
   obtain ⟨v, r, e1, e2, e3, _⟩ := hgood l hg
   rw [e1, b1o e2 e3] at hf
   cases hf
  | some q =>
   obtain ⟨v, k⟩ := q
   rw [hf] at hy
   subst hy
   obtain ⟨q1, q2, q3, q4⟩ := b5c (by omega) g2 hf
   dsimp only
   cases hmay : mayV v with
   | false =>
    rw [if_pos (by simp)]
    refine bad fun l hg => ?_
    obtain ⟨v', r, e1, e2, e3, _⟩ := hgood l hg
    rw [e1] at hf
    obtain ⟨rfl, _⟩ := b4x e2 e3 hf
    rw [d5c e2] at hmay
    cases hmay
   | true =>
    rw [if_neg (by simp), if_pos (by simp <;> omega), if_pos (by omega)]
    simp only [Int.toNat_natCast, List.take_length]
    refine hrec _ ⟨rest.drop k, vs ++ [v], by simp, by simp <;> omega, g2.drop _, by simp <;> omega, ?_, fun l hg => ?_⟩ (by simp <;> omega)
    ·intro x hx
     rcases List.mem_append.1 hx with hx | hx
     ·exact g4 x hx
     ·simp at hx; subst hx; exact q1
    ·obtain ⟨v', r, e1, e2, e3, e4⟩ := hgood l hg
     obtain ⟨e5, _⟩ := g5 l hg
     rw [e1] at hf
     obtain ⟨rfl, e6⟩ := b4x e2 e3 hf
     have hlt : vs.length < l.length := by
      rcases Nat.lt_or_ge vs.length l.length with h | h
      ·exact h
      ·rw [List.drop_eq_nil_iff.2 h] at e4; cases e4
     have e7 := List.drop_eq_getElem_cons hlt
     rw [e4] at e7
     obtain ⟨e8, e9⟩ := List.cons.inj e7
     rw [e1, e6, List.length_append, List.length_singleton, ← e9, List.take_succ_eq_append_getElem hlt, ← e5, e8]
     exact ⟨rfl, rfl⟩
 ·have hM : vs.length = M := by omega
  rw [if_neg (by simp <;> omega)]
  refine Gets.some (.inl ⟨vs, rfl, g4, by omega, fun l hg => ?_⟩)
  have e1 := (g5 l hg).1
  have q3 := (d5s hg).2.2.1
  rwa [List.take_of_length_le (by omega)] at e1
theorem c9z {n : Nat} {t m : Int} {b : List Int} (ht : 1 ≤ t ∧ t ≤ 4) (hm : 0 ≤ m ∧ m ≤ 1000) (hb : a3o b) (hl : b.length < 1000000) (hn : 70000 ≤ n) :
  Gets (a4s n ((2:Int), t, m, b, ())) (d3r 2 t m b) := by
 have hro := a1t
 have bad : (∀ l, ¬ a4t 2 t m b l) → Gets (some ((([] : List Vl), false, ()), ())) (d3r 2 t m b) := fun h => Gets.some (.inr ⟨rfl, h⟩)
 obtain ⟨M, rfl⟩ : ∃ M : Nat, m = (M : Int) := ⟨_, (Int.toNat_of_nonneg (by omega)).symm⟩
 unfold a4s
 dsimp only
 rw [if_neg (by simp), if_pos (by simp)]
 refine Gets.iter (I := fun s : List Int × List Vl => ∃ (rest : List Int) (vs : List Vl), s = (rest, vs) ∧ vs.length ≤ M ∧ a3o rest ∧ rest.length < 1000000 ∧ (∀ v, v ∈ vs → okV v) ∧ ∀ l, a4t 2 t (M : Int) b l → vs = l.take vs.length ∧ rest = rleB (l.drop vs.length))
  (μ := fun s => M - s.2.length) ⟨b, [], rfl, by simp, hb, hl, by simp, fun l hg => ⟨by simp, by simpa using (d6b hg).2.2.2.2.2.symm⟩⟩ (by simp <;> omega) ?_
 rintro rec _ ⟨rest, vs, rfl, g1, g2, g3, g4, g5⟩ hrec
 dsimp only
 by_cases h3 : vs.length < M
 ·rw [if_pos (by simp <;> omega), a7p g2 g3 (by omega)]
  simp only [Option.bind_some]
  have hgood : ∀ l, a4t 2 t (M : Int) b l → ∃ v r, rest = putN (1 + runN v r) ++ (oneV v ++ rleB (r.drop (runN v r))) ∧ a0r t v = true ∧ okV v ∧ l.drop vs.length = v :: r ∧ vs.length + (1 + runN v r) ≤ M := by
   intro l hg
   obtain ⟨_, e2⟩ := g5 l hg
   obtain ⟨_, _, q3, q4, q5, _⟩ := d6b hg
   have hlt : vs.length < l.length := by omega
   have e3 := List.drop_eq_getElem_cons hlt
   rw [e3, b0w] at e2
   have e4 := c2o l[vs.length] (l.drop (vs.length + 1))
   have e5 : (l.drop (vs.length + 1)).length = l.length - (vs.length + 1) := by simp
   exact ⟨l[vs.length], _, e2, (a2x q4).2.2 _ (List.getElem_mem _), q5 _ (List.getElem_mem _), e3, by omega⟩
  have hsz : ∀ {v r}, vs.length + (1 + runN v r) ≤ M → 1 + runN v r < 18446744073709551616 := by intro v r h; omega
  cases htk : a4e rest with
  | none =>
   dsimp only
   rw [if_pos (by simp)]
   refine bad fun l hg => ?_
   obtain ⟨v, r, e1, _, _, _, e5⟩ := hgood l hg
   rw [e1, a5w _ _ (hsz e5)] at htk
   cases htk
  | some q =>
   obtain ⟨u, k⟩ := q
   have hT := a2y g2 htk
   have hK := b1p g2 htk
   have hk1 := b6o u
   dsimp only
   have hw : IntKind.u64.wrap (IntKind.i64.wrap ((M : Int) - (vs.length : Int))) = ((M - vs.length : Nat) : Int) := by
    rw [show ((M : Int) - (vs.length : Int)) = ((M - vs.length : Nat) : Int) by omega, a0x (by omega), a2s (by omega)]
   rw [if_neg (by simp), hw]
   have hgood2 : ∀ l, a4t 2 t (M : Int) b l → ∃ v r, u = 1 + runN v r ∧ rest.drop k = oneV v ++ rleB (r.drop (runN v r)) ∧ a0r t v = true ∧ okV v ∧ l.drop vs.length = v :: r ∧ vs.length + u ≤ M := by
    intro l hg
    obtain ⟨v, r, e1, e2, e3, e4, e5⟩ := hgood l hg
    have htk' := htk
    rw [e1, a5w _ _ (hsz e5)] at htk'
    simp only [Option.some.injEq, Prod.mk.injEq] at htk'
    refine ⟨v, r, htk'.1.symm, ?_, e2, e3, e4, by omega⟩
    rw [e1, ← htk'.2]; simp
   by_cases h0 : u = 0
   ·rw [if_pos (by simp <;> omega)]
    refine bad fun l hg => ?_
    obtain ⟨v, r, e1, _⟩ := hgood2 l hg
    omega
   rw [if_neg (by simp <;> omega)]
   by_cases h4 : M - vs.length < u
   ·rw [if_pos (by simp <;> omega)]
    refine bad fun l hg => ?_
    obtain ⟨v, r, _, _, _, _, _, e5⟩ := hgood2 l hg
    omega
   ·rw [if_neg (by simp <;> omega), if_pos (by omega)]
    simp only [Int.toNat_natCast, List.take_length]
    refine Gets.bind (a9n (n := n) (t := t) ht (g2.drop k) (by simp <;> omega) (by omega)) fun y hy => ?_
    unfold OneP at hy
    cases hf : a3s t (rest.drop k) with
    | none =>
     rw [hf] at hy
     obtain ⟨v, k, rfl⟩ := hy
     dsimp only
     rw [if_pos (by simp)]
     refine bad fun l hg => ?_
     obtain ⟨v, r, _, e1, e2, e3, _⟩ := hgood2 l hg
     rw [e1, b1o e2 e3] at hf
     cases hf
    | some q =>
     obtain ⟨v, k2⟩ := q
     rw [hf] at hy
     subst hy
     obtain ⟨q1, q2, q3, q4⟩ := b5c (by omega) (g2.drop k) hf
     rw [List.length_drop] at q3
     dsimp only
     cases hmay : mayV v with
     | false =>
      rw [if_pos (by simp)]
      refine bad fun l hg => ?_
      obtain ⟨v', r, _, e1, e2, e3, _⟩ := hgood2 l hg
      rw [e1] at hf
      obtain ⟨rfl, _⟩ := b4x e2 e3 hf
      rw [d5c e2] at hmay
      cases hmay
     | true =>
      rw [if_neg (by simp)]
      have hw2 : IntKind.i64.wrap ((k : Int) + (k2 : Int)) = ((k + k2 : Nat) : Int) := by
       rw [show ((k : Int) + (k2 : Int)) = ((k + k2 : Nat) : Int) by omega, a0x (by omega)]
      refine Gets.iter (I := fun s : List Vl × Int => ∃ i : Nat, i ≤ u ∧ s = (vs ++ List.replicate i v, (i : Int))) (μ := fun s => u - s.2.toNat) ⟨0, by omega, by simp⟩ (by simp <;> omega) ?_
      rintro rec2 _ ⟨i, hi, rfl⟩ hrec2
      dsimp only
      by_cases h6 : i < u
      ·rw [if_pos (by simp <;> omega), if_pos (by simp <;> omega)]
       refine hrec2 _ ⟨i + 1, by omega, ?_⟩ (by simp only [Int.toNat_natCast]; rw [show ((i : Int) + 1) = ((i + 1 : Nat) : Int) by omega, a2s (by omega)]; omega)
       rw [show ((i : Int) + 1) = ((i + 1 : Nat) : Int) by omega, a2s (by omega), List.append_assoc, ← List.replicate_succ']
      ·obtain rfl : i = u := by omega
       rw [if_neg (by simp <;> omega), hw2, if_pos (by omega)]
       simp only [Int.toNat_natCast]
       refine hrec _ ⟨rest.drop (k + k2), vs ++ List.replicate i v, rfl, by simp <;> omega, g2.drop _, by simp <;> omega, ?_, fun l hg => ?_⟩ (by simp <;> omega)
       ·intro x hx
        rcases List.mem_append.1 hx with hx | hx
        ·exact g4 x hx
        ·rw [List.eq_of_mem_replicate hx]; exact q1
       ·obtain ⟨v', r, e1, e2, e3, e4, e5, _⟩ := hgood2 l hg
        obtain ⟨e6, _⟩ := g5 l hg
        rw [e2] at hf
        obtain ⟨rfl, e7⟩ := b4x e3 e4 hf
        rw [← List.drop_drop, e2, e7]
        have hlen : (vs ++ List.replicate i v).length = vs.length + i := by simp
        have e8 : l.drop vs.length = List.replicate i v ++ r.drop (runN v r) := by
         rw [e5, e1, Nat.add_comm, List.replicate_succ, List.cons_append, ← b5o v r]
        have e9 : l.drop (vs.length + i) = r.drop (runN v r) := by
         rw [← List.drop_drop, e8, List.drop_left' (by simp)]
        rw [hlen, e9]
        refine ⟨?_, rfl⟩
        rw [List.take_add, ← e6, e8, List.take_left' (by simp)]
 ·rw [if_neg (by simp <;> omega)]
  refine Gets.some (.inl ⟨vs, rfl, g4, by omega, fun l hg => ?_⟩)
  have e1 := (g5 l hg).1
  have q3 := (d6b hg).2.2.1
  rwa [List.take_of_length_le (by omega)] at e1
theorem d0a {n : Nat} {t m : Int} {b : List Int} (ht : 1 ≤ t ∧ t ≤ 4) (hm : 0 ≤ m ∧ m ≤ 1000) (hb : a3o b) (hl : b.length < 1000000) (hn : 70000 ≤ n) :
  Gets (a4s n ((5:Int), t, m, b, ())) (d3r 5 t m b) := by
 have hro := a1t
 have bad : (∀ l, ¬ a4t 5 t m b l) → Gets (some ((([] : List Vl), false, ()), ())) (d3r 5 t m b) := fun h => Gets.some (.inr ⟨rfl, h⟩)
 obtain ⟨M, rfl⟩ : ∃ M : Nat, m = (M : Int) := ⟨_, (Int.toNat_of_nonneg (by omega)).symm⟩
 unfold a4s
 dsimp only
 rw [if_neg (by simp), if_neg (by simp), if_neg (by simp), if_neg (by simp), if_pos (by simp)]
 refine Gets.iter (I := fun s : List Int × List Vl × Int => ∃ (rest : List Int) (vs : List Vl) (last : Int), s = (rest, vs, last) ∧ (-9223372036854775808 ≤ last ∧ last ≤ 9223372036854775807) ∧ vs.length ≤ M ∧ a3o rest ∧ rest.length < 1000000 ∧ (∀ v, v ∈ vs → okV v) ∧
   ∀ l, a4t 5 t (M : Int) b l → vs = l.take vs.length ∧ rest = a6g last (l.drop vs.length))
  (μ := fun s => M - s.2.1.length) ⟨b, [], 0, rfl, by omega, by simp, hb, hl, by simp, fun l hg => ⟨by simp, by simpa using (d3j hg).2.2.2.2.2.2.symm⟩⟩ (by simp <;> omega) ?_
 rintro rec _ ⟨rest, vs, last, rfl, g0, g1, g2, g3, g4, g5⟩ hrec
 dsimp only
 by_cases h3 : vs.length < M
 ·rw [if_pos (by simp <;> omega), a7p g2 g3 (by omega)]
  simp only [Option.bind_some]
  have hgood : ∀ l, a4t 5 t (M : Int) b l → ∃ (hlt : vs.length < l.length), rest = putN (zig (c3q last l[vs.length].2.1)) ++ a6g l[vs.length].2.1 (l.drop (vs.length + 1)) ∧ a0r t l[vs.length] = true ∧ okV l[vs.length] ∧ t ≤ 2 := by
   intro l hg
   obtain ⟨_, e2⟩ := g5 l hg
   obtain ⟨_, _, q3, q0, q4, q5, _⟩ := d3j hg
   have hlt : vs.length < l.length := by omega
   rw [List.drop_eq_getElem_cons hlt] at e2
   exact ⟨hlt, e2, (a2x q4).2.2 _ (List.getElem_mem _), q5 _ (List.getElem_mem _), q0⟩
  cases htk : a4e rest with
  | none =>
   dsimp only
   rw [if_pos (by simp)]
   refine bad fun l hg => ?_
   obtain ⟨hlt, e1, _⟩ := hgood l hg
   rw [e1, a5w _ _ (a8h _ _)] at htk
   cases htk
  | some q =>
   obtain ⟨u, k⟩ := q
   have hT := a2y g2 htk
   have hK := b1p g2 htk
   dsimp only
   rw [if_neg (by simp), c3t hT.1]
   simp only [Option.bind_some]
   have hz := d7k hT.1
   have hnew := b8s (last + zag u)
   rw [if_pos (by omega), if_pos (by simp <;> omega)]
   simp only [Int.toNat_natCast, List.take_length]
   refine hrec _ ⟨rest.drop k, vs ++ [(t, IntKind.i64.wrap (last + zag u), [], ())], IntKind.i64.wrap (last + zag u), rfl, hnew, by simp <;> omega, g2.drop _, by simp <;> omega, ?_, fun l hg => ?_⟩ (by simp <;> omega)
   ·intro x hx
    rcases List.mem_append.1 hx with hx | hx
    ·exact g4 x hx
    ·simp at hx; subst hx; exact ⟨by omega, hnew, by simp, by simp⟩
   ·obtain ⟨hlt, e1, e2, e3, e4⟩ := hgood l hg
    obtain ⟨e5, _⟩ := g5 l hg
    have htk' := htk
    rw [e1, a5w _ _ (a8h _ _)] at htk'
    simp only [Option.some.injEq, Prod.mk.injEq] at htk'
    have e6 : IntKind.i64.wrap (last + zag u) = l[vs.length].2.1 := by
     rw [← htk'.1, b6p]; exact b9d e3.2.1
    have e7 := d3e e2 (by omega)
    rw [e6, ← e7, List.length_append, List.length_singleton, List.take_succ_eq_append_getElem hlt, ← e5]
    refine ⟨rfl, ?_⟩
    rw [e1, ← htk'.2]; simp
 ·rw [if_neg (by simp <;> omega)]
  refine Gets.some (.inl ⟨vs, rfl, g4, by omega, fun l hg => ?_⟩)
  have e1 := (g5 l hg).1
  have q3 := (d3j hg).2.2.1
  rwa [List.take_of_length_le (by omega)] at e1
theorem c3c {n : Nat} {t m : Int} {b : List Int} (ht : 1 ≤ t ∧ t ≤ 4) (hm : 0 ≤ m ∧ m ≤ 1000) (hb : a3o b) (hl : b.length < 1000000) (hn : 70000 ≤ n) :
  Gets (a6n n (t, m, b, ())) (d3r 4 t m b) := by
 have hro := a1t
 have bad : (∀ l, ¬ a4t 4 t m b l) → Gets (some ((([] : List Vl), false, ()), ())) (d3r 4 t m b) := fun h => Gets.some (.inr ⟨rfl, h⟩)
 obtain ⟨M, rfl⟩ : ∃ M : Nat, m = (M : Int) := ⟨_, (Int.toNat_of_nonneg (by omega)).symm⟩
 unfold a6n
 dsimp only
 by_cases h3 : M = 0
 ·subst h3
  have hnil : ∀ l, a4t 4 t (((0:Nat) : Int)) b l → l = [] := by
   intro l hg
   have := (d5g hg).2.2.1
   cases l with
   | nil => rfl
   | cons => simp at this; omega
  rw [if_pos (by simp)]
  by_cases h4 : (b.length : Int) = 0
  ·rw [show decide ((b.length : Int) = 0) = true by simpa using h4]
   exact Gets.some (.inl ⟨[], rfl, by simp, by simp, fun l hg => (hnil l hg).symm⟩)
  ·rw [show decide ((b.length : Int) = 0) = false by simpa using h4]
   refine bad fun l hg => ?_
   have := hnil l hg
   subst this
   have := (d5g hg).2.2.2.2.2.2
   rw [← this] at h4
   simp [b7c] at h4
 have hparts : ∀ l, a4t 4 t (M : Int) b l → l.length = M ∧ t ≤ 3 ∧ (∀ v, v ∈ l → a0r t v = true ∧ okV v) ∧ a4e b = some (zig (a3w l), (putN (zig (a3w l))).length) ∧ (putN (zig (a3w l))).length < b.length ∧
   b.getD (putN (zig (a3w l))).length 0 = ((a3j (a1z l) : Nat) : Int) ∧ b.drop ((putN (zig (a3w l))).length + 1) = a7j (a1z l) (a3j (a1z l)) ∧
   b4a (a7j (a1z l) (a3j (a1z l))) (M : Int) ((a3j (a1z l) : Nat) : Int) = (a1z l, true, ()) := by
  intro l hg
  obtain ⟨_, _, q3, q4, q5, q6, q7⟩ := d5g hg
  have hlm : l.length = M := by omega
  have hne : l ≠ [] := by rintro rfl; simp at hlm; omega
  rcases d0x hne q4 q5 q6 with h | h
  ·rw [q7, hlm] at h
   exact ⟨hlm, q4, a5m q5 q6, h⟩
  ·omega
 rw [if_neg (by simp <;> omega), a7p hb hl (by omega)]
 simp only [Option.bind_some]
 cases htk : a4e b with
 | none =>
  dsimp only
  rw [if_pos (by simp)]
  refine bad fun l hg => ?_
  rw [(hparts l hg).2.2.2.1] at htk
  cases htk
 | some q =>
  obtain ⟨u, k⟩ := q
  have hT := a2y hb htk
  dsimp only
  rw [if_neg (by simp)]
  by_cases h4 : b.length ≤ k
  ·rw [if_pos (by simp <;> omega)]
   refine bad fun l hg => ?_
   obtain ⟨_, _, _, e1, e2, _⟩ := hparts l hg
   rw [e1] at htk
   simp only [Option.some.injEq, Prod.mk.injEq] at htk
   omega
  have hk : k < b.length := by omega
  obtain ⟨c, hc1, hc2, hc3⟩ := hb.get hk
  rw [if_neg (by simp <;> omega), a0f (by omega), if_pos (by omega), a0g hk]
  simp only [Int.toNat_natCast, List.take_length]
  rw [hc1, a0x (by omega), b0q (hb.drop _) (by simp <;> omega) (by omega)]
  simp only [Option.bind_some]
  have hgood : ∀ l, a4t 4 t (M : Int) b l → u = zig (a3w l) ∧ b4a (b.drop (k + 1)) (M : Int) (c : Int) = (a1z l, true, ()) := by
   intro l hg
   obtain ⟨_, _, _, e1, e2, e3, e4, e5⟩ := hparts l hg
   rw [e1] at htk
   simp only [Option.some.injEq, Prod.mk.injEq] at htk
   obtain ⟨rfl, rfl⟩ := htk
   rw [hc1] at e3
   exact ⟨rfl, by rw [e4, e3]; exact e5⟩
  obtain ⟨al, aok, hab⟩ : ∃ al aok, b4a (b.drop (k + 1)) (M : Int) (c : Int) = (al, aok, ()) := ⟨_, _, rfl⟩
  rw [hab] at hgood ⊢
  have hal : aok = true → al.length = M ∧ Nums al := by
   intro h
   unfold b4a at hab
   split at hab
   ·rename_i hcnd
    simp only [Prod.mk.injEq] at hab
    rw [← hab.1]
    refine ⟨?_, b2z (by simp <;> omega)⟩
    rw [b0o]; simp
   ·simp only [Prod.mk.injEq] at hab
    rw [← hab.2.1] at h; cases h
  cases aok with
  | false =>
   rw [if_pos (by simp)]
   refine bad fun l hg => ?_
   have := (hgood l hg).2
   simp at this
  | true =>
   obtain ⟨hal1, hal2⟩ := hal rfl
   rw [if_neg (by simp)]
   have hz := d7k hT.1
   refine Gets.iter (I := fun s : List Vl × Int => ∃ i : Nat, i ≤ M ∧ s = ((al.take i).map (fun a => (t, IntKind.i64.wrap (IntKind.u64.wrap (IntKind.u64.wrap (zag u) + a)), [], ())), (i : Int))) (μ := fun s => M - s.2.toNat) ⟨0, by omega, by simp⟩ (by simp <;> omega) ?_
   rintro rec _ ⟨i, hi, rfl⟩ hrec
   dsimp only
   by_cases h5 : i < M
   ·have h6 : i < al.length := by omega
    rw [if_pos (by simp <;> omega), c3t hT.1]
    simp only [Option.bind_some, Int.toNat_natCast]
    rw [a0g h6, a0i h6, if_pos (by simp <;> omega), a0f (by omega)]
    exact hrec _ ⟨i + 1, by omega, by rw [map_take _ h6]⟩ (by simp <;> omega)
   ·obtain rfl : i = M := by omega
    rw [if_neg (by simp <;> omega), List.take_of_length_le (by omega)]
    refine Gets.some (.inl ⟨_, rfl, ?_, by simp <;> omega, fun l hg => ?_⟩)
    ·intro v hv
     obtain ⟨a, _, rfl⟩ := List.mem_map.1 hv
     exact ⟨by omega, b8s _, by simp, by simp⟩
    ·obtain ⟨e1, e2⟩ := hgood l hg
     simp only [Prod.mk.injEq, and_true] at e2
     obtain ⟨_, q2, q3, _⟩ := hparts l hg
     rw [e2, e1]
     unfold a1z
     rw [List.map_map]
     conv => rhs; rw [← List.map_id l]
     refine List.map_congr_left fun v hv => ?_
     obtain ⟨r1, r2⟩ := q3 v hv
     simp only [Function.comp_apply, id, b6p]
     have e3 : IntKind.i64.wrap (IntKind.u64.wrap (IntKind.u64.wrap (a3w l) + (v.2.1 - a3w l))) = v.2.1 := by
      have := r2.2.1
      rw [a2g, a2g, a8i]
      omega
     rw [e3]
     exact (d3e r1 (by omega)).symm
end Go.Rb.R4

namespace Go.Rb.R4
open Go.Rb
theorem d3a {n : Nat} {e t m : Int} {b : List Int} (ht : 1 ≤ t ∧ t ≤ 4) (hm : 0 ≤ m ∧ m ≤ 1000) (hb : a3o b) (hl : b.length < 1000000) (hn : 70000 ≤ n) :
  Gets (a4s n (e, t, m, b, ())) (d3r e t m b) := by
 by_cases c1 : e = 1
 ·subst c1; exact d0d ht hm hb hl hn
 by_cases c2 : e = 2
 ·subst c2; exact c9z ht hm hb hl hn
 by_cases c5 : e = 5
 ·subst c5; exact d0a ht hm hb hl hn
 unfold a4s
 dsimp only
 rw [if_neg (by simpa using c1), if_neg (by simpa using c2)]
 by_cases c3 : e = 3
 ·subst c3
  rw [if_pos (by simp)]
  obtain ⟨y, hy1, hy2⟩ := c3r (n := n) (m := m) ht hm hb hl hn
  have only : ∀ l, a4t 3 t m b l → y = ((l, true, ()), ()) := by
   intro l hg
   obtain ⟨g1, g2, g3, g4, g5, g6⟩ := f5r.1 hg
   have h := c3d (n := n) g5 g4 (by omega) hn
   rw [g6, g3, hy1] at h
   exact Option.some.inj h
  rw [hy1]
  simp only [Option.bind_some]
  rcases hy2 with ⟨l, rfl, hv, hll⟩ | rfl
  ·refine Gets.some (.inl ⟨l, rfl, hv, hll, fun l' hg => ?_⟩)
   have h := only l' hg
   simp only [Prod.mk.injEq] at h
   exact h.1.1
  ·refine Gets.some (.inr ⟨rfl, fun l' hg => ?_⟩)
   have h := only l' hg
   simp at h
 rw [if_neg (by simpa using c3)]
 by_cases c4 : e = 4
 ·subst c4
  rw [if_pos (by simp)]
  refine Gets.bind (c3c ht hm hb hl hn) ?_
  rintro ⟨⟨l, ok, u⟩, u2⟩ h
  exact Gets.some h
 rw [if_neg (by simpa using c4), if_neg (by simpa using c5)]
 refine Gets.some (.inl ⟨[], rfl, by simp, by simp, fun l hg => ?_⟩)
 have := hg.2.2.2.1
 simp [a6x, c1, c2, c3, c4, c5] at this
theorem c8i {n : Nat} {e t m : Int} {b : List Int} (hb : a3o b) (hl : b.length < 1000000) (hn : 70000 ≤ n) :
  Gets (a8q n (e, t, m, b, ())) (d9r e t m b) := by
 have bad : (∀ l, ¬ a4t e t m b l) → Gets (some ((([] : List Vl), false, ()), ())) (d9r e t m b) := fun h => Gets.some (.inr ⟨rfl, h⟩)
 unfold a8q
 dsimp only
 by_cases h1 : m < 0
 ·rw [if_pos (by simpa using h1)]
  exact bad fun l hg => by have := hg.1; omega
 rw [if_neg (by simpa using h1)]
 by_cases h2 : 1000 < m
 ·rw [if_pos (by simpa using h2)]
  exact bad fun l hg => by have := hg.2.1; omega
 rw [if_neg (by simpa using h2), b0v]
 simp only [Option.bind_some]
 cases hT : isT t with
 | false =>
  rw [if_pos (by simp)]
  refine bad fun l hg => ?_
  obtain ⟨q1, q2, _⟩ := a2x hg.2.2.2.2.1
  rw [c8e.2 ⟨q1, q2⟩] at hT
  cases hT
 | true =>
  have ht := c8e.1 hT
  rw [if_neg (by simp)]
  refine Gets.bind (d3a (n := n) (e := e) (m := m) ht ⟨by omega, by omega⟩ hb hl hn) fun y hy => ?_
  rcases hy with ⟨l, rfl, hv, hll, only⟩ | ⟨rfl, hno⟩
  ·dsimp only
   rw [b6d hv hll (by omega)]
   simp only [Option.bind_some]
   rw [if_neg (by simp)]
   by_cases hr : a6x e t = true ∧ a1k t l = true
   rotate_left
   ·rw [if_neg hr, if_pos (by simp)]
    refine bad fun l' hg => ?_
    have := only l' hg
    subst this
    exact hr ⟨hg.2.2.2.1, hg.2.2.2.2.1⟩
   ·rw [if_pos hr]
    dsimp only
    rw [if_neg (by simp)]
    by_cases h3 : (l.length : Int) = m
    ·rw [if_neg (by simpa using h3)]
     by_cases h4 : encB e t l = b
     ·rw [if_neg (by simpa using h4)]
      exact Gets.some (.inl ⟨l, rfl, by omega, by omega, h3, hr.1, hr.2, hv, h4⟩)
     ·rw [if_pos (by simpa using h4)]
      refine bad fun l' hg => ?_
      have := only l' hg
      subst this
      exact h4 hg.2.2.2.2.2.2
    ·rw [if_pos (by simpa using h3)]
     refine bad fun l' hg => ?_
     have := only l' hg
     subst this
     exact h3 hg.2.2.1
  ·dsimp only
   rw [b6d (l := []) (by simp) (by simp) (by omega)]
   simp only [Option.bind_some]
   rw [if_pos (by simp)]
   exact bad hno
theorem c5k {n : Nat} {b : List Int} {m : Int} (hb : a3o b) (hl : b.length < 1000000) (hn : 70000 ≤ n) : a5t n (b, m, ()) = some (a9m b m, ()) := by
 have hro := a1t
 unfold a5t a9m
 dsimp only
 rw [b0q hb hl (by omega)]
 simp only [Option.bind_some]
 have hbl : ∀ M : Nat, (b0p b M).map b2i = b0y b M 1 := by
  intro M
  unfold b0p b0y
  rw [List.map_map]
  refine List.map_congr_left fun i _ => ?_
  have h2 : a5v (bitB b) (i * 1) 1 = bitB b i := by simp [a5v]
  rw [h2]
  have h3 : bitB b i < 2 := by unfold bitB; omega
  simp only [Function.comp_apply, b2i]
  by_cases h : bitB b i = 1
  ·simp [h]
  ·have : bitB b i = 0 := by omega
   simp [this]
 have hbb : ∀ M : Nat, b2h (b0p b M) = a7j (b0y b M 1) 1 := fun M => by unfold b2h; rw [hbl]
 by_cases hc : 0 ≤ m ∧ m ≤ 1000 ∧ b.length = (m.toNat + 7) / 8 ∧ b2h (b0p b m.toNat) = b
 ·rw [if_pos hc]
  obtain ⟨c1, c2, c3, c4⟩ := hc
  obtain ⟨M, rfl⟩ : ∃ M : Nat, m = (M : Int) := ⟨_, (Int.toNat_of_nonneg c1).symm⟩
  rw [Int.toNat_natCast] at c3 c4 ⊢
  rw [hbb] at c4
  have hT : b4a b (M : Int) 1 = (b0y b M 1, true, ()) := by
   unfold b4a
   rw [Int.toNat_natCast, show (1 : Int).toNat = 1 from rfl, if_pos ⟨by omega, by omega, by omega, by omega, by omega, c4⟩]
  rw [hT]
  dsimp only
  rw [if_neg (by simp), if_pos (by omega)]
  have hlen := b0o b M 1
  refine a0z (st := fun i => ((b0p b M).take i ++ List.replicate (M - i) false, (i : Int))) M (by simp) ?_ ?_ (by omega)
  ·intro rec i hi
   have hset : ((b0p b M).take i ++ List.replicate (M - i) false).set i (decide (bitB b i = 1)) = (b0p b M).take (i + 1) ++ List.replicate (M - (i + 1)) false := by
    have hti : ((b0p b M).take i).length = i := by rw [List.length_take, a7e]; omega
    have h0 : List.set ((b0p b M).take i ++ List.replicate (M - i) false) i (decide (bitB b i = 1)) = (b0p b M).take i ++ (List.replicate (M - i) false).set 0 (decide (bitB b i = 1)) := by
     rw [List.set_append_right _ _ (by omega), hti, Nat.sub_self]
    rw [h0, List.take_succ_eq_append_getElem (by rw [a7e]; exact hi), show M - i = (M - (i + 1)) + 1 by omega, List.replicate_succ, List.set_cons_zero]
    simp [b0p]
   have hget : (b0y b M 1)[i]'(by omega) = ((bitB b i : Nat) : Int) := by
    simp [b0y, a5v]
   have hdec : decide (((bitB b i : Nat) : Int) = 1) = decide (bitB b i = 1) := by
    by_cases h : bitB b i = 1
    ·simp [h]
    ·have : ¬ (((bitB b i : Nat) : Int) = 1) := by omega
     simp only [h, this, decide_false]
   have e1 : (1 : Int).toNat = 1 := rfl
   dsimp only
   rw [if_pos (by simp <;> omega), a0g (by omega), a0g (by simp only [List.length_append, List.length_take, a7e, List.length_replicate]; omega), a0f (by omega)]
   simp only [Int.toNat_natCast]
   simp only [a0i (show i < (b0y b M 1).length by omega), hget]
   rw [hdec, hset]
  ·intro rec
   dsimp only
   rw [if_neg (by simp), Nat.sub_self, List.replicate_zero, List.append_nil, List.take_of_length_le (by rw [a7e]; omega)]
 ·have hT : b4a b m 1 = ([], false, ()) := by
   unfold b4a
   rw [if_neg]
   rintro ⟨c1, c2, c3, c4, c5, c6⟩
   refine hc ⟨by omega, by omega, ?_, ?_⟩
   ·have e1 : (1 : Int).toNat = 1 := rfl
    rw [e1, Nat.mul_one] at c5
    exact c5
   ·rw [hbb]; exact c6
  rw [if_neg hc, hT]
  rfl
theorem d8e : ∀ {bs : List Bool} {l : List Vl}, (∀ v, v ∈ l → okV v) → ∀ v, v ∈ mixV bs l → okV v
 | [], _, _, v, hv => by simp [mixV] at hv
 | true :: bs, l, h, v, hv => by
  unfold mixV at hv
  rcases List.mem_cons.1 hv with rfl | hv
  ·exact d9q
  ·exact d8e h v hv
 | false :: bs, l, h, v, hv => by
  unfold mixV at hv
  rcases List.mem_cons.1 hv with rfl | hv
  ·cases l with
   | nil => exact d9q
   | cons x l => exact h _ (by simp)
  ·exact d8e (fun x hx => h x (List.mem_of_mem_tail hx)) v hv
theorem c7n : ∀ (bs : List Bool) (l : List Vl) (c : Bool), mixV (bs ++ [c]) l = mixV bs l ++ [if c = true then ((0:Int), (0:Int), [], ()) else (l.drop (bs.countP (fun b => !b))).headD ((0:Int), (0:Int), [], ())]
 | [], l, true => by simp [mixV]
 | [], l, false => by simp [mixV]
 | true :: bs, l, c => by
  rw [List.cons_append]
  unfold mixV
  rw [c7n bs l c, List.cons_append]
  congr 4
 | false :: bs, l, c => by
  rw [List.cons_append]
  unfold mixV
  rw [c7n bs l.tail c, List.cons_append]
  have e : (false :: bs).countP (fun b => !b) = bs.countP (fun b => !b) + 1 := by rw [List.countP_cons]; rfl
  rw [e, ← List.drop_one, List.drop_drop, Nat.add_comm 1]
theorem c0u {n : Nat} {t m : Int} {b : List Int} (hb : a3o b) (hl : b.length < 1000000) (hn : 1000000 ≤ n) :
  Gets (a3n n (t, m, b, ())) (d9p t m b) := by
 have hro := a1t
 have bad : (∀ l e, ¬ b3x t m b l e) → Gets (some ((([] : List Vl), (0:Int), false, ()), ())) (d9p t m b) := fun h => Gets.some (.inr ⟨rfl, h⟩)
 unfold a3n
 dsimp only
 by_cases h1 : m < 0
 ·rw [if_pos (by simpa using h1)]
  exact bad fun l e hg => by have := hg.1; omega
 rw [if_neg (by simpa using h1)]
 by_cases h2 : 1000 < m
 ·rw [if_pos (by simpa using h2)]
  exact bad fun l e hg => by have := hg.2.1; omega
 rw [if_neg (by simpa using h2)]
 obtain ⟨M, rfl⟩ : ∃ M : Nat, m = (M : Int) := ⟨_, (Int.toNat_of_nonneg (by omega)).symm⟩
 by_cases h3 : b.length < 2
 ·rw [if_pos (by simp <;> omega)]
  exact bad fun l e hg => by have := (a5j hg).2.1; omega
 rw [if_neg (by simp <;> omega)]
 obtain ⟨e, he1, he2, _⟩ := hb.get (i := 0) (by omega)
 obtain ⟨f, hf1, hf2, _⟩ := hb.get (i := 1) (by omega)
 have e0 : ((0:Int)).toNat = 0 := rfl
 have e1 : ((1:Int)).toNat = 1 := rfl
 have e2 : ((2:Int)).toNat = 2 := rfl
 rw [a8d (by omega) (by omega), e1, hf1]
 by_cases h4 : 1 < f
 ·rw [if_pos (by simp <;> omega)]
  refine bad fun l e hg => ?_
  have := (a5j hg).2.2.1
  rw [hf1] at this
  split at this <;> omega
 rw [if_neg (by simp <;> omega), a8d (by omega) (by omega), if_pos (by omega), if_pos (by omega), e0, he1, a0x (x := e) (by omega)]
 have hE : ∀ l e', b3x t (M : Int) b l e' → e' = (e : Int) := fun l e' hg => by rw [← (a5j hg).1, he1]
 refine Gets.join (I := fun s : List Bool × List Int => a3o s.2 ∧ s.2.length < 1000000 ∧ s.1.length = M ∧ ∀ l e', b3x t (M : Int) b l e' → s.1 = l.map isN ∧ s.2 = encB (e : Int) t (a4k l)) ?_ ?_
 ·rintro ⟨set, rest⟩ ⟨r1, r2, r3, r4⟩
  dsimp only at r1 r2 r3 r4 ⊢
  have hcnt : ∀ k, set.countP (fun b => b) = k → k ≤ M ∧ ∀ R, R = (fun x : Int => x = ((M - k : Nat) : Int)) → True := fun k hk => ⟨by have := List.countP_le_length (p := fun b : Bool => b) (l := set); omega, fun _ _ => trivial⟩
  refine Gets.iter (I := fun s : Int × Int => ∃ i : Nat, i ≤ M ∧ s = ((((set.take i).countP (fun b => !b) : Nat) : Int), (i : Int))) (μ := fun s => M - s.2.toNat) ⟨0, by omega, by simp⟩ (by simp <;> omega) ?_
  rintro rec _ ⟨i, hi, rfl⟩ hrec
  dsimp only
  have hc := List.countP_le_length (p := fun b : Bool => !b) (l := set.take i)
  have hti : (set.take i).length ≤ 1000 := by simp <;> omega
  by_cases h5 : i < M
  ·have h6 : i < set.length := by omega
   have hsuc : (set.take (i + 1)).countP (fun b => !b) = (set.take i).countP (fun b => !b) + (if (!set[i]) = true then 1 else 0) := by
    rw [List.take_succ_eq_append_getElem h6, List.countP_append, List.countP_singleton]
   rw [if_pos (by simp <;> omega), a0g h6]
   simp only [Int.toNat_natCast, a0i h6]
   rw [a0f (i := i) (by omega)]
   by_cases hx : (!set[i]) = true
   ·rw [if_pos hx, a0f (by omega)]
    rw [if_pos hx] at hsuc
    exact hrec _ ⟨i + 1, by omega, by rw [hsuc]⟩ (by simp <;> omega)
   ·rw [if_neg hx]
    rw [if_neg hx] at hsuc
    exact hrec _ ⟨i + 1, by omega, by rw [hsuc]; rfl⟩ (by simp <;> omega)
  obtain rfl : i = M := by omega
  rw [if_neg (by simp <;> omega), List.take_of_length_le (by omega)]
  obtain ⟨k, hk⟩ : ∃ k, set.countP (fun b => !b) = k := ⟨_, rfl⟩
  rw [hk]
  have hE2 : ∀ l e', b3x t (i : Int) b l e' → a4t (e : Int) t (k : Int) rest (a4k l) := by
   intro l e' hg
   obtain ⟨q1, q2⟩ := r4 l e' hg
   have h7 := hE l e' hg
   have g1 := hg.2.1
   have g2 := hg.2.2.1
   have g4 := hg.2.2.2.1
   have g5 := hg.2.2.2.2.1
   have g6 := hg.2.2.2.2.2.1
   obtain ⟨u1, u2, u3, _⟩ := b3u g4
   have h8 : (a4k l).length = k := by
    rw [← hk, q1, List.countP_map]
    unfold a4k
    rw [← List.countP_eq_length_filter]
    rfl
   have h9 := b8m l
   subst h7
   exact ⟨by omega, by omega, by omega, u1, a8a ⟨u2, u3⟩ g5, b1u g6, q2.symm⟩
  refine Gets.bind (c8i (n := n) (e := (e : Int)) (t := t) (m := (k : Int)) r1 r2 (by omega)) fun y hy => ?_
  rcases hy with ⟨sm, rfl, hsm⟩ | ⟨rfl, hno⟩
  rotate_left
  ·dsimp only
   rw [if_pos (by simp)]
   exact bad fun l e' hg => hno _ (hE2 l e' hg)
  dsimp only
  rw [if_neg (by simp)]
  have hsl : sm.length = k := by have := hsm.2.2.1; omega
  have hki : k ≤ i := by have := List.countP_le_length (p := fun b : Bool => !b) (l := set); omega
  refine Gets.iter (I := fun s : List Vl × List Vl × Int => ∃ j : Nat, j ≤ i ∧ s = (sm.drop ((set.take j).countP (fun b => !b)), mixV (set.take j) sm, (j : Int))) (μ := fun s => i - s.2.2.toNat) ⟨0, by omega, by simp [mixV]⟩ (by simp <;> omega) ?_
  rintro rec2 _ ⟨j, hj, rfl⟩ hrec2
  dsimp only
  by_cases h7 : j < i
  ·have h8 : j < set.length := by omega
   have htj : (set.take j).length = j := by rw [List.length_take]; omega
   have hml := c5m (set.take j) sm
   have hcj := List.countP_le_length (p := fun b : Bool => !b) (l := set.take j)
   have hsuc : (set.take (j + 1)).countP (fun b => !b) = (set.take j).countP (fun b => !b) + (if (!set[j]) = true then 1 else 0) := by
    rw [List.take_succ_eq_append_getElem h8, List.countP_append, List.countP_singleton]
   have hmix := c7n (set.take j) sm set[j]
   rw [← List.take_succ_eq_append_getElem h8] at hmix
   rw [if_pos (by simp <;> omega), a0g h8]
   simp only [Int.toNat_natCast, a0i h8, e1, e0]
   rw [a0f (by omega)]
   by_cases hx : (!set[j]) = true
   ·rw [if_pos hx]
    rw [if_pos hx] at hsuc
    have hlt : (set.take j).countP (fun b => !b) < sm.length := by
     have h9 : (set.take (j + 1)).countP (fun b => !b) ≤ set.countP (fun b => !b) := (List.take_sublist _ _).countP_le
     omega
    have hx' : set[j] = false := by simpa using hx
    rw [a8d (by omega) (by simp <;> omega), if_pos (by simp <;> omega), if_pos (by simp <;> omega)]
    refine hrec2 _ ⟨j + 1, by omega, ?_⟩ (by simp <;> omega)
    rw [hsuc, hmix, hx', List.take_length, List.drop_drop]
    simp [List.getD_eq_getElem?_getD, List.headD_eq_head?_getD, List.head?_drop]
   ·rw [if_neg hx]
    rw [if_neg hx] at hsuc
    have hx' : set[j] = true := by simpa using hx
    rw [if_pos (by simp <;> omega)]
    refine hrec2 _ ⟨j + 1, by omega, ?_⟩ (by simp <;> omega)
    rw [hsuc, hmix, hx']
    simp
  ·obtain rfl : j = i := by omega
   rw [if_neg (by simp <;> omega), List.take_of_length_le (l := set) (by omega)]
   obtain ⟨l, hl2⟩ : ∃ l, mixV set sm = l := ⟨_, rfl⟩
   have hll : l.length = j := by rw [← hl2, c5m]; exact r3
   have hok : ∀ v, v ∈ l → okV v := by rw [← hl2]; exact d8e hsm.2.2.2.2.2.1
   rw [hl2]
   have only : ∀ l' e', b3x t (j : Int) b l' e' → l' = l := by
    intro l' e' hg
    have h8 := (hE2 l' e' hg).uniq hsm
    rw [← hl2, ← h8, (r4 l' e' hg).1]
    exact (b8b hg.2.2.2.2.1).symm
   unfold a5y
   dsimp only
   rw [b7a hok (by omega) (by omega)]
   unfold b4q
   have fin : ∀ q : List Int × Bool × Unit, (q.2.1 = true → ∃ u, b7f (e : Int) t = some u ∧ l.all (a8c t) = true ∧ q.1 = colB u t l) → (∀ l' e', b3x t (j : Int) b l' e' → q.2.1 = true) → Gets (((some (q, ()) : Option ((List Int × Bool × Unit) × Unit)).map fun y => (y.1, l, ())).bind fun y8 => (if (!y8.1.2.1) = true then (some (([], (0:Int), false, ()), ())) else (if (!decide (y8.1.1 = b)) = true then (some (([], (0:Int), false, ()), ())) else (some ((y8.2.1, (e : Int), true, ()), ()))))) (d9p t (j : Int) b) := by
    rintro ⟨q1, q2, q3⟩ hq hq2
    simp only [Option.map_some, Option.bind_some]
    cases q2 with
    | false =>
     rw [if_pos (by simp)]
     exact bad fun l' e' hg => by have := hq2 l' e' hg; simp at this
    | true =>
     obtain ⟨u, w1, w2, w3⟩ := hq rfl
     dsimp only at w3
     subst w3
     rw [if_neg (by simp)]
     by_cases hcb : colB u t l = b
     ·rw [if_neg (by simpa using hcb)]
      have hue : u = (e : Int) := by
       have : b.getD 0 0 = u := by rw [← hcb]; unfold colB; split <;> rfl
       rw [← this, he1]
      subst hue
      exact Gets.some (.inl ⟨l, _, rfl, by omega, by omega, by omega, w1, List.all_eq_true.1 w2, hok, hcb⟩)
     ·rw [if_pos (by simpa using hcb)]
      refine bad fun l' e' hg => ?_
      have h8 := only l' e' hg
      have h9 := hE l' e' hg
      subst h8
      rw [h9] at hg
      rw [hg.2.2.2.1] at w1
      simp only [Option.some.injEq] at w1
      subst w1
      exact hcb hg.2.2.2.2.2.2
   have good : ∀ l' e', b3x t (j : Int) b l' e' → b7f (e : Int) t = some (e : Int) ∧ l.all (a8c t) = true := by
    intro l' e' hg
    have h8 := only l' e' hg
    have h9 := hE l' e' hg
    subst h8
    rw [h9] at hg
    exact ⟨hg.2.2.2.1, List.all_eq_true.2 hg.2.2.2.2.1⟩
   cases hu : b7f (e : Int) t with
   | none =>
    refine fin ([], false, ()) (by simp) fun l' e' hg => ?_
    have := (good l' e' hg).1
    rw [hu] at this
    cases this
   | some u =>
    dsimp only
    by_cases ha : l.all (a8c t) = true
    ·rw [if_pos ha]
     exact fin (colB u t l, true, ()) (fun _ => ⟨u, hu, ha, rfl⟩) fun _ _ _ => rfl
    ·rw [if_neg ha]
     refine fin ([], false, ()) (by simp) fun l' e' hg => absurd (good l' e' hg).2 ha
 ·intro J hJ
  have hmany : IntKind.i64.wrap ((IntKind.i64.wrap ((M : Int) + 7)).tdiv (8:Int)) = (((M + 7) / 8 : Nat) : Int) := by
   rw [show ((M : Int) + 7) = ((M + 7 : Nat) : Int) by omega, a0x (by omega), show ((8 : Int)) = ((8 : Nat) : Int) from rfl, a5x, a0x (by omega)]
  simp only [hmany, Int.toNat_natCast, List.take_length, e1, e2, e0, List.drop_zero, a8d (show (0:Int) ≤ 1 by omega) (show (1:Int) < (b.length : Int) by omega), hf1]
  by_cases h7 : f = 1
  ·subst h7
   rw [if_pos (by simp)]
   have hany : ∀ l e', b3x t (M : Int) b l e' → l.any isN = true := by
    intro l e' hg
    have h10 := (a5j hg).2.2.1
    rw [hf1] at h10
    cases h : l.any isN with
    | true => rfl
    | false => rw [h] at h10; simp at h10
   have hparts : ∀ l e', b3x t (M : Int) b l e' → b.drop 2 = b2h (l.map isN) ++ encB e' t (a4k l) ∧ (b2h (l.map isN)).length = (M + 7) / 8 ∧ l.length = M := by
    intro l e' hg
    have h12 := (a5j hg).2.2.2
    rw [hany l e' hg, if_pos rfl] at h12
    have h13 := b0r (l.map isN)
    have h14 := hg.2.2.1
    rw [List.length_map] at h13
    have hlM : l.length = M := by omega
    rw [hlM] at h13
    exact ⟨h12, h13, hlM⟩
   by_cases h8 : (b.drop 2).length < (M + 7) / 8
   ·rw [if_pos (by simp only [decide_eq_true_eq]; omega)]
    refine bad fun l e' hg => ?_
    obtain ⟨h12, h13, _⟩ := hparts l e' hg
    rw [h12, List.length_append] at h8
    omega
   ·rw [if_neg (by simp only [decide_eq_true_eq]; omega), if_pos (by omega), c5k ((hb.drop _).take _) (by simp <;> omega) (by omega)]
    simp only [Option.bind_some]
    have hback : ∀ l e', b3x t (M : Int) b l e' → a9m ((b.drop 2).take ((M + 7) / 8)) (M : Int) = (l.map isN, true, ()) ∧ (b.drop 2).drop ((M + 7) / 8) = encB e' t (a4k l) := by
     intro l e' hg
     obtain ⟨h12, h13, hlM⟩ := hparts l e' hg
     have h15 : (b.drop 2).take ((M + 7) / 8) = b2h (l.map isN) := by rw [h12, List.take_left' h13]
     have h16 : (b.drop 2).drop ((M + 7) / 8) = encB e' t (a4k l) := by rw [h12, List.drop_left' h13]
     have h17 := d0w (l.map isN)
     rw [List.length_map, hlM] at h17
     refine ⟨?_, h16⟩
     rw [h15]
     unfold a9m
     simp only [Int.toNat_natCast]
     have := hg.2.1
     rw [h17, if_pos ⟨by omega, by omega, h13, rfl⟩]
    obtain ⟨set, ok, hab⟩ : ∃ set ok, a9m ((b.drop 2).take ((M + 7) / 8)) (M : Int) = (set, ok, ()) := ⟨_, _, rfl⟩
    have hset : ok = true → set.length = M := by
     intro h
     unfold a9m at hab
     split at hab
     ·simp only [Prod.mk.injEq] at hab
      rw [← hab.1, a7e]; simp
     ·simp only [Prod.mk.injEq] at hab
      rw [← hab.2.1] at h; cases h
    rw [hab] at hback ⊢
    cases ok with
    | false =>
     rw [if_pos (by simp)]
     refine bad fun l e' hg => ?_
     have := (hback l e' hg).1
     simp at this
    | true =>
     rw [if_neg (by simp), if_pos (by omega)]
     refine hJ _ ⟨(hb.drop _).drop _, by simp <;> omega, hset rfl, fun l e' hg => ?_⟩
     obtain ⟨w1, w2⟩ := hback l e' hg
     simp only [Prod.mk.injEq, and_true] at w1
     dsimp only
     rw [w2, hE l e' hg]
     exact ⟨w1, rfl⟩
  ·rw [if_neg (by simp <;> omega)]
   refine hJ _ ⟨hb.drop _, by simp <;> omega, by simp <;> omega, fun l e' hg => ?_⟩
   have h10 := (a5j hg).2.2.1
   have h8 : l.any isN = false := by
    cases h : l.any isN with
    | false => rfl
    | true => rw [h, hf1, if_pos rfl] at h10; omega
   have h12 := (a5j hg).2.2.2
   rw [h8] at h12
   have h9 := b2s h8
   have := hg.2.2.1
   dsimp only
   rw [h9, h12, hE l e' hg]
   exact ⟨by congr 1; omega, rfl⟩
theorem e9b {n : Nat} {t m : Int} {b : List Int} (ht : -9223372036854775808 ≤ t ∧ t ≤ 9223372036854775807) (hb : a3o b) (hl : b.length < 1000000) (hn : 1000000 ≤ n) :
  ∃ l : List Vl, ∃ e : Int, ∃ ok : Bool, l.length ≤ 1000 ∧ a1c n (t, m, b, ()) = some ((l, e, ok, ()), ()) ∧ a3n n (t, m, b, ()) = some ((l, e, ok, ()), ()) := by
 obtain ⟨y, h1, h2⟩ := c1q (m := m) ht hb hl hn
 obtain ⟨z, h3, h4⟩ := c0u (t := t) (m := m) hb hl hn
 rcases h2 with ⟨l, e, rfl, hg⟩ | ⟨rfl, hno⟩
 ·rcases h4 with ⟨l', e', rfl, hg'⟩ | ⟨rfl, hno'⟩
  ·obtain ⟨rfl, rfl⟩ := hg.uniq hg'
   have := hg.2.1
   have := hg.2.2.1
   exact ⟨l, e, true, by omega, h1, h3⟩
  ·exact absurd hg (hno' l e)
 ·rcases h4 with ⟨l', e', rfl, hg'⟩ | ⟨rfl, hno'⟩
  ·exact absurd hg' (hno l' e')
  ·exact ⟨[], 0, false, by simp, h1, h3⟩
end Go.Rb.R4
