/- Plain law: the document's answer on numbers of few bytes and of few bits. Own work. -/
import Derived.Test.YtpkgjjdalliggaaGreatDoorLawD
import Derived.Test.YtpkgjjdalliggaaGreatDoorLawE
set_option autoImplicit false
set_option linter.unusedVariables false
set_option linter.unusedSimpArgs false
namespace Go.Rb.R4
open Go.Rb
theorem f4f {R : Type} {o : Option R} {r : R} (h : Gets o fun y => y = r) : o = some r := by
 obtain ⟨y, h1, rfl⟩ := h
 exact h1
def isT (t : Int) : Bool := decide (1 ≤ t) && decide (t ≤ 4)
theorem c9c {t : Int} : isT t = true ↔ 1 ≤ t ∧ t ≤ 4 := by simp [isT]
theorem b0p (n : Nat) (t : Int) : a1k n (t, ()) = some ((isT t, ()), ()) := by
 unfold a1k isT
 dsimp only
 by_cases h : 1 ≤ t <;> simp [h]
theorem d1k (n : Nat) (v : Vl) : a6i n (v, ()) = some ((mayV v, ()), ()) := by
 obtain ⟨a, b, c, u⟩ := v
 unfold a6i mayV
 dsimp only
 by_cases h1 : a = 1
 ·subst h1
  by_cases h2 : -32768 ≤ b
  ·by_cases h3 : b ≤ 32767 <;> simp [h2, h3]
  ·simp [h2]
 ·by_cases h2 : a = 2
  ·subst h2; simp
  ·by_cases h3 : a = 0
   ·subst h3
    by_cases h4 : b = 0 <;> simp [h4]
   ·by_cases h4 : a = 3
    ·subst h4
     by_cases h5 : b = 0
     ·simp [h5]
     ·by_cases h6 : b = 1 <;> simp [h5, h6]
    ·by_cases h5 : a = 4
     ·subst h5
      by_cases h6 : b = 0
      ·have : ((c.length : Int) ≤ 20) ↔ c.length ≤ 20 := by omega
       simp [h6, this]
      ·simp [h6]
     ·simp [h1, h2, h3, h4, h5]
theorem a9a {n v : Nat} (hv : v < 18446744073709551616) (hn : 10 ≤ n) : a1g n ((v : Int), ()) = some ((putN v, ()), ()) := by
 unfold a1g
 refine (a9n (I := fun k (s : Int × List Int) => ∃ v : Nat, s.1 = (v : Int) ∧ v < 128 ^ (k + 1) ∧ v < 18446744073709551616 ∧ s.2.length + k ≤ 1000)
  (res := fun s => some ((s.2 ++ putN s.1.toNat, ()), ())) ?_ n 9 _ ⟨v, rfl, by omega, hv, by simp⟩ (by omega)).trans (by simp)
 rintro k ⟨a, acc⟩ rec ⟨v, rfl, h1, h2, h3⟩ hrec
 dsimp only at h3
 have hr := a1s
 dsimp only
 by_cases h : v < 128
 ·rw [if_neg (by simp; omega), if_pos (by simp; omega)]
  rw [Int.toNat_natCast, a5e h, b3j (by omega)]
 ·obtain ⟨k, rfl⟩ : ∃ k', k = k' + 1 := ⟨k - 1, by
   rcases Nat.eq_zero_or_pos k with h0 | h0
   ·subst h0; omega
   ·omega⟩
  rw [if_pos (by simp; omega), if_pos (by simp; omega)]
  have e1 : IntKind.u8.wrap ((IntKind.u8.wrap ((v : Int).tmod (128:Int))) + 128) = ((v % 128 + 128 : Nat) : Int) := by
   rw [show (v : Int).tmod (128:Int) = ((v % 128 : Nat) : Int) from a9o v 128, b3j (by omega), show (((v % 128 : Nat) : Int) + 128) = ((v % 128 + 128 : Nat) : Int) by omega, b3j (by omega)]
  have e2 : IntKind.u64.wrap ((v : Int).tdiv (128:Int)) = ((v / 128 : Nat) : Int) := by
   rw [show (v : Int).tdiv (128:Int) = ((v / 128 : Nat) : Int) from a5z v 128, a2u (by omega)]
  rw [e1, e2]
  rw [hrec k _ (by omega) ⟨v / 128, rfl, by rw [Nat.pow_succ] at h1; omega, by omega, by simp; omega⟩]
  simp only [Int.toNat_natCast]
  rw [a9j (v := v) (by omega)]
  simp
theorem c3v {v : Int} (h1 : -9223372036854775808 ≤ v) (h2 : v ≤ 9223372036854775807) (n : Nat) : a5r n (v, ()) = some ((((zig v : Nat) : Int), ()), ()) := by
 unfold a5r zig
 dsimp only
 by_cases h : v < 0
 ·rw [if_pos (by simpa using h), if_neg (by omega), a1x (x := v + 1) (by omega) (by omega), a1x (x := 0 - (v + 1)) (by omega) (by omega)]
  simp only [a2g]
  congr 3
  omega
 ·rw [if_neg (by simpa using h), if_pos (by omega)]
  simp only [a2g]
  congr 3
  omega
theorem c3h {u : Nat} (h : u < 18446744073709551616) (n : Nat) : a7j n ((u : Int), ()) = some ((zag u, ()), ()) := by
 unfold a7j zag
 dsimp only
 rw [show ((u : Int)).tmod (2:Int) = ((u % 2 : Nat) : Int) from a9o u 2, show ((u : Int)).tdiv (2:Int) = ((u / 2 : Nat) : Int) from a5z u 2, a2u (by omega), a0x (by omega)]
 by_cases h1 : u % 2 = 0
 ·rw [if_neg (by simp; omega), if_pos h1]
 ·rw [if_pos (by simp; omega), if_neg h1, a1x (x := 0 - ((u / 2 : Nat) : Int)) (by omega) (by omega), a1x (by omega) (by omega)]
  congr 3
  omega
def c3n : List Int → Nat
 | [] => 0
 | x :: l => x.toNat % 128 + 128 * c3n l
theorem e7d : ∀ v, c3n (putN v) = v := by
 intro v
 induction v using Nat.strongRecOn with
 | ind v ih =>
  by_cases h : v < 128
  ·rw [a5e h]; simp [c3n]; omega
  ·rw [a9j (by omega)]
   simp only [c3n, Int.toNat_natCast]
   rw [ih (v / 128) (by omega)]
   omega
theorem d0k : ∀ (v i : Nat) (hi : i < (putN v).length), (i + 1 < (putN v).length → 128 ≤ (putN v)[i]) ∧ (i + 1 = (putN v).length → (putN v)[i] < 128) := by
 intro v
 induction v using Nat.strongRecOn with
 | ind v ih =>
  intro i hi
  by_cases h : v < 128
  ·have e := a5e h
   rw [List.getElem_of_eq e]
   have hl : (putN v).length = 1 := by rw [e]; rfl
   have : i = 0 := by omega
   subst this
   simp
   omega
  ·have e := a9j (show 128 ≤ v by omega)
   rw [List.getElem_of_eq e]
   have hl : (putN v).length = (putN (v / 128)).length + 1 := by rw [e]; rfl
   have h1 := b5w (v / 128)
   cases i with
   | zero =>
    simp only [List.getElem_cons_zero]
    omega
   | succ i =>
    simp only [List.getElem_cons_succ]
    have := ih (v / 128) (by omega) i (by omega)
    exact ⟨fun h => this.1 (by omega), fun h => this.2 (by omega)⟩
theorem c6z {b : List Int} (hb : a3p b) {v k : Nat} (h : a4f b = some (v, k)) : 1 ≤ k ∧ k ≤ 10 ∧ k ≤ b.length ∧ b.take k = putN v ∧ v < 18446744073709551616 ∧ ∀ i (hi : i < b.length), (i + 1 < k → 128 ≤ b[i]) ∧ (i + 1 = k → b[i] < 128) := by
 obtain ⟨h1, h2, h3⟩ := a2x hb h
 obtain ⟨h4, _⟩ := b1i hb h
 have h5 := b5w v
 have h6 := a4j h1
 refine ⟨by omega, by omega, h2, h3, h1, fun i hi => ?_⟩
 have key : ∀ (hik : i < k), b[i] = (putN v)[i]'(by omega) := by
  intro hik
  rw [← List.getElem_of_eq h3 (by rw [List.length_take]; omega), List.getElem_take]
 exact ⟨fun hk => by rw [key (by omega)]; exact (d0k v i (by omega)).1 (by omega), fun hk => by rw [key (by omega)]; exact (d0k v i (by omega)).2 (by omega)⟩
theorem a7k {n : Nat} {b : List Int} (hb : a3p b) (hl : b.length < 1000000) (hn : 13 ≤ n) :
  a2m n (b, ()) = some (match a4f b with | some (v, k) => ((v : Int), (k : Int), true, ()) | none => (0, 0, false, ()), ()) := by
 apply f4f
 unfold a2m
 dsimp only
 refine Gets.iter (I := fun s : Int => ∃ i : Nat, s = ((i + 1 : Nat) : Int) ∧ i ≤ 10 ∧ i ≤ b.length ∧ ∀ j (hj : j < b.length), j < i → 128 ≤ b[j]) (μ := fun s => 12 - s.toNat) ⟨0, rfl, by omega, by omega, by omega⟩ (by simp; omega) ?_
 rintro rec _ ⟨i, rfl, hi1, hi2, hall⟩ hrec
 have stop : (10 ≤ i ∨ b.length ≤ i) → a4f b = none := by
  intro h
  cases htk : a4f b with
  | none => rfl
  | some r =>
   obtain ⟨v, k⟩ := r
   obtain ⟨g1, g2, g3, _, _, g4⟩ := c6z hb htk
   have h1 := (g4 (k - 1) (by omega)).2 (by omega)
   have h2 := hall (k - 1) (by omega) (by omega)
   omega
 by_cases h10 : i < 10
 rotate_left
 ·rw [if_neg (by simp; omega), stop (by omega)]
  exact Gets.some rfl
 rw [if_pos (by simp; omega)]
 by_cases hlen : i < b.length
 rotate_left
 ·rw [if_neg (by simp; omega), stop (by omega)]
  exact Gets.some rfl
 have e0 : IntKind.i64.wrap (((i + 1 : Nat) : Int) - 1) = (i : Int) := by rw [show (((i + 1 : Nat) : Int) - 1) = (i : Int) by omega, a0x (by omega)]
 obtain ⟨c, hc1, hc2, hc3⟩ := hb.get (i := i) hlen
 rw [if_pos (by simp; omega), e0, a0f hlen, Int.toNat_natCast, hc1]
 by_cases hc : 128 ≤ c
 ·rw [if_pos (by simp; omega), a0g (by omega)]
  refine hrec _ ⟨i + 1, rfl, by omega, by omega, fun j hj hji => ?_⟩ (by simp; omega)
  rcases Nat.lt_or_ge j i with h | h
  ·exact hall j hj h
  ·obtain rfl : j = i := by omega
   omega
 rw [if_neg (by simp; omega)]
 have hHlt : c3n (b.take (i + 1)) % 18446744073709551616 < 18446744073709551616 := Nat.mod_lt _ (by omega)
 have fin : ∀ s4 : Int × Int, s4 = (((c3n (b.take (i + 1)) % 18446744073709551616 : Nat) : Int), (-1 : Int)) → Gets ((a1g n (s4.1, ())).bind fun y5 => (if 0 ≤ ((i + 1 : Nat) : Int) ∧ ((i + 1 : Nat) : Int) ≤ (b.length : Int) then (if (!decide (y5.1.1 = ((b.take ((i + 1 : Nat) : Int).toNat).drop (0:Int).toNat))) = true then (some (((0:Int), (0:Int), false, ()), ())) else (some ((s4.1, ((i + 1 : Nat) : Int), true, ()), ()))) else none)) (fun y => y = (match a4f b with | some (v, k) => ((v : Int), (k : Int), true, ()) | none => (0, 0, false, ()), ())) := by
  rintro _ rfl
  dsimp only
  rw [a9a hHlt (by omega)]
  simp only [Option.bind_some]
  rw [if_pos (by omega), Int.toNat_natCast]
  by_cases heq : putN (c3n (b.take (i + 1)) % 18446744073709551616) = b.take (i + 1)
  ·rw [if_neg (by simp [heq])]
   have e : a4f b = some (c3n (b.take (i + 1)) % 18446744073709551616, i + 1) := by
    have h1 := a5w (c3n (b.take (i + 1)) % 18446744073709551616) (b.drop (i + 1)) hHlt
    rw [heq, List.take_append_drop, List.length_take, Nat.min_eq_left (by omega)] at h1
    exact h1
   rw [e]
   exact Gets.some rfl
  ·rw [if_pos (by simpa using heq)]
   have e : a4f b = none := by
    cases htk : a4f b with
    | none => rfl
    | some r =>
     obtain ⟨v, k⟩ := r
     obtain ⟨g1, g2, g3, g5, g6, g4⟩ := c6z hb htk
     have hk : k = i + 1 := by
      rcases Nat.lt_trichotomy k (i + 1) with h | h | h
      ·have h1 := (g4 (k - 1) (by omega)).2 (by omega)
       have h2 := hall (k - 1) (by omega) (by omega)
       omega
      ·exact h
      ·have h1 := (g4 i (by omega)).1 h
       omega
     subst hk
     exact absurd (by rw [g5, e7d, Nat.mod_eq_of_lt g6]) heq
   rw [e]
   exact Gets.some rfl
 refine Gets.iter (I := fun s : Int × Int => ∃ j : Nat, j ≤ i + 1 ∧ s = (((c3n ((b.take (i + 1)).drop j) % 18446744073709551616 : Nat) : Int), (j : Int) - 1)) (μ := fun s => (s.2 + 1).toNat) ⟨i + 1, by omega, ?_⟩ (by simp; omega) ?_
 ·have : (b.take (i + 1)).drop (i + 1) = [] := by rw [List.drop_eq_nil_iff]; simp; omega
  rw [this]
  simp [c3n]
 ·rintro rec2 _ ⟨j, hj, rfl⟩ hrec2
  dsimp only
  cases j with
  | zero =>
   rw [if_neg (by simp)]
   exact fin (((c3n ((b.take (i + 1)).drop 0) % 18446744073709551616 : Nat) : Int), ((0 : Nat) : Int) - 1) (by simp)
  | succ j =>
   have hjl : j < (b.take (i + 1)).length := by simp; omega
   obtain ⟨d, hd1, hd2, hd3⟩ := hb.get (i := j) (by omega)
   have hcons : (b.take (i + 1)).drop j = (d : Int) :: (b.take (i + 1)).drop (j + 1) := by
    rw [List.drop_eq_getElem_cons hjl, List.getElem_take, hd3]
   have ej : (((j + 1 : Nat) : Int) - 1) = (j : Int) := by omega
   rw [ej, if_pos (by simp), a0f (by omega), Int.toNat_natCast, hd1]
   refine hrec2 _ ⟨j, by omega, ?_⟩ (by dsimp only; rw [a1x (x := (j : Int) - 1) (by omega) (by omega)]; omega)
   rw [hcons]
   simp only [c3n, Int.toNat_natCast]
   rw [a1x (x := (j : Int) - 1) (by omega) (by omega), show ((d : Int)).tmod (128:Int) = ((d % 128 : Nat) : Int) from a9o d 128]
   simp only [a2g]
   congr 1
   omega
theorem b4m {n v : Nat} (hv : v < 18446744073709551616) (hn : 64 < n) : a5d n ((v : Int), ()) = some ((((blen v : Nat) : Int), ()), ()) := by
 unfold a5d
 refine (a9n (I := fun k (s : Int × Int) => ∃ v m : Nat, s = ((v : Int), (m : Int)) ∧ v < 2 ^ k ∧ v < 18446744073709551616 ∧ m + k ≤ 1000)
  (res := fun s => some ((s.2 + ((blen s.1.toNat : Nat) : Int), ()), ())) ?_ n 64 _ ⟨v, 0, rfl, by omega, hv, by omega⟩ (by omega)).trans (by simp)
 rintro k _ rec ⟨v, m, rfl, h1, h2, h3⟩ hrec
 dsimp only
 by_cases h : v = 0
 ·subst h
  rw [if_neg (by simp)]
  simp [c6v]
 ·obtain ⟨k, rfl⟩ : ∃ k', k = k' + 1 := ⟨k - 1, by
   rcases Nat.eq_zero_or_pos k with h0 | h0
   ·subst h0; simp at h1; omega
   ·omega⟩
  rw [if_pos (by simp; omega), show ((v : Int)).tdiv (2:Int) = ((v / 2 : Nat) : Int) from a5z v 2, a2u (by omega), a0g (by omega)]
  rw [hrec k _ (by omega) ⟨v / 2, m + 1, rfl, by rw [Nat.pow_succ] at h1; omega, by omega, by omega⟩]
  simp only [Int.toNat_natCast]
  rw [c5y (v := v) (by omega)]
  congr 3
  omega
theorem c4u {n : Nat} {l : List Int} (hl : Nums l) (hn : l.length < n) (hn2 : 64 < n) (hc : l.length < 1000000) : a5u n (l, ()) = some ((((a3j l : Nat) : Int), ()), ()) := by
 unfold a5u
 dsimp only
 refine a0z (st := fun i => (((a3j (l.take i) : Nat) : Int), (i : Int))) l.length (by simp [a3j]) ?_ ?_ hn
 ·intro rec i hi
  have hx := hl _ (List.getElem_mem hi)
  dsimp only
  rw [if_pos (by simp; omega), a0f hi, Int.toNat_natCast, a0i hi]
  obtain ⟨v, hv⟩ : ∃ v : Nat, l[i] = (v : Int) := ⟨_, (Int.toNat_of_nonneg hx.1).symm⟩
  rw [hv, b4m (by omega) hn2]
  simp only [Option.bind_some]
  rw [a0g (by omega)]
  congr 2
  rw [List.take_succ_eq_append_getElem hi]
  unfold a3j
  rw [List.foldl_append]
  simp only [List.foldl_cons, List.foldl_nil, hv, Int.toNat_natCast]
  split <;> omega
 ·intro rec
  simp
theorem d4k {m : Nat} (h : m < 1000000000) : IntKind.i64.wrap ((IntKind.i64.wrap ((m : Int) + 7)).tdiv (8:Int)) = (((m + 7) / 8 : Nat) : Int) := by
 rw [show ((m : Int) + 7) = ((m + 7 : Nat) : Int) by omega, a0x (by omega), show ((8 : Int)) = ((8 : Nat) : Int) from rfl, a5z, a0x (by omega)]
theorem b1r {n : Nat} {l : List Int} {w : Nat} (hl : Nums l) (hn : l.length < n) (hnw : 64 < n) (hc : l.length < 100000) :
  a2v n (l, (w : Int), ()) = some (if w ≤ 64 ∧ a3j l ≤ w then (a7h l w, true, ()) else ([], false, ()), ()) := by
 unfold a2v
 dsimp only
 rw [if_neg (by simp)]
 by_cases hw : w ≤ 64
 rotate_left
 ·rw [if_pos (by simp; omega), if_neg (by omega)]
 rw [if_neg (by simp; omega), c4u hl hn hnw (by omega)]
 simp only [Option.bind_some]
 by_cases hwl : a3j l ≤ w
 rotate_left
 ·rw [if_pos (by simp; omega), if_neg (by omega)]
 rw [if_neg (by simp; omega), if_pos (c := w ≤ 64 ∧ a3j l ≤ w) ⟨hw, hwl⟩]
 have hmul : l.length * w ≤ l.length * 64 := Nat.mul_le_mul_left _ hw
 have hr := a1s
 rw [show ((l.length : Int) * (w : Int)) = ((l.length * w : Nat) : Int) by push_cast; rfl, a0x (x := l.length * w) (by omega), d4k (by omega)]
 rw [if_pos (by refine ⟨by omega, by omega, ?_⟩; omega)]
 have hb := b8t l w
 refine a0z (st := fun i => (a6f (bitL l w) ((l.length * w + 7) / 8) (i * w), (i : Int))) l.length (by rw [Nat.zero_mul, b7q, Int.toNat_natCast]; rfl) ?_ ?_ hn
 ·intro rec i hi
  have hiw : i * w + w ≤ l.length * w := by
   have := Nat.mul_le_mul_right w (show i + 1 ≤ l.length from hi)
   rwa [Nat.add_mul, Nat.one_mul] at this
  have hx := hl _ (List.getElem_mem hi)
  obtain ⟨v, hv⟩ : ∃ v : Nat, l[i] = (v : Int) := ⟨_, (Int.toNat_of_nonneg hx.1).symm⟩
  dsimp only
  rw [if_pos (by simp; omega), a0f hi, Int.toNat_natCast, a0i hi, hv]
  refine a0z (st := fun k => (a6f (bitL l w) ((l.length * w + 7) / 8) (i * w + k), ((v / 2 ^ k : Nat) : Int), (k : Int))) w (by simp) ?_ ?_ (by omega)
  ·intro rec2 k hk
   dsimp only
   rw [if_pos (by simp; omega)]
   have e1 : IntKind.i64.wrap ((IntKind.i64.wrap ((i : Int) * (w : Int))) + (k : Int)) = ((i * w + k : Nat) : Int) := by
    rw [show ((i : Int) * (w : Int)) = ((i * w : Nat) : Int) by push_cast; rfl, a0x (by omega), show (((i * w : Nat) : Int) + (k : Int)) = ((i * w + k : Nat) : Int) by omega, a0x (by omega)]
   have e2 : (((i * w + k : Nat) : Int)).tdiv (8 : Int) = (((i * w + k) / 8 : Nat) : Int) := by
    rw [show ((8 : Int)) = ((8 : Nat) : Int) from rfl, a5z]
   have e3 : (((i * w + k : Nat) : Int)).tmod (8 : Int) = (((i * w + k) % 8 : Nat) : Int) := by
    rw [show ((8 : Int)) = ((8 : Nat) : Int) from rfl, a9o]
   have hlt : (i * w + k) / 8 < (l.length * w + 7) / 8 := by omega
   rw [e1, e2, e3, a0x (x := (i * w + k) / 8) (by omega), a0f (by rw [a8b]; exact hlt), if_neg (by omega), a0f (by rw [a8b]; exact hlt)]
   simp only [Int.toNat_natCast]
   rw [a0g (by omega)]
   have hv2 : v / 2 ^ k ≤ v := Nat.div_le_self _ _
   have e4 : IntKind.u64.wrap (((v / 2 ^ k : Nat) : Int).tdiv (2:Int)) = ((v / 2 ^ (k + 1) : Nat) : Int) := by
    rw [show (((v / 2 ^ k : Nat) : Int)).tdiv (2:Int) = ((v / 2 ^ k / 2 : Nat) : Int) from a5z _ 2, a2u (by omega), Nat.div_div_eq_div_mul, Nat.pow_succ]
   rw [e4]
   congr 2
   rw [show i * w + (k + 1) = i * w + k + 1 by omega, ← b7g hlt]
   congr 1
   have hsm := b8s hb (i * w + k)
   have hp8 : 2 ^ ((i * w + k) % 8) ≤ 2 ^ 7 := Nat.pow_le_pow_right (by omega) (by omega)
   have hbit : bitL l w (i * w + k) = v / 2 ^ k % 2 := by
    unfold bitL
    rw [mul_add_div hk, mul_add_mod hk, a0i hi, hv, Int.toNat_natCast]
   have h3 : (((v / 2 ^ k : Nat) : Int)).tmod (2:Int) = ((v / 2 ^ k % 2 : Nat) : Int) := a9o _ 2
   have h4 := c9q (v / 2 ^ k % 2) ((i * w + k) % 8) 8 (by omega)
   rw [Int.toNat_natCast] at h4
   have h5 : v / 2 ^ k % 2 * 2 ^ ((i * w + k) % 8) ≤ 1 * 2 ^ ((i * w + k) % 8) := Nat.mul_le_mul_right _ (by omega)
   rw [b3y hlt, h3, b3j (x := v / 2 ^ k % 2) (by omega), show IntKind.u8.bits = 8 from rfl, h4, b3j (x := v / 2 ^ k % 2 * 2 ^ ((i * w + k) % 8)) (by omega), hbit]
   rw [show (((b1t (bitL l w) (i * w + k) ((i * w + k) / 8) : Nat) : Int) + ((v / 2 ^ k % 2 * 2 ^ ((i * w + k) % 8) : Nat) : Int)) = ((b1t (bitL l w) (i * w + k) ((i * w + k) / 8) + v / 2 ^ k % 2 * 2 ^ ((i * w + k) % 8) : Nat) : Int) by push_cast; rfl, b3j (by omega)]
  ·intro rec2
   dsimp only
   rw [if_neg (by simp), a0g (by omega), show i * w + w = (i + 1) * w by rw [Nat.add_mul, Nat.one_mul]]
 ·intro rec
  dsimp only
  rw [if_neg (by simp)]
  rfl
def b3g (b : List Int) (n w i j : Nat) : List Int := (List.range n).map fun k => if k < i then ((a5x (bitB b) (k * w) w : Nat) : Int) else if k = i then ((a5x (bitB b) (k * w + j) (w - j) : Nat) : Int) else 0
theorem b0i {n : Nat} {b : List Int} {m w : Int} (hb : a3p b) (hl : b.length < 1000000) (hn : 64001 < n) : a3e n (b, m, w, ()) = some (b4a b m w, ()) := by
 unfold a3e b4a
 dsimp only
 by_cases h1 : m < 0
 ·rw [if_pos (by simpa using h1), if_neg (by omega)]
 rw [if_neg (by simpa using h1)]
 by_cases h2 : 1000 < m
 ·rw [if_pos (by simpa using h2), if_neg (by omega)]
 rw [if_neg (by simpa using h2)]
 by_cases h3 : w < 0
 ·rw [if_pos (by simpa using h3), if_neg (by omega)]
 rw [if_neg (by simpa using h3)]
 by_cases h4 : 64 < w
 ·rw [if_pos (by simpa using h4), if_neg (by omega)]
 rw [if_neg (by simpa using h4)]
 obtain ⟨M, rfl⟩ : ∃ M : Nat, m = (M : Int) := ⟨_, (Int.toNat_of_nonneg (by omega)).symm⟩
 obtain ⟨W, rfl⟩ : ∃ W : Nat, w = (W : Int) := ⟨_, (Int.toNat_of_nonneg (by omega)).symm⟩
 simp only [Int.toNat_natCast]
 have hmul : M * W ≤ 1000 * 64 := Nat.mul_le_mul (by omega) (by omega)
 have hr := a1s
 rw [show ((M : Int) * (W : Int)) = ((M * W : Nat) : Int) by push_cast; rfl, a0x (x := M * W) (by omega), d4k (by omega)]
 by_cases h5 : b.length = (M * W + 7) / 8
 rotate_left
 ·rw [if_pos (by simp; omega), if_neg (by omega)]
 rw [if_neg (by simp; omega), if_pos (c := 0 ≤ (M : Int) ∧ (M : Int) ≤ (M : Int) ∧ (M : Int) * 8 ≤ (room : Int)) (by omega)]
 refine a0z (st := fun i => (b3g b M W i W, (i : Int))) M ?_ ?_ ?_ (by omega)
 ·have : b3g b M W 0 W = List.replicate M 0 := by
   apply List.ext_getElem
   ·simp [b3g]
   ·intro i q1 q2
    simp [b3g, a5x]
  rw [this]; rfl
 ·intro rec i hi
  have hiw : i * W + W ≤ M * W := by
   have := Nat.mul_le_mul_right W (show i + 1 ≤ M from hi)
   rwa [Nat.add_mul, Nat.one_mul] at this
  have hnlen : ∀ i j, (b3g b M W i j).length = M := by intro i j; simp [b3g]
  dsimp only
  rw [if_pos (by simp; omega)]
  refine a0z (st := fun t => (b3g b M W i (W - t), ((W - t : Nat) : Int) - 1)) W ?_ ?_ ?_ (by omega)
  ·rw [Nat.sub_zero, a1x (by omega) (by omega)]
  ·intro rec2 t ht
   obtain ⟨j, hj⟩ : ∃ j, W - t = j + 1 := ⟨W - t - 1, by omega⟩
   have hj2 : W - (t + 1) = j := by omega
   dsimp only
   rw [hj, hj2, show (((j + 1 : Nat) : Int) - 1) = (j : Int) by omega, if_pos (by simp)]
   have e1 : IntKind.i64.wrap ((IntKind.i64.wrap ((i : Int) * (W : Int))) + (j : Int)) = ((i * W + j : Nat) : Int) := by
    rw [show ((i : Int) * (W : Int)) = ((i * W : Nat) : Int) by push_cast; rfl, a0x (by omega), show (((i * W : Nat) : Int) + (j : Int)) = ((i * W + j : Nat) : Int) by omega, a0x (by omega)]
   have e4 : (((i * W + j : Nat) : Int)).tdiv (8 : Int) = (((i * W + j) / 8 : Nat) : Int) := a5z _ 8
   have e5 : (((i * W + j : Nat) : Int)).tmod (8 : Int) = (((i * W + j) % 8 : Nat) : Int) := a9o _ 8
   rw [e1, e4, e5, a0x (x := (i * W + j) / 8) (by omega), a0f (by rw [hnlen]; exact hi), a0f (by omega), if_neg (by omega), a0f (by rw [hnlen]; exact hi)]
   simp only [Int.toNat_natCast]
   rw [a1x (x := (j : Int) - 1) (by omega) (by omega)]
   congr 2
   obtain ⟨c, hc1, hc2, hc3⟩ := hb.get (i := (i * W + j) / 8) (by omega)
   have hbit : bitB b (i * W + j) = c / 2 ^ ((i * W + j) % 8) % 2 := by
    unfold bitB
    rw [hc1, Int.toNat_natCast]
   have h6 := e8r c ((i * W + j) % 8) (by omega)
   rw [Int.toNat_natCast] at h6
   have h7 : (((c / 2 ^ ((i * W + j) % 8) : Nat) : Int)).tmod (2:Int) = ((c / 2 ^ ((i * W + j) % 8) % 2 : Nat) : Int) := a9o _ 2
   have hget : (b3g b M W i (j + 1)).getD i 0 = ((a5x (bitB b) (i * W + (j + 1)) (W - (j + 1)) : Nat) : Int) := by
    rw [a0i (by rw [hnlen]; exact hi)]
    simp [b3g]
   have hlt := b6r (c3g b) (i * W + (j + 1)) (W - (j + 1))
   have hp : 2 ^ (W - (j + 1)) ≤ 2 ^ 63 := Nat.pow_le_pow_right (by omega) (by omega)
   rw [hget, hc1, h6, h7, ← hbit, a2u (x := bitB b (i * W + j)) (by have := c3g b (i * W + j); omega), show ((2:Int) * ((a5x (bitB b) (i * W + (j + 1)) (W - (j + 1)) : Nat) : Int)) = ((2 * a5x (bitB b) (i * W + (j + 1)) (W - (j + 1)) : Nat) : Int) by push_cast; rfl, a2u (by omega)]
   have hlow := c1t (bitB b) (i * W + j) (W - (j + 1))
   rw [show W - (j + 1) + 1 = W - j by omega] at hlow
   have hble := c3g b (i * W + j)
   rw [show (((2 * a5x (bitB b) (i * W + (j + 1)) (W - (j + 1)) : Nat) : Int) + ((bitB b (i * W + j) : Nat) : Int)) = ((a5x (bitB b) (i * W + j) (W - j) : Nat) : Int) by rw [hlow, show i * W + (j + 1) = i * W + j + 1 by omega]; push_cast; omega, a2u (by rw [hlow, show i * W + j + 1 = i * W + (j + 1) by omega]; omega)]
   apply List.ext_getElem
   ·simp [b3g]
   ·intro k q1 q2
    rw [List.getElem_set]
    simp only [b3g, List.getElem_map, List.getElem_range]
    by_cases hk : i = k
    ·subst hk
     rw [if_pos rfl, if_neg (by omega), if_pos rfl]
    ·rw [if_neg hk]
     by_cases hk2 : k < i
     ·rw [if_pos hk2, if_pos hk2]
     ·rw [if_neg hk2, if_neg hk2, if_neg (by omega), if_neg (by omega)]
  ·intro rec2
   dsimp only
   rw [if_neg (by simp), a0g (by omega)]
   congr 2
   apply List.ext_getElem
   ·simp [b3g]
   ·intro k q1 q2
    simp only [b3g, List.getElem_map, List.getElem_range, Nat.sub_self]
    by_cases hk : k < i
    ·rw [if_pos hk, if_pos (by omega)]
    ·rw [if_neg hk]
     by_cases hk2 : k = i
     ·subst hk2
      rw [if_pos rfl, if_pos (by omega)]
      simp
     ·rw [if_neg hk2, if_neg (by omega)]
      by_cases hk3 : k = i + 1
      ·rw [if_pos hk3]; simp [a5x]
      ·rw [if_neg hk3]
 ·intro rec
  dsimp only
  have hall : b3g b M W M W = b0u b M W := by
   unfold b3g b0u
   apply List.map_congr_left
   intro i hi
   have hi' : i < M := by simpa using hi
   rw [if_pos hi']
  rw [if_neg (by simp), hall, b1r (b2x (by omega)) (by rw [b0q]; omega) (by omega) (by rw [b0q]; omega), if_pos ⟨by omega, c8d⟩]
  simp only [Option.bind_some]
  by_cases h6 : a7h (b0u b M W) W = b
  ·rw [if_neg (by simp [h6]), if_pos ⟨by omega, by omega, by omega, by omega, h5, h6⟩]
  ·rw [if_pos (by simp [h6]), if_neg (fun h => h6 h.2.2.2.2.2)]
end Go.Rb.R4

namespace Go.Rb.R4
open Go.Rb
theorem c9e (n : Nat) (t : Int) (v : Vl) : a8c n (t, v, ()) = some ((mayV v && (isT t && (decide (v.1 = 0) || decide (v.1 = t))), ()), ()) := by
 unfold a8c
 dsimp only
 rw [d1k, b0p]
 simp only [Option.bind_some]
 cases mayV v <;> cases isT t <;> by_cases h : v.1 = 0 <;> simp [h]
theorem d7x {n : Nat} {t : Int} {l : List Vl} (hn : l.length < n) (hc : l.length < 1000000) : a9t n (t, l, ()) = some ((a1n t l, ()), ()) := by
 unfold a9t
 dsimp only
 rw [b7x l (fun v => isT t && a0r t v) (some ((false, ()), ())) (some ((isT t, ()), ())) hn]
 ·unfold a1n
  cases h : isT t with
  | true =>
   have h1 : (decide (1 ≤ t) && decide (t ≤ 4)) = true := h
   rw [h1]
   simp only [Bool.true_and]
   cases hh : l.all (a0r t) with
   | true => rw [if_pos (by simp)]
   | false => rw [if_neg (by simp)]
  | false =>
   have h1 : (decide (1 ≤ t) && decide (t ≤ 4)) = false := h
   rw [h1]
   simp
 ·intro rec i hi
  rw [if_pos (by simp; omega), a0f hi, Int.toNat_natCast, a0i hi, c9e, a0g (by omega)]
  simp only [Option.bind_some]
  rw [a0f hi]
  unfold a0r
  cases mayV l[i] <;> cases isT t <;> by_cases h3 : l[i].1 = t <;> by_cases h4 : l[i].1 = 0 <;> simp [h3, h4] <;> intro h5 <;> omega
 ·intro rec
  rw [if_neg (by simp), b0p]
  rfl
theorem c2t {n : Nat} {t : Int} {v : Vl} (h : a0r t v = true) (hv : okV v) (hn : 10 ≤ n) : a8v n (v, ()) = some ((oneV v, ()), ()) := by
 obtain ⟨h1, h2⟩ := a2o h
 have hr := a1s
 unfold a8v oneV
 dsimp only
 by_cases h3 : v.1 = 3
 ·rw [if_pos (by simpa using h3), if_pos h3]
  rw [b3k (by rcases h2 with h2 | h2 | h2 | h2 | h2 <;> omega) (by rcases h2 with h2 | h2 | h2 | h2 | h2 <;> omega)]
 ·rw [if_neg (by simpa using h3), if_neg h3]
  by_cases h4 : v.1 = 4
  ·have hl : v.2.2.1.length ≤ 20 := by omega
   rw [if_pos (by simpa using h4), if_pos (by simp; omega), if_pos h4, b3k (by omega) (by omega)]
   rfl
  ·rw [if_neg (by simpa using h4), if_neg h4, c3v hv.2.1.1 hv.2.1.2]
   simp only [Option.bind_some]
   rw [a9a (b4j hv.2.1.1 hv.2.1.2) hn]
   simp only [Option.bind_some]
theorem c0d {n : Nat} {t : Int} {x y : Vl} (ht : t ≠ 0) (hx : a0r t x = true) (hy : a0r t y = true) : ∃ c, a6b n (x, y, ()) = some ((c, ()), ()) ∧ (c < 0 ↔ ltV t x y = true) ∧ (c = 0 ↔ x = y) := by
 have a := (a2o hx).1
 have b := (a2o hy).1
 have hl := a7r t
 unfold a6b b0b
 dsimp only
 rw [a, b]
 have e : ∀ z : Int, decide (z < z) = false := fun z => by simp
 by_cases h4 : t = 4
 ·subst h4
  have l1 : ltV 4 x y = a1p x.2.2.1 y.2.2.1 := by simp [ltV]
  have l2 : ltV 4 y x = a1p y.2.2.1 x.2.2.1 := by simp [ltV]
  have hne : x = y ↔ (a1p x.2.2.1 y.2.2.1 = false ∧ a1p y.2.2.1 x.2.2.1 = false) := by
   rw [← l1, ← l2]
   constructor
   ·rintro rfl; exact ⟨hl.irrefl _ hx, hl.irrefl _ hx⟩
   ·rintro ⟨h1, h2⟩
    rcases hl.total x y hx hy with h | h | h
    ·rw [h1] at h; cases h
    ·exact h
    ·rw [h2] at h; cases h
  have has : a1p x.2.2.1 y.2.2.1 = true → a1p y.2.2.1 x.2.2.1 = false := by
   rw [← l1, ← l2]; exact hl.asymm hx hy
  rw [l1]
  cases h1 : a1p x.2.2.1 y.2.2.1 with
  | true =>
   have h2 := has h1
   refine ⟨-1, by simp [h1, h2], by simp, ?_⟩
   rw [hne, h1]; simp
  | false =>
   cases h2 : a1p y.2.2.1 x.2.2.1 with
   | true =>
    refine ⟨1, by simp [h1, h2], by simp, ?_⟩
    rw [hne, h1, h2]; simp
   | false =>
    refine ⟨0, by simp [h1, h2], by simp, ?_⟩
    rw [hne, h1, h2]; simp
 ·have l1 : ltV t x y = decide (x.2.1 < y.2.1) := by simp [ltV, h4]
  have l2 : ltV t y x = decide (y.2.1 < x.2.1) := by simp [ltV, h4]
  have hne : x = y ↔ x.2.1 = y.2.1 := by
   constructor
   ·rintro rfl; rfl
   ·intro h; exact c2e hx hy (by rw [if_neg h4]; exact h)
  rw [l1]
  rcases Int.lt_trichotomy x.2.1 y.2.1 with h | h | h
  ·have h2 : ¬ y.2.1 < x.2.1 := by omega
   refine ⟨-1, by simp [ht, h4, h], by simp [h], ?_⟩
   rw [hne]; simp; omega
  ·have h2 : ¬ y.2.1 < x.2.1 := by omega
   have h3 : ¬ x.2.1 < y.2.1 := by omega
   refine ⟨0, by simp [ht, h4, h2, h3], by simp [h3], ?_⟩
   rw [hne]; simp [h]
  ·have h2 : ¬ x.2.1 < y.2.1 := by omega
   refine ⟨1, by simp [ht, h4, h, h2], by simp [h2], ?_⟩
   rw [hne]; simp; omega
theorem e7b {α : Type} [DecidableEq α] {lt : α → α → Bool} {S : α → Prop} (h : LinO lt S) {v : α} (hv : S v) : ∀ (k : Nat) (d : List α), (∀ x, x ∈ d → S x) → (∀ j (hj : j < d.length), j < k → lt d[j] v = true) → k ≤ d.length →
  (∀ hk : k < d.length, lt d[k] v = false) → insS lt v d = if d[k]? = some v then d else d.take k ++ v :: d.drop k
 | 0, [], _, _, _, _ => by simp [insS]
 | k + 1, [], _, _, hk, _ => by simp at hk
 | 0, x :: d, hS, _, _, hn => by
  have h1 : lt x v = false := hn (by simp)
  have hx := hS x (by simp)
  unfold insS
  rw [if_neg (by rw [h1]; simp)]
  rcases h.total x v hx hv with h2 | h2 | h2
  ·rw [h1] at h2; cases h2
  ·subst h2
   rw [h1, if_neg (by simp)]
   simp
  ·rw [if_pos h2]
   have : x ≠ v := by rintro rfl; rw [h.irrefl x hx] at h2; cases h2
   simp [this]
 | k + 1, x :: d, hS, hlt, hk, hn => by
  have h1 : lt x v = true := hlt 0 (by simp) (by omega)
  have hd := fun y hy => hS y (List.mem_cons_of_mem _ hy)
  unfold insS
  rw [if_pos h1, e7b h hv k d hd (fun j hj hjk => by have := hlt (j + 1) (by simpa using hj) (by omega); simpa using this) (by simpa using hk) (fun hk' => by have := hn (by simpa using hk'); simpa using this)]
  simp only [List.getElem?_cons_succ]
  split <;> simp
theorem d2k {n : Nat} {t : Int} {l : List Vl} (ht : t ≠ 0) (hr : ∀ v, v ∈ l → a0r t v = true) (hl : l.length < 100000) (hn : l.length + 1 < n) :
  a8o n (l, ()) = some ((a8t t l, ()), ()) := by
 have hro := a1s
 have hS : ∀ i, ∀ x, x ∈ a8t t (l.take i) → a0r t x = true := fun i x hx => hr x (List.mem_of_mem_take ((b2m (a7r t) (fun y hy => hr y (List.mem_of_mem_take hy)) x).1 hx))
 unfold a8o
 dsimp only
 refine a0z (st := fun i => (a8t t (l.take i), (i : Int))) l.length (by simp [a8t, d2r]) ?_ ?_ (by omega)
 ·intro rec i hi
  have hv := hr _ (List.getElem_mem hi)
  have hstep : a8t t (l.take (i + 1)) = insS (ltV t) l[i] (a8t t (l.take i)) := by
   rw [List.take_succ_eq_append_getElem hi]
   unfold a8t d2r
   rw [List.foldl_append]
   rfl
  have hdl : (a8t t (l.take i)).length ≤ (l.take i).length := b9j (ltV t) (l.take i)
  rw [List.length_take] at hdl
  dsimp only
  rw [if_pos (by simp; omega), hstep]
  obtain ⟨d, hd⟩ : ∃ d, a8t t (l.take i) = d := ⟨_, rfl⟩
  have hSd := hS i
  rw [hd] at hSd hdl ⊢
  have hdl2 : d.length ≤ i := by omega
  refine a9y (I := fun s q => ∃ k : Nat, s = (k : Int) ∧ k ≤ d.length ∧ (∀ j (hj : j < d.length), j < k → ltV t d[j] l[i] = true) ∧ (∀ hk : k < d.length, ltV t d[k] l[i] = false) ∧ q = rec (insS (ltV t) l[i] d, ((i + 1 : Nat) : Int))) ?_ ?_
  ·rintro _ _ ⟨k, rfl, hk, h1, h2, rfl⟩
   rw [e7b (a7r t) hv k d hSd h1 hk h2]
   have ins : (if 0 ≤ (k : Int) ∧ (k : Int) ≤ (d.length : Int) then (if (([] : List Vl).length + ((d.take (k : Int).toNat).drop (0:Int).toNat).length) * 32 ≤ room then (atI (i : Int) l.length (if ((([] : List Vl) ++ ((d.take (k : Int).toNat).drop (0:Int).toNat)).length + ([(l.getD (i : Int).toNat ((0:Int), (0:Int), [], ()))] : List Vl).length) * 32 ≤ room then (if 0 ≤ (k : Int) ∧ (k : Int) ≤ (d.length : Int) then (if (((([] : List Vl) ++ ((d.take (k : Int).toNat).drop (0:Int).toNat)) ++ ([(l.getD (i : Int).toNat ((0:Int), (0:Int), [], ()))] : List Vl)).length + ((d.take (d.length : Int).toNat).drop (k : Int).toNat).length) * 32 ≤ room then (rec ((((([] : List Vl) ++ ((d.take (k : Int).toNat).drop (0:Int).toNat)) ++ ([(l.getD (i : Int).toNat ((0:Int), (0:Int), [], ()))] : List Vl)) ++ ((d.take (d.length : Int).toNat).drop (k : Int).toNat)), (IntKind.i64.wrap ((i : Int) + 1)))) else none) else none) else none)) else none) else none) = rec (d.take k ++ l[i] :: d.drop k, ((i + 1 : Nat) : Int)) := by
    simp only [Int.toNat_natCast]
    rw [if_pos ⟨by omega, by omega⟩, if_pos (by simp; omega), a0f hi, a0i hi, if_pos (by simp; omega), if_pos ⟨by omega, by omega⟩, if_pos (by simp; omega), a0g (by omega)]
    simp
   by_cases hke : k = d.length
   ·subst hke
    rw [if_pos (by simp), ins, if_neg (by simp)]
   ·have hk' : k < d.length := by omega
    obtain ⟨c, hc, _, hc0⟩ := c0d (n := n) ht (hSd _ (List.getElem_mem hk')) hv
    rw [if_neg (by simp; omega), a0f hk', a0f hi, Int.toNat_natCast, Int.toNat_natCast, a0i hk', a0i hi, hc]
    simp only [Option.bind_some]
    by_cases hc1 : c = 0
    ·rw [if_neg (by simp [hc1]), if_pos (by rw [List.getElem?_eq_getElem hk', hc0.1 hc1]), a0g (by omega)]
    ·rw [if_pos (by simp [hc1]), if_neg (c := d[k]? = some l[i]) (by rw [List.getElem?_eq_getElem hk']; intro h; exact hc1 (hc0.2 (Option.some.inj h)))]
     simp only [Int.toNat_natCast, a0i hi] at ins ⊢
     exact ins
  ·intro J hJ
   refine (a9n (I := fun m (s : Int) => ∃ k : Nat, s = (k : Int) ∧ k ≤ d.length ∧ d.length - k ≤ m ∧ ∀ j (hj : j < d.length), j < k → ltV t d[j] l[i] = true)
    (res := fun _ => rec (insS (ltV t) l[i] d, ((i + 1 : Nat) : Int))) ?_ n d.length _ ⟨0, rfl, by omega, by omega, by omega⟩ (by omega))
   rintro m _ rec2 ⟨k, rfl, hk, hm, h1⟩ hrec2
   by_cases hk' : k < d.length
   ·obtain ⟨c, hc, hcl, _⟩ := c0d (n := n) ht (hSd _ (List.getElem_mem hk')) hv
    rw [if_pos (by simp; omega), a0f hk', a0f hi, Int.toNat_natCast, Int.toNat_natCast, a0i hk', a0i hi, hc]
    simp only [Option.bind_some]
    by_cases hc0 : c < 0
    ·rw [if_pos (by simpa using hc0), a0g (by omega)]
     refine hrec2 (d.length - (k + 1)) _ (by omega) ⟨k + 1, rfl, by omega, by omega, fun j hj hjk => ?_⟩
     rcases Nat.lt_or_ge j k with h | h
     ·exact h1 j hj h
     ·obtain rfl : j = k := by omega
      exact hcl.1 hc0
    ·rw [if_neg (by simpa using hc0)]
     refine hJ _ _ ⟨k, rfl, hk, h1, fun _ => ?_, rfl⟩
     cases hb : ltV t d[k] l[i] with
     | false => rfl
     | true => exact absurd (hcl.2 hb) hc0
   ·rw [if_neg (by simp; omega)]
    exact hJ _ _ ⟨k, rfl, hk, h1, fun h => absurd h hk', rfl⟩
 ·intro rec
  dsimp only
  rw [if_neg (by simp), List.take_length]
end Go.Rb.R4

namespace Go.Rb.R4
open Go.Rb
theorem f3z (x y : Vl) : ((decide (x.1 = y.1)) && ((decide (x.2.1 = y.2.1)) && (decide (x.2.2.1 = y.2.2.1)))) = decide (x = y) := by
 obtain ⟨a, b, c, u⟩ := x
 obtain ⟨a', b', c', u'⟩ := y
 by_cases h1 : a = a' <;> by_cases h2 : b = b' <;> by_cases h3 : c = c' <;> simp [h1, h2, h3]
theorem c2m {m : Nat} (hm : m < 1000000) : IntKind.u64.wrap (IntKind.i64.wrap ((if (1:Int) ≤ (m : Int) then (m : Int) else (1:Int)) - 1)) = ((m - 1 : Nat) : Int) := by
 have e : (if (1:Int) ≤ (m : Int) then (m : Int) else (1:Int)) - (1:Int) = ((m - 1 : Nat) : Int) := by split <;> omega
 rw [e, a0x (by omega), a2u (by omega)]
theorem d9j {n : Nat} {t : Int} {l : List Vl} (hv : ∀ v, v ∈ l → okV v) (hr : a1n t l = true) (hl : l.length ≤ 1000) (hn : 2000 ≤ n) :
  b0z n (l, ()) = some ((b5m t l, ()), ()) := by
 have hro := a1s
 obtain ⟨ht1, ht4, hrr⟩ := a2y hr
 have hR := b2t hr hv
 have hmem := fun v => b2m (a7r t) hrr v
 have hris := c0h (a7r t) hrr
 have hsm := b0f hr
 have hdl : (a8t t l).length ≤ l.length := b9j (ltV t) l
 unfold b0z b5m
 dsimp only
 rw [d2k (by omega) hrr (by omega) (by omega)]
 simp only [Option.bind_some]
 have hplen := a2j (t := t) l
 have hpl : ∀ i (hi : i < l.length), (a2c t l)[i]'(by rw [hplen]; exact hi) = ((posS (a8t t l) l[i] : Nat) : Int) := by
  intro i hi
  simp [a2c]
 obtain ⟨pl, hpd⟩ : ∃ pl, a2c t l = pl := ⟨_, rfl⟩
 simp only [hpd] at hsm hpl hplen ⊢
 obtain ⟨D, hD⟩ : ∃ D, a8t t l = D := ⟨_, rfl⟩
 have hris' : b0s (ltV t) D := by rw [← hD]; exact hris
 have hmem' : ∀ v, v ∈ D ↔ v ∈ l := by rw [← hD]; exact hmem
 rw [hD] at hR hsm hdl ⊢
 simp only [hD] at hpl
 have hb10 : blen (D.length - 1) ≤ 10 := b5h (by omega)
 have hfl := a1u hR
 have hput := a4j (v := D.length) (by omega)
 rw [a2u (by omega), a9a (by omega) (by omega)]
 simp only [Option.bind_some]
 refine a0z (st := fun i => (putN D.length ++ (D.take i).flatMap oneV, (i : Int))) D.length (by simp) ?_ ?_ (by omega)
 ·intro rec i hi
  have hRi := hR _ (List.getElem_mem hi)
  have h1 := b9s hRi.1 hRi.2
  have h2 : ((D.take i).flatMap oneV).length ≤ 21 * i := by
   have := a1u (d := D.take i) fun v hv => hR v (List.mem_of_mem_take hv)
   rw [List.length_take, Nat.min_eq_left (by omega)] at this
   exact this
  dsimp only
  rw [if_pos (by simp; omega), a0f hi, Int.toNat_natCast, a0i hi, c2t hRi.1 hRi.2 (by omega)]
  simp only [Option.bind_some]
  rw [if_pos (by simp only [List.length_append]; omega), a0g (by omega), b4b _ hi, List.append_assoc]
 ·intro rec
  dsimp only
  rw [if_neg (by simp), List.take_length]
  refine a0z (st := fun i => (pl.take i, (i : Int))) l.length (by simp) ?_ ?_ (by omega)
  ·intro rec2 i hi
   have hpi : i < pl.length := by omega
   have hin : l[i] ∈ D := (hmem' _).2 (List.getElem_mem hi)
   have hp := b7h hin
   dsimp only
   rw [if_pos (by simp; omega)]
   refine a0z (st := fun k => (pl.take i ++ (if posS D l[i] < k then [((posS D l[i] : Nat) : Int)] else []), (k : Int))) D.length (by simp) ?_ ?_ (by omega)
   ·intro rec3 k hk
    have hiff := f0t (a7r t) (fun x hx => (hR x hx).1) hris' hin hk
    dsimp only
    rw [if_pos (by simp; omega), a0f hk, a0f hi, Int.toNat_natCast, Int.toNat_natCast, a0i hk, a0i hi, f3z]
    by_cases he : k = posS D l[i]
    ·rw [if_pos (by simpa using hiff.2 he), if_neg (c := posS D l[i] < k) (by omega), if_pos (by simp; omega), a2u (by omega), a0g (by omega), if_pos (c := posS D l[i] < k + 1) (by omega)]
     simp [he]
    ·rw [if_neg (by simpa using fun h => he (hiff.1 h)), a0g (by omega)]
     congr 2
     congr 1
     by_cases h : posS D l[i] < k
     ·rw [if_pos h, if_pos (by omega)]
     ·rw [if_neg h, if_neg (by omega)]
   ·intro rec3
    dsimp only
    rw [if_neg (by simp), if_pos hp, a0g (by omega), List.take_succ_eq_append_getElem hpi, hpl i hi]
  ·intro rec2
   dsimp only
   have hnum : Nums pl := fun x hx => by
    have h1 := hsm x hx
    have h2 : 2 ^ blen (D.length - 1) ≤ 2 ^ 10 := Nat.pow_le_pow_right (by omega) hb10
    omega
   have htake : pl.take l.length = pl := by rw [← hplen, List.take_length]
   rw [if_neg (by simp), c2m (by omega), b4m (by omega) (by omega)]
   simp only [Option.bind_some]
   rw [htake, b1r hnum (by omega) (by omega) (by omega), if_pos ⟨by omega, b5f.2 fun x hx => (hsm x hx).2⟩]
   simp only [Option.bind_some]
   have hmul : l.length * blen (D.length - 1) ≤ 1000 * 10 := Nat.mul_le_mul hl hb10
   rw [if_pos (by simp only [List.length_append, a4e, hplen]; omega), List.append_assoc]
def OneP (t : Int) (b : List Int) (y : (Vl × Int × Bool × Unit) × Unit) : Prop :=
 match a3s t b with
 | some (v, k) => y = ((v, (k : Int), mayV v, ()), ())
 | none => ∃ v k, y = ((v, k, false, ()), ())
theorem a9k {n : Nat} {t : Int} {b : List Int} (ht : 1 ≤ t ∧ t ≤ 4) (hb : a3p b) (hl : b.length < 1000000) (hn : 13 ≤ n) : Gets (a4b n (t, b, ())) (OneP t b) := by
 have hT : isT t = true := c9c.2 ht
 unfold a4b
 dsimp only
 cases b with
 | nil =>
  rw [if_pos (by simp)]
  refine Gets.some ?_
  unfold OneP a3s
  split
  ·rename_i h
   split at h
   ·exact absurd h (by simp [a4f])
   ·exact absurd h (by simp)
  ·exact ⟨_, _, rfl⟩
 | cons c r =>
  have hc := hb c (by simp)
  have e0 : (c :: r).getD ((0:Int)).toNat (0:Int) = c := rfl
  have fin : ∀ (v : Vl) (k : Int), Gets ((a6i n (v, ())).bind fun y1 => (if y1.1.1 = true then ((a1k n (t, ())).bind fun y2 => (some ((v, k, y2.1.1, ()), ()))) else (some ((v, k, false, ()), ())))) (fun y => y = ((v, k, mayV v, ()), ())) := by
   intro v k
   rw [d1k, b0p]
   simp only [Option.bind_some]
   rw [hT]
   cases mayV v with
   | true => exact Gets.some rfl
   | false => exact Gets.some rfl
  rw [if_neg (by simp; omega)]
  by_cases h3 : t = 3
  ·rw [if_pos (by simpa using h3)]
   refine Gets.atI (by omega) (by simp) ?_
   rw [e0, a1x (x := c) (by omega) (by omega)]
   refine (fin _ _).mono fun y hy => ?_
   unfold OneP a3s
   rw [if_neg (by omega)]
   dsimp only
   rw [if_pos h3]
   exact hy
  ·rw [if_neg (by simpa using h3)]
   by_cases h4 : t = 4
   ·rw [if_pos (by simpa using h4)]
    refine Gets.atI (by omega) (by simp) ?_
    rw [e0, a1x (x := c) (by omega) (by omega), a1x (x := 1 + c) (by omega) (by omega)]
    have e1 : (1 + c).toNat = 1 + c.toNat := by omega
    by_cases h : 1 + c.toNat ≤ (c :: r).length
    ·rw [if_neg (by simp at h ⊢; omega), if_pos (by simp at h ⊢; omega)]
     refine (fin _ _).mono fun y hy => ?_
     unfold OneP a3s
     rw [if_neg (by omega)]
     dsimp only
     rw [if_neg h3, if_pos h, ← e1]
     dsimp only
     rw [hy, show (1 + c) = (((1 + c).toNat : Nat) : Int) by omega]
     rfl
    ·rw [if_pos (by simp at h ⊢; omega)]
     refine Gets.some ?_
     unfold OneP a3s
     rw [if_neg (by omega)]
     dsimp only
     rw [if_neg h3, if_neg h]
     exact ⟨_, _, rfl⟩
   ·rw [if_neg (by simpa using h4), a7k hb hl hn]
    simp only [Option.bind_some]
    have hfv : a3s t (c :: r) = (match a4f (c :: r) with | some (u, k) => some ((t, zag u, [], ()), k) | none => none) := by
     unfold a3s
     rw [if_pos ⟨h3, h4⟩]
     rfl
    unfold OneP
    rw [hfv]
    cases htk : a4f (c :: r) with
    | none =>
     dsimp only
     rw [if_pos (by simp)]
     exact Gets.some ⟨_, _, rfl⟩
    | some q =>
     obtain ⟨u, k⟩ := q
     dsimp only
     rw [if_neg (by simp), c3h (a2x hb htk).1]
     simp only [Option.bind_some]
     exact fin _ _
def RefP (t m : Int) (b : List Int) (y : (List Vl × Bool × Unit) × Unit) : Prop := (∃ l, y = ((l, true, ()), ()) ∧ (∀ v, v ∈ l → okV v) ∧ l.length ≤ 1000) ∨ y = (([], false, ()), ())
theorem c3r {n : Nat} {t m : Int} {b : List Int} (ht : 1 ≤ t ∧ t ≤ 4) (hm : 0 ≤ m ∧ m ≤ 1000) (hb : a3p b) (hl : b.length < 1000000) (hn : 70000 ≤ n) :
  Gets (a4g n (t, m, b, ())) (RefP t m b) := by
 have hro := a1s
 have bad : Gets (some ((([] : List Vl), false, ()), ())) (RefP t m b) := Gets.some (.inr rfl)
 unfold a4g
 dsimp only
 rw [a7k hb hl (by omega)]
 simp only [Option.bind_some]
 obtain ⟨M, rfl⟩ : ∃ M : Nat, m = (M : Int) := ⟨_, (Int.toNat_of_nonneg (by omega)).symm⟩
 cases htk : a4f b with
 | none =>
  dsimp only
  rw [if_pos (by simp)]; exact bad
 | some r =>
  obtain ⟨u, k⟩ := r
  have hT := a2x hb htk
  dsimp only
  rw [if_neg (by simp), a2u (by omega)]
  by_cases h3 : M < u
  ·rw [if_pos (by simp; omega)]; exact bad
  rw [if_neg (by simp; omega), if_pos (by omega)]
  refine Gets.iter (I := fun s : List Int × List Vl × Int => ∃ (rest : List Int) (all : List Vl), s = (rest, all, (all.length : Int)) ∧ a3p rest ∧ rest.length < 1000000 ∧ all.length ≤ u ∧ ∀ v, v ∈ all → okV v)
   (μ := fun s => u - s.2.1.length) ⟨_, [], rfl, ?_, ?_, by simp, by simp⟩ (by simp; omega) ?_
  ·simp only [Int.toNat_natCast, List.take_length]; exact hb.drop _
  ·simp only [Int.toNat_natCast, List.take_length, List.length_drop]; omega
  rintro rec _ ⟨rest, all, rfl, g1, g2, g3, g4⟩ hrec
  dsimp only
  by_cases h4 : all.length < u
  ·rw [if_pos (by simp; omega)]
   refine Gets.bind (a9k (n := n) ht g1 g2 (by omega)) fun y hy => ?_
   unfold OneP at hy
   cases hf : a3s t rest with
   | none =>
    rw [hf] at hy
    obtain ⟨v, k, rfl⟩ := hy
    dsimp only
    rw [if_pos (by simp)]; exact bad
   | some r =>
    obtain ⟨v, k'⟩ := r
    rw [hf] at hy
    subst hy
    obtain ⟨q1, q2, q3, q4⟩ := b5p (by omega) g1 hf
    dsimp only
    cases hmay : mayV v with
    | false => rw [if_pos (by simp)]; exact bad
    | true =>
     rw [if_neg (by simp), if_pos (by simp; omega), if_pos (by omega)]
     refine hrec _ ⟨List.drop ((k' : Nat) : Int).toNat (List.take ((rest.length : Nat) : Int).toNat rest), all ++ [v], ?_, ?_, ?_, by simp; omega, ?_⟩ (by simp; omega)
     ·rw [show IntKind.u64.wrap ((all.length : Int) + 1) = (((all ++ [v]).length : Nat) : Int) by simp; rw [c1i (by omega) (by omega)]]
     ·simp only [Int.toNat_natCast, List.take_length]; exact g1.drop _
     ·simp only [Int.toNat_natCast, List.take_length, List.length_drop]; omega
     ·intro x hx
      rcases List.mem_append.1 hx with hx | hx
      ·exact g4 x hx
      ·simp at hx; subst hx; exact q1
  ·rw [if_neg (by simp; omega), c2m (by omega), b4m (by omega) (by omega)]
   simp only [Option.bind_some]
   rw [b0i g1 g2 (by omega)]
   simp only [Option.bind_some]
   unfold b4a
   split
   ·rename_i hok
    dsimp only
    rw [if_neg (by simp)]
    have hnum := b2x (b := rest) (n := ((M : Int)).toNat) (w := (((blen (all.length - 1) : Nat) : Int)).toNat) (by omega)
    have hplen := b0q rest ((M : Int)).toNat (((blen (all.length - 1) : Nat) : Int)).toNat
    generalize b0u rest ((M : Int)).toNat (((blen (all.length - 1) : Nat) : Int)).toNat = places at hnum hplen ⊢
    rw [Int.toNat_natCast] at hplen
    refine Gets.iter (I := fun s : List Vl × Int => s.2 = (s.1.length : Int) ∧ s.1.length ≤ M ∧ ∀ v, v ∈ s.1 → okV v) (μ := fun s => M - s.1.length) ⟨by simp, by simp, by simp⟩ (by simp; omega) ?_
    rintro rec2 ⟨l, i⟩ ⟨k1, k2, k3⟩ hrec2
    dsimp only at k1 k2 k3
    subst k1
    dsimp only
    by_cases h5 : l.length < M
    ·have h5' : l.length < places.length := by omega
     have hx := hnum _ (List.getElem_mem h5')
     rw [if_pos (by simp; omega), a0f h5', Int.toNat_natCast, a0i h5', a2u (by omega)]
     obtain ⟨p, hp⟩ : ∃ p : Nat, places[l.length] = (p : Int) := ⟨_, (Int.toNat_of_nonneg hx.1).symm⟩
     rw [hp]
     by_cases h6 : all.length ≤ p
     ·rw [if_pos (by simp; omega)]; exact bad
     ·have hpl : p < all.length := by omega
      rw [if_neg (by simp; omega), a0f h5', a0f hpl, Int.toNat_natCast, a0i hpl, if_pos (by simp; omega), a0g (by omega)]
      refine hrec2 _ ⟨by simp, by simp; omega, fun x hx => ?_⟩ (by simp; omega)
      rcases List.mem_append.1 hx with hx | hx
      ·exact k3 x hx
      ·simp at hx; subst hx; exact g4 _ (List.getElem_mem hpl)
    ·rw [if_neg (by simp; omega)]
     exact Gets.some (.inl ⟨l, rfl, k3, by omega⟩)
   ·dsimp only
    rw [if_pos (by simp)]; exact bad
end Go.Rb.R4

namespace Go.Rb.R4
open Go.Rb
theorem c2y {n : Nat} {t : Int} {l : List Vl} (hv : ∀ v, v ∈ l → okV v) (hr : a1n t l = true) (hl : l.length ≤ 1000) (hn : 70000 ≤ n) :
  a4g n (t, (l.length : Int), b5m t l, ()) = some ((l, true, ()), ()) := by
 have hro := a1s
 obtain ⟨ht1, ht4, hrr⟩ := a2y hr
 have hb := e1p hr hv
 have hbl := c9s hr hv hl
 have hdl := b9j (ltV t) l
 have hR := b2t hr hv
 have hsm := b0f hr
 have hplt := c1v hr
 have hback := b6g hr
 obtain ⟨b, hbd⟩ : ∃ b, b5m t l = b := ⟨_, rfl⟩
 rw [hbd] at hb hbl ⊢
 have hbd' := hbd
 unfold b5m at hbd'
 obtain ⟨D, hD⟩ : ∃ D, a8t t l = D := ⟨_, rfl⟩
 rw [hD] at hbd' hR hsm hplt hback
 have hDl : D.length ≤ l.length := by rw [← hD]; exact hdl
 have htk : a4f b = some (D.length, (putN D.length).length) := by rw [← hbd']; exact a5w _ _ (by omega)
 have hdrop : b.drop (putN D.length).length = D.flatMap oneV ++ a7h (a2c t l) (blen (D.length - 1)) := by rw [← hbd']; simp
 have hb10 : blen (D.length - 1) ≤ 10 := b5h (by omega)
 have hmul : l.length * blen (D.length - 1) ≤ 1000 * 10 := Nat.mul_le_mul hl hb10
 have hkl := (a2x hb htk).2.1
 have hfl := a1u hR
 have hbits : a3p (a7h (a2c t l) (blen (D.length - 1))) := c3u (b8t _ _)
 unfold a4g
 dsimp only
 rw [a7k hb (by omega) (by omega), htk]
 simp only [Option.bind_some]
 rw [if_neg (by simp), a2u (by omega), if_neg (by simp; omega), if_pos (by omega)]
 refine a0z (st := fun i => ((D.drop i).flatMap oneV ++ a7h (a2c t l) (blen (D.length - 1)), D.take i, (i : Int))) D.length ?_ ?_ ?_ (by omega)
 ·simp only [Int.toNat_natCast, List.take_length, hdrop]; simp
 ·intro rec i hi
  have hsub : ∀ v, v ∈ D.drop i → a0r t v = true ∧ okV v := fun v hm => hR v (List.mem_of_mem_drop hm)
  have hfl2 := a1u hsub
  have hrest : a3p ((D.drop i).flatMap oneV ++ a7h (a2c t l) (blen (D.length - 1))) := by
   intro x hx
   rcases List.mem_append.1 hx with hx | hx
   ·exact b4o hsub x hx
   ·exact hbits x hx
  have hlen : ((D.drop i).flatMap oneV ++ a7h (a2c t l) (blen (D.length - 1))).length < 1000000 := by
   simp only [List.length_append, a4e, a2j]
   simp only [List.length_drop] at hfl2
   omega
  have hdi : D.drop i = D[i] :: D.drop (i + 1) := List.drop_eq_getElem_cons hi
  have hRi := hR _ (List.getElem_mem hi)
  have hmay : mayV D[i] = true := by
   have := hRi.1
   unfold a0r at this
   simp only [Bool.and_eq_true] at this
   exact this.2
  have hfst := b1h hRi.1 hRi.2 ((D.drop (i + 1)).flatMap oneV ++ a7h (a2c t l) (blen (D.length - 1)))
  obtain ⟨y, hy1, hy2⟩ := a9k (n := n) (t := t) ⟨ht1, ht4⟩ hrest hlen (by omega)
  dsimp only
  rw [if_pos (by simp; omega), hy1]
  rw [hdi] at hy2 hlen ⊢
  rw [List.flatMap_cons, List.append_assoc] at hy2 hlen ⊢
  unfold OneP at hy2
  rw [hfst] at hy2
  subst hy2
  simp only [Option.bind_some]
  rw [if_neg (by simp [hmay]), if_pos (by simp; omega), if_pos (by refine ⟨by omega, ?_⟩; simp only [List.length_append]; omega), c1i (by omega) (by omega)]
  simp only [Int.toNat_natCast, List.take_length, List.drop_left, List.take_succ_eq_append_getElem hi]
  rfl
 ·intro rec
  dsimp only
  rw [if_neg (by simp), List.drop_length, List.flatMap_nil, List.nil_append, List.take_length, c2m (by omega), b4m (by omega) (by omega)]
  simp only [Option.bind_some]
  rw [b0i hbits (by rw [a4e, a2j]; omega) (by omega)]
  simp only [Option.bind_some]
  have hbb : b0u (a7h (a2c t l) (blen (D.length - 1))) l.length (blen (D.length - 1)) = a2c t l := by
   have := b3v (l := a2c t l) (w := blen (D.length - 1)) hsm
   rwa [a2j] at this
  unfold b4a
  split
  rotate_left
  ·rename_i hno
   exfalso
   apply hno
   simp only [Int.toNat_natCast, hbb]
   exact ⟨by omega, by omega, by omega, by omega, by rw [a4e, a2j], trivial⟩
  simp only [Int.toNat_natCast, hbb]
  rw [if_neg (by simp)]
  refine a0z (st := fun i => (((a2c t l).take i).map (fun p => D.getD p.toNat d0), (i : Int))) (a2c t l).length (by simp) ?_ ?_ (by rw [a2j]; omega)
  ·intro rec2 i hi
   have hx := hplt _ (List.getElem_mem hi)
   have hil : i < l.length := by rw [a2j] at hi; exact hi
   dsimp only
   obtain ⟨p, hp⟩ : ∃ p : Nat, (a2c t l)[i] = (p : Int) := ⟨_, (Int.toNat_of_nonneg hx.1).symm⟩
   have hpl : p < D.length := by rw [hp, Int.toNat_natCast] at hx; exact hx.2
   rw [if_pos (by simp; omega), a0f hi, Int.toNat_natCast, a0i hi, hp, a2u (by omega), if_neg (by simp; omega), a0f hi, a0f hpl, Int.toNat_natCast, if_pos (by simp; omega), a0g (by omega), map_take _ hi, hp, Int.toNat_natCast]
  ·intro rec2
   dsimp only
   rw [if_neg (by rw [a2j]; simp), List.take_length, hback]
end Go.Rb.R4

namespace Go.Rb.R4
open Go.Rb
theorem d3g (n : Nat) (t : Int) : a8m n (t, ()) = some ((decide (1 ≤ t ∧ t ≤ 3), ()), ()) := by
 unfold a8m
 dsimp only
 by_cases h1 : t = 1
 ·subst h1; rfl
 by_cases h2 : t = 2
 ·subst h2; rfl
 by_cases h3 : t = 3
 ·subst h3; rfl
 ·have : ¬ (1 ≤ t ∧ t ≤ 3) := by omega
  simp [h1, h2, h3, this]
theorem d9g {n : Nat} {t : Int} {l : List Vl} (hv : ∀ v, v ∈ l → okV v) (h : a1n t l = true) (hl : l.length ≤ 1000) (hn : 2000 ≤ n) :
  b1b n (l, ()) = some ((b9t l, ()), ()) := by
 have hro := a1s
 unfold b1b
 dsimp only
 cases l with
 | nil => rfl
 | cons v r =>
  obtain ⟨l, hlr⟩ : ∃ l, v :: r = l := ⟨_, rfl⟩
  have hne : l ≠ [] := by rw [← hlr]; simp
  have h0 : 0 < l.length := by rw [← hlr]; simp
  have hz : (l.getD ((0:Int)).toNat ((0:Int), (0:Int), [], ())) = v := by rw [← hlr]; rfl
  have hL : a3v l = l.foldl (fun m x => if m ≤ x.2.1 then m else x.2.1) v.2.1 := by rw [← hlr]; rfl
  have hlr2 := b1d hv
  have hw64 := b6v hv
  rw [hlr] at hlr2 hw64 hv hl h ⊢
  rw [if_neg (by simp <;> omega), a9d (by omega) (by omega), hz]
  refine a0z (st := fun i => ((l.take i).foldl (fun m x => if m ≤ x.2.1 then m else x.2.1) v.2.1, (i : Int))) l.length (by simp) ?_ ?_ (by omega)
  ·intro rec i hi
   dsimp only
   rw [if_pos (by simp <;> omega), a0f hi, Int.toNat_natCast, a0i hi, a0g (by omega), List.take_succ_eq_append_getElem hi, List.foldl_append]
   rfl
  ·intro rec
   dsimp only
   rw [if_neg (by simp), List.take_length, ← hL]
   refine a0z (st := fun i => ((l.take i).map (fun v => v.2.1 - a3v l), (i : Int))) l.length (by simp) ?_ ?_ (by omega)
   ·intro rec2 i hi
    have hm := List.getElem_mem hi
    dsimp only
    rw [if_pos (by simp <;> omega), a0f hi, Int.toNat_natCast, a0i hi, d1t (hv _ hm).2.1 hlr2 (d2v hm), if_pos (by simp <;> omega), a0g (by omega), map_take _ hi]
   ·intro rec2
    dsimp only
    have habove : (l.take l.length).map (fun v => v.2.1 - a3v l) = a1z l := by rw [List.take_length]; rfl
    have hnum : Nums (a1z l) := b6c hv
    rw [if_neg (by simp), habove, c4u hnum (by rw [a3m]; omega) (by omega) (by rw [a3m]; omega)]
    simp only [Option.bind_some]
    rw [b1r hnum (by rw [a3m]; omega) (by omega) (by rw [a3m]; omega), if_pos ⟨hw64, Nat.le_refl _⟩]
    simp only [Option.bind_some]
    rw [c3v hlr2.1 hlr2.2]
    simp only [Option.bind_some]
    have hzl := b4j hlr2.1 hlr2.2
    have hp := a4j hzl
    rw [a9a hzl (by omega)]
    simp only [Option.bind_some]
    have hmul : l.length * a3j (a1z l) ≤ l.length * 64 := Nat.mul_le_mul_left _ hw64
    rw [if_pos (by simp <;> omega), if_pos (by simp only [List.length_append, List.length_singleton, a4e, a3m]; omega), b3j (by omega), b2z hne]
    simp
theorem b6s {n : Nat} {e t : Int} {l : List Vl} (hv : ∀ v, v ∈ l → okV v) (hl : l.length ≤ 1000) (hn : 2000 ≤ n) :
  a5t n (e, t, l, ()) = some (if a6t e t = true ∧ a1n t l = true then (encB e t l, true, ()) else ([], false, ()), ()) := by
 have hro := a1s
 unfold a5t
 dsimp only
 refine a9y (I := fun _ q => (e = 4 → t ≤ 3) ∧ (e = 5 → t ≤ 2) ∧ a1n t l = true ∧ q = some (if a6t e t = true ∧ a1n t l = true then (encB e t l, true, ()) else ([], false, ()), ())) ?_ ?_
 ·rintro _ _ ⟨q4, q5, hr, rfl⟩
  have hb := a6y hr hv
  rw [hr]
  by_cases c1 : e = 1
  ·subst c1
   rw [if_pos (by simp), if_pos (by simp [a6t])]
   have he : encB 1 t l = l.flatMap oneV := by simp [encB]
   rw [he]
   refine a0z (st := fun i => ((l.take i).flatMap oneV, (i : Int))) l.length (by simp) ?_ ?_ (by omega)
   ·intro rec i hi
    have h2 := a1u (d := l.take i) fun v hv => hb v (List.mem_of_mem_take hv)
    have h3 : (l.take i).length ≤ l.length := by simp <;> omega
    have h4 := b9s (hb _ (List.getElem_mem hi)).1 (hb _ (List.getElem_mem hi)).2
    dsimp only
    rw [if_pos (by simp <;> omega), a0f hi, Int.toNat_natCast, a0i hi, c2t (hb _ (List.getElem_mem hi)).1 (hb _ (List.getElem_mem hi)).2 (by omega)]
    simp only [Option.bind_some]
    rw [if_pos (by omega), a0g (by omega), b4b _ hi]
   ·intro rec
    dsimp only
    rw [if_neg (by simp), List.take_length]
  rw [if_neg (by simpa using c1)]
  by_cases c2 : e = 2
  ·subst c2
   rw [if_pos (by simp), if_pos (by simp [a6t])]
   have he : encB 2 t l = rleB l := by simp [encB]
   rw [he]
   refine (a9n (I := fun k (s : List Int × Int) => ∃ i : Nat, s.2 = (i : Int) ∧ i + k = l.length ∧ s.1.length + 31 * k ≤ 40000) (res := fun s => some ((s.1 ++ rleB (l.drop s.2.toNat), true, ()), ())) ?_ n l.length _ ⟨0, rfl, by omega, by simp <;> omega⟩ (by omega)).trans (by simp)
   rintro k ⟨acc, q⟩ rec ⟨i, rfl, h1, h2⟩ hrec
   dsimp only at h2 ⊢
   rw [Int.toNat_natCast]
   by_cases hi : i < l.length
   rotate_left
   ·rw [if_neg (by simp <;> omega), List.drop_eq_nil_iff.2 (by omega)]; simp [c2d]
   have hm := hb _ (List.getElem_mem hi)
   have e0 := List.drop_eq_getElem_cons hi
   obtain ⟨v, hve⟩ : ∃ v, l[i] = v := ⟨_, rfl⟩
   have hgi : l.getD i ((0:Int), (0:Int), [], ()) = v := by rw [a0i hi, hve]
   rw [hve] at hm e0
   have hrn := c3t v (l.drop (i + 1))
   have hdl : (l.drop (i + 1)).length = l.length - (i + 1) := by simp
   rw [if_pos (by simp <;> omega)]
   refine a9y (I := fun s q => s = ((1 + runN v (l.drop (i + 1)) : Nat) : Int) ∧ q = some ((acc ++ rleB (l.drop i), true, ()), ())) ?_ ?_
   ·rintro _ _ ⟨rfl, rfl⟩
    have hp := a4j (v := 1 + runN v (l.drop (i + 1))) (by omega)
    rw [a2u (by omega), a9a (by omega) (by omega)]
    simp only [Option.bind_some]
    have h5 := b9s hm.1 hm.2
    rw [if_pos (by omega), a0f hi, hgi, c2t hm.1 hm.2 (by omega)]
    simp only [Option.bind_some]
    have hw : IntKind.i64.wrap ((i : Int) + ((1 + runN v (l.drop (i + 1)) : Nat) : Int)) = ((i + (1 + runN v (l.drop (i + 1))) : Nat) : Int) := by
     rw [show ((i : Int) + ((1 + runN v (l.drop (i + 1)) : Nat) : Int)) = ((i + (1 + runN v (l.drop (i + 1))) : Nat) : Int) by omega, a0x (by omega)]
    rw [if_pos (by simp <;> omega), hw, hrec (k - (1 + runN v (l.drop (i + 1)))) _ (by omega) ⟨i + (1 + runN v (l.drop (i + 1))), rfl, by omega, by simp <;> omega⟩]
    dsimp only
    rw [Int.toNat_natCast, e0, b1u]
    have hd : l.drop (i + (1 + runN v (l.drop (i + 1)))) = (l.drop (i + 1)).drop (runN v (l.drop (i + 1))) := by rw [List.drop_drop]; congr 1; omega
    rw [hd]
    simp
   ·intro J hJ
    have hcode : ∀ j : Nat, j < 100000 → IntKind.i64.wrap ((i : Int) + (j : Int)) = ((i + j : Nat) : Int) := fun j hj => by
     rw [show ((i : Int) + (j : Int)) = ((i + j : Nat) : Int) by omega, a0x (by omega)]
    refine a0z (st := fun j => ((1 + j : Nat) : Int)) (runN v (l.drop (i + 1))) rfl ?_ ?_ (by omega)
    ·intro rec2 j hj
     have hlt : i + (1 + j) < l.length := by omega
     have e1 : l.getD (i + (1 + j)) ((0:Int), (0:Int), [], ()) = v := by
      have := e0r v hj
      rw [a0i (by omega), List.getElem_drop] at this
      rw [a0i hlt, ← this]
      congr 1; omega
     rw [hcode _ (by omega), if_pos (by simp <;> omega), a0f hlt, a0f hi]
     rw [if_pos (by simp only [Int.toNat_natCast, e1, hgi, decide_true, Bool.and_self]), a0g (by omega)]
     congr 2
    ·intro rec2
     rw [hcode _ (by omega)]
     by_cases hend : runN v (l.drop (i + 1)) < (l.drop (i + 1)).length
     ·have hlt : i + (1 + runN v (l.drop (i + 1))) < l.length := by omega
      have e1 : l.getD (i + (1 + runN v (l.drop (i + 1)))) ((0:Int), (0:Int), [], ()) ≠ v := by
       have := d9r v hend
       rw [List.getElem_drop] at this
       rw [a0i hlt]
       intro h
       refine this (Eq.trans ?_ h)
       congr 1; omega
      rw [if_pos (by simp <;> omega), a0f hlt, a0f hi]
      rw [if_neg (by simp only [Int.toNat_natCast, hgi, eqVl, decide_eq_true_eq]; exact e1)]
      exact hJ _ _ ⟨rfl, rfl⟩
     ·rw [if_neg (by simp <;> omega)]
      exact hJ _ _ ⟨rfl, rfl⟩
  rw [if_neg (by simpa using c2)]
  by_cases c3 : e = 3
  ·subst c3
   rw [if_pos (by simp), if_pos (by simp [a6t]), d9j hv hr hl hn]
   simp [encB]
  rw [if_neg (by simpa using c3)]
  by_cases c4 : e = 4
  ·subst c4
   rw [if_pos (by simp), if_pos (by simp [a6t, q4]), d9g hv hr hl hn]
   simp [encB]
  rw [if_neg (by simpa using c4)]
  by_cases c5 : e = 5
  ·subst c5
   have ht2 := q5 rfl
   rw [if_pos (by simp), if_pos (by simp [a6t, ht2])]
   have he : encB 5 t l = a7f 0 l := by simp [encB]
   rw [he]
   refine (a9n (I := fun k (s : List Int × Int) => ∃ i : Nat, s.2 = (i : Int) ∧ i + k = l.length ∧ s.1.length + 10 * k ≤ 20000) (res := fun s => some ((s.1 ++ a7f (if s.2.toNat = 0 then 0 else (l.getD (s.2.toNat - 1) ((0:Int), (0:Int), [], ())).2.1) (l.drop s.2.toNat), true, ()), ())) ?_ n l.length _ ⟨0, rfl, by omega, by simp <;> omega⟩ (by omega)).trans (by simp)
   rintro k ⟨acc, q⟩ rec ⟨i, rfl, h1, h2⟩ hrec
   dsimp only at h2 ⊢
   rw [Int.toNat_natCast]
   by_cases hi : i < l.length
   rotate_left
   ·rw [if_neg (by simp <;> omega), List.drop_eq_nil_iff.2 (by omega)]; simp [a7f]
   have hm := hb _ (List.getElem_mem hi)
   rw [if_pos (by simp <;> omega), a0f hi, List.drop_eq_getElem_cons hi]
   obtain ⟨last, hlast⟩ : ∃ last, (if i = 0 then (0:Int) else (l.getD (i - 1) ((0:Int), (0:Int), [], ())).2.1) = last := ⟨_, rfl⟩
   rw [hlast]
   have h7 := b6f last l[i].2.1
   have hz := a7v last l[i].2.1
   have h8 := a4j hz
   have hgo : ((a5r n (c2w last l[i].2.1, ())).bind fun y18 => ((a1g n (y18.1.1, ())).bind fun y19 => (if (acc.length + y19.1.1.length) * 1 ≤ room then (rec ((acc ++ y19.1.1), (IntKind.i64.wrap ((i : Int) + 1)))) else none))) = some ((acc ++ a7f last (l[i] :: l.drop (i + 1)), true, ()), ()) := by
    rw [c3v h7.1 h7.2]
    simp only [Option.bind_some]
    rw [a9a hz (by omega)]
    simp only [Option.bind_some]
    rw [if_pos (by omega), a0g (by omega), hrec (k - 1) _ (by omega) ⟨i + 1, rfl, by omega, by simp <;> omega⟩]
    dsimp only
    rw [Int.toNat_natCast, if_neg (by omega), Nat.add_sub_cancel, a0i hi]
    simp only [a7f, List.append_assoc]
   by_cases h0 : i = 0
   ·rw [if_neg (by simp <;> omega)]
    rw [if_pos h0] at hlast
    have hst : c2w last l[i].2.1 = l[i].2.1 := by
     unfold c2w
     rw [← hlast, Int.sub_zero, a1x hm.2.2.1.1 hm.2.2.1.2]
    rw [hst] at hgo
    rw [a0i hi]
    exact hgo
   ·rw [if_pos (by simp <;> omega), a0f hi]
    rw [if_neg h0] at hlast
    have hw : IntKind.i64.wrap ((i : Int) - 1) = ((i - 1 : Nat) : Int) := by
     rw [show ((i : Int) - 1) = ((i - 1 : Nat) : Int) by omega, a0x (by omega)]
    rw [hw, a0f (by omega)]
    simp only [Int.toNat_natCast]
    rw [hlast, a0i hi]
    exact hgo
  ·rw [if_neg (by simpa using c5), if_neg]
   rintro ⟨h, _⟩
   simp [a6t, c1, c2, c3, c4, c5] at h
 ·intro J hJ
  rw [d7x (by omega) (by omega)]
  simp only [Option.bind_some]
  by_cases hr : a1n t l = true
  rotate_left
  ·rw [if_pos (by simp [hr]), if_neg (fun h => hr h.2)]
  ·obtain ⟨ht1, ht4, _⟩ := a2y hr
   rw [if_neg (by simp [hr]), d3g]
   simp only [Option.bind_some]
   by_cases c4 : e = 4
   ·subst c4
    rw [if_pos (by simp)]
    by_cases h3 : t ≤ 3
    ·rw [if_neg (by simp <;> omega), if_neg (by simp)]
     exact hJ _ _ ⟨fun _ => h3, fun h => by omega, hr, rfl⟩
    ·rw [if_pos (by simp <;> omega), if_neg]
     rintro ⟨h, _⟩
     simp [a6t] at h
     omega
   ·rw [if_neg (by simpa using c4)]
    by_cases c5 : e = 5
    ·subst c5
     rw [if_pos (by simp)]
     by_cases h1 : t = 1
     ·rw [if_neg (by simpa using h1)]
      exact hJ _ _ ⟨fun h => by omega, fun _ => by omega, hr, rfl⟩
     rw [if_pos (by simpa using h1)]
     by_cases h2 : t = 2
     ·rw [if_neg (by simpa using h2)]
      exact hJ _ _ ⟨fun h => by omega, fun _ => by omega, hr, rfl⟩
     ·rw [if_pos (by simpa using h2), if_neg]
      rintro ⟨h, _⟩
      simp [a6t] at h
      omega
    ·rw [if_neg (by simpa using c5)]
     exact hJ _ _ ⟨fun h => absurd h c4, fun h => absurd h c5, hr, rfl⟩
theorem c7p (n : Nat) (e t : Int) : a7z n (e, t, ()) = some (match b7i e t with | some u => (u, true, ()) | none => (0, false, ()), ()) := by
 unfold a7z b7i
 dsimp only
 rw [b0p]
 simp only [Option.bind_some]
 by_cases h1 : 1 ≤ t ∧ t ≤ 4
 rotate_left
 ·have : isT t = false := by
   cases h : isT t with
   | false => rfl
   | true => exact absurd (c9c.1 h) h1
  rw [this, if_pos (by simp), if_neg (by omega)]
 rw [c9c.2 h1, if_neg (by simp)]
 by_cases h3 : e < 1
 ·rw [if_pos (by simpa using h3), if_neg (by omega)]
 rw [if_neg (by simpa using h3)]
 by_cases h4 : 5 < e
 ·rw [if_pos (by simpa using h4), if_neg (by omega)]
 rw [if_neg (by simpa using h4)]
 have ht : t = 1 ∨ t = 2 ∨ t = 3 ∨ t = 4 := by omega
 have he : e = 5 ∨ e = 4 ∨ e = 3 ∨ e = 2 ∨ e = 1 := by omega
 rcases he with rfl | rfl | rfl | rfl | rfl <;> rcases ht with rfl | rfl | rfl | rfl <;> decide
theorem c7k {n : Nat} {l : List Bool} (hl : l.length < 100000) (hn : l.length < n) (hn2 : 64 < n) : a6n n (l, ()) = some ((b2k l, ()), ()) := by
 have hro := a1s
 unfold a6n
 dsimp only
 rw [if_pos (by omega), Int.toNat_natCast]
 refine a0z (st := fun i => ((l.take i).map b2i ++ List.replicate (l.length - i) 0, (i : Int))) l.length (by simp) ?_ ?_ hn
 ·intro rec i hi
  have hset : ∀ x : Int, ((l.take i).map b2i ++ List.replicate (l.length - i) 0).set i x = (l.take i).map b2i ++ (x :: List.replicate (l.length - (i + 1)) 0) := by
   intro x
   rw [List.set_append_right _ _ (by simp <;> omega), show l.length - i = (l.length - (i + 1)) + 1 by omega, List.replicate_succ]
   have : i - ((l.take i).map b2i).length = 0 := by simp <;> omega
   rw [this, List.set_cons_zero]
  dsimp only
  rw [if_pos (by simp <;> omega), a0f hi]
  simp only [Int.toNat_natCast]
  rw [a0i hi, a0g (by omega), map_take _ hi]
  by_cases hx : l[i] = true
  ·rw [if_pos hx, a0f (by simp <;> omega), hset, hx]
   simp [b2i]
  ·rw [if_neg hx]
   have hx' : l[i] = false := by simpa using hx
   rw [hx', show l.length - i = (l.length - (i + 1)) + 1 by omega, List.replicate_succ]
   simp [b2i]
 ·intro rec
  dsimp only
  have hsm := c9g l
  have hnum : Nums (l.map b2i) := fun x hx => ⟨(hsm x hx).1, by have := hsm x hx; omega⟩
  have hw : a3j (l.map b2i) ≤ 1 := b5f.2 fun x hx => (hsm x hx).2
  have := b1r (n := n) (w := 1) hnum (by simp <;> omega) hn2 (by simp <;> omega)
  rw [if_pos ⟨by omega, hw⟩] at this
  rw [if_neg (by simp), List.take_length, Nat.sub_self, List.replicate_zero, List.append_nil]
  erw [this]
  rfl
theorem e9w (t : Int) (v : Vl) : (mayV v && (isT t && (decide (v.1 = 0) || decide (v.1 = t)))) = a9c t v := by
 unfold a9c isT
 cases mayV v <;> simp
theorem e6t (l : List Vl) : (a4k l).length < l.length ↔ l.any isN = true := by
 unfold a4k
 rw [List.length_filter_lt_length_iff_exists, List.any_eq_true]
 simp
theorem b2f {n : Nat} {e t : Int} {l : List Vl} (hv : ∀ v, v ∈ l → okV v) (hl : l.length ≤ 1000) (hn : 2000 ≤ n) :
  a2e n (e, t, l, ()) = some (match b3m e t l with | some b => (b, true, ()) | none => ([], false, ()), ()) := by
 have hro := a1s
 unfold a2e b3m
 dsimp only
 rw [c7p]
 simp only [Option.bind_some]
 cases hu : b7i e t with
 | none => rfl
 | some u =>
  obtain ⟨u1, u2, u3, u4, u5, _⟩ := b5n hu
  dsimp only
  rw [if_neg (by simp)]
  refine (a9n (I := fun k (s : List Bool × List Vl × Int) => ∃ i : Nat, s = ((l.take i).map isN, a4k (l.take i), (i : Int)) ∧ i + k = l.length ∧ ∀ v, v ∈ l.take i → a9c t v = true)
   (res := fun s => some (if (l.drop s.2.2.toNat).all (a9c t) = true then (colB u t l, true, ()) else ([], false, ()), ())) ?_ n l.length _ ⟨0, by simp [a4k], by omega, by simp⟩ (by omega)).trans ?_
  ·rintro k _ rec ⟨i, rfl, h1, h2⟩ hrec
   dsimp only
   rw [Int.toNat_natCast]
   by_cases hi : i < l.length
   ·have hsl := c1y (l.take i)
    have hti : (l.take i).length ≤ 1000 := by simp <;> omega
    rw [if_pos (by simp <;> omega), a0f hi, a0i hi, c9e]
    simp only [Option.bind_some]
    rw [e9w, List.drop_eq_getElem_cons hi, List.all_cons]
    cases hf : a9c t l[i] with
    | false => rw [if_pos (by simp), if_neg (by simp)]
    | true =>
     have hnext : ∀ v, v ∈ l.take (i + 1) → a9c t v = true := by
      intro v hm
      rw [List.take_succ_eq_append_getElem hi] at hm
      rcases List.mem_append.1 hm with hm | hm
      ·exact h2 v hm
      ·simp at hm; subst hm; exact hf
     rw [if_neg (by simp), a0f hi, if_pos (by simp <;> omega), a0f hi, a0g (by omega)]
     have e1 : (l.take i).map isN ++ [decide (l[i].1 = 0)] = (l.take (i + 1)).map isN := by
      rw [List.take_succ_eq_append_getElem hi, List.map_append]; rfl
     rw [e1]
     have e2 : a4k (l.take (i + 1)) = a4k (l.take i) ++ a4k [l[i]] := by
      unfold a4k
      rw [List.take_succ_eq_append_getElem hi, List.filter_append]
     cases hN : isN l[i] with
     | true =>
      have h0 : l[i].1 = 0 := by simpa [isN] using hN
      have e3 : a4k (l.take i) = a4k (l.take (i + 1)) := by rw [e2]; simp [a4k, hN]
      rw [if_neg (by simp [h0]), e3, hrec (k - 1) _ (by omega) ⟨i + 1, rfl, by omega, hnext⟩]
      dsimp only
      rw [Int.toNat_natCast, Bool.true_and]
     | false =>
      have h0 : ¬ l[i].1 = 0 := by simpa [isN] using hN
      have e3 : a4k (l.take i) ++ [l[i]] = a4k (l.take (i + 1)) := by rw [e2]; simp [a4k, hN]
      rw [if_pos (by simp [h0]), a0f hi, if_pos (by simp <;> omega), e3, hrec (k - 1) _ (by omega) ⟨i + 1, rfl, by omega, hnext⟩]
      dsimp only
      rw [Int.toNat_natCast, Bool.true_and]
   ·have hil : i = l.length := by omega
    subst hil
    rw [List.take_length] at h2 ⊢
    have hr := b1p ⟨u2, u3⟩ h2
    have hok := b4n hv
    have hsl := c1y l
    have hEL := e2m (e := u) hr hok (by omega)
    have hHL := d5h u hl
    rw [if_neg (by simp), List.drop_length, if_pos (by simp)]
    refine a9y (I := fun s q => s = c5j u l ∧ q = some ((colB u t l, true, ()), ())) ?_ ?_
    ·rintro _ _ ⟨rfl, rfl⟩
     rw [b6s hok (by omega) hn, if_pos ⟨u1, hr⟩]
     simp only [Option.bind_some]
     rw [if_pos (by omega), d4e]
    ·intro J hJ
     rw [b3k (by omega) (by omega)]
     by_cases ha : l.any isN = true
     ·have hlt := (e6t l).2 ha
      rw [if_pos (by simp only [decide_eq_true_eq]; omega), a9d (by omega) (by simp), c7k (by simp <;> omega) (by simp <;> omega) (by omega)]
      simp only [Option.bind_some]
      have hnl := b2c (l.map isN)
      rw [List.length_map] at hnl
      rw [if_pos (by simp <;> omega)]
      exact hJ _ _ ⟨by unfold c5j; rw [if_pos ha]; rfl, rfl⟩
     ·have hlt : ¬ (a4k l).length < l.length := fun h => ha ((e6t l).1 h)
      rw [if_neg (by simp only [decide_eq_true_eq]; omega)]
      exact hJ _ _ ⟨by unfold c5j; rw [if_neg ha], rfl⟩
  ·dsimp only
   rw [show Int.toNat 0 = 0 from rfl, List.drop_zero]
   split <;> rfl
end Go.Rb.R4

namespace Go.Rb.R4
open Go.Rb
def d3r (e t m : Int) (b : List Int) (y : (List Vl × Bool × Unit) × Unit) : Prop :=
 (∃ l, y = ((l, true, ()), ()) ∧ (∀ v, v ∈ l → okV v) ∧ l.length ≤ 1000 ∧ ∀ l', a4t e t m b l' → l = l') ∨ (y = (([], false, ()), ()) ∧ ∀ l, ¬ a4t e t m b l)
theorem d5s {t : Int} {v : Vl} (h : a0r t v = true) : mayV v = true := by
 unfold a0r at h
 simp only [Bool.and_eq_true] at h
 exact h.2
theorem d0c {n : Nat} {t m : Int} {b : List Int} (ht : 1 ≤ t ∧ t ≤ 4) (hm : 0 ≤ m ∧ m ≤ 1000) (hb : a3p b) (hl : b.length < 1000000) (hn : 70000 ≤ n) :
  Gets (a4s n ((1:Int), t, m, b, ())) (d3r 1 t m b) := by
 have hro := a1s
 have bad : (∀ l, ¬ a4t 1 t m b l) → Gets (some ((([] : List Vl), false, ()), ())) (d3r 1 t m b) := fun h => Gets.some (.inr ⟨rfl, h⟩)
 obtain ⟨M, rfl⟩ : ∃ M : Nat, m = (M : Int) := ⟨_, (Int.toNat_of_nonneg (by omega)).symm⟩
 unfold a4s
 dsimp only
 rw [if_pos (by simp)]
 refine Gets.iter (I := fun s : List Int × List Vl => ∃ (rest : List Int) (vs : List Vl), s = (rest, vs) ∧ vs.length ≤ M ∧ a3p rest ∧ rest.length < 1000000 ∧ (∀ v, v ∈ vs → okV v) ∧ ∀ l, a4t 1 t (M : Int) b l → vs = l.take vs.length ∧ rest = (l.drop vs.length).flatMap oneV)
  (μ := fun s => M - s.2.length) ⟨b, [], rfl, by simp, hb, hl, by simp, fun l hg => ⟨by simp, by simpa using (d5v hg).2.2.2.2.2.symm⟩⟩ (by simp <;> omega) ?_
 rintro rec _ ⟨rest, vs, rfl, g1, g2, g3, g4, g5⟩ hrec
 dsimp only
 by_cases h3 : vs.length < M
 ·rw [if_pos (by simp <;> omega)]
  refine Gets.bind (a9k (n := n) (t := t) ht g2 g3 (by omega)) fun y hy => ?_
  have hgood : ∀ l, a4t 1 t (M : Int) b l → ∃ v r, rest = oneV v ++ r.flatMap oneV ∧ a0r t v = true ∧ okV v ∧ l.drop vs.length = v :: r := by
   intro l hg
   obtain ⟨_, e2⟩ := g5 l hg
   obtain ⟨_, _, q3, q4, q5, _⟩ := d5v hg
   have hlt : vs.length < l.length := by omega
   have e3 := List.drop_eq_getElem_cons hlt
   rw [e3, List.flatMap_cons] at e2
   exact ⟨l[vs.length], _, e2, (a2y q4).2.2 _ (List.getElem_mem _), q5 _ (List.getElem_mem _), e3⟩
  unfold OneP at hy
  cases hf : a3s t rest with
  | none =>
   rw [hf] at hy
   obtain ⟨v, k, rfl⟩ := hy
   dsimp only
   rw [if_pos (by simp)]
   refine bad fun l hg => ?_
   obtain ⟨v, r, e1, e2, e3, _⟩ := hgood l hg
   rw [e1, b1h e2 e3] at hf
   cases hf
  | some q =>
   obtain ⟨v, k⟩ := q
   rw [hf] at hy
   subst hy
   obtain ⟨q1, q2, q3, q4⟩ := b5p (by omega) g2 hf
   dsimp only
   cases hmay : mayV v with
   | false =>
    rw [if_pos (by simp)]
    refine bad fun l hg => ?_
    obtain ⟨v', r, e1, e2, e3, _⟩ := hgood l hg
    rw [e1] at hf
    obtain ⟨rfl, _⟩ := b5g e2 e3 hf
    rw [d5s e2] at hmay
    cases hmay
   | true =>
    rw [if_neg (by simp), if_pos (by simp <;> omega), if_pos (by omega)]
    simp only [Int.toNat_natCast, List.take_length]
    refine hrec _ ⟨rest.drop k, vs ++ [v], by simp, by simp <;> omega, g2.drop _, by simp <;> omega, ?_, fun l hg => ?_⟩ (by simp <;> omega)
    ·intro x hx
     rcases List.mem_append.1 hx with hx | hx
     ·exact g4 x hx
     ·simp at hx; subst hx; exact q1
    ·obtain ⟨v', r, e1, e2, e3, e4⟩ := hgood l hg
     obtain ⟨e5, _⟩ := g5 l hg
     rw [e1] at hf
     obtain ⟨rfl, e6⟩ := b5g e2 e3 hf
     have hlt : vs.length < l.length := by
      rcases Nat.lt_or_ge vs.length l.length with h | h
      ·exact h
      ·rw [List.drop_eq_nil_iff.2 h] at e4; cases e4
     have e7 := List.drop_eq_getElem_cons hlt
     rw [e4] at e7
     obtain ⟨e8, e9⟩ := List.cons.inj e7
     rw [e1, e6, List.length_append, List.length_singleton, ← e9, List.take_succ_eq_append_getElem hlt, ← e5, e8]
     exact ⟨rfl, rfl⟩
 ·have hM : vs.length = M := by omega
  rw [if_neg (by simp <;> omega)]
  refine Gets.some (.inl ⟨vs, rfl, g4, by omega, fun l hg => ?_⟩)
  have e1 := (g5 l hg).1
  have q3 := (d5v hg).2.2.1
  rwa [List.take_of_length_le (by omega)] at e1
theorem c9w {n : Nat} {t m : Int} {b : List Int} (ht : 1 ≤ t ∧ t ≤ 4) (hm : 0 ≤ m ∧ m ≤ 1000) (hb : a3p b) (hl : b.length < 1000000) (hn : 70000 ≤ n) :
  Gets (a4s n ((2:Int), t, m, b, ())) (d3r 2 t m b) := by
 have hro := a1s
 have bad : (∀ l, ¬ a4t 2 t m b l) → Gets (some ((([] : List Vl), false, ()), ())) (d3r 2 t m b) := fun h => Gets.some (.inr ⟨rfl, h⟩)
 obtain ⟨M, rfl⟩ : ∃ M : Nat, m = (M : Int) := ⟨_, (Int.toNat_of_nonneg (by omega)).symm⟩
 unfold a4s
 dsimp only
 rw [if_neg (by simp), if_pos (by simp)]
 refine Gets.iter (I := fun s : List Int × List Vl => ∃ (rest : List Int) (vs : List Vl), s = (rest, vs) ∧ vs.length ≤ M ∧ a3p rest ∧ rest.length < 1000000 ∧ (∀ v, v ∈ vs → okV v) ∧ ∀ l, a4t 2 t (M : Int) b l → vs = l.take vs.length ∧ rest = rleB (l.drop vs.length))
  (μ := fun s => M - s.2.length) ⟨b, [], rfl, by simp, hb, hl, by simp, fun l hg => ⟨by simp, by simpa using (d6e hg).2.2.2.2.2.symm⟩⟩ (by simp <;> omega) ?_
 rintro rec _ ⟨rest, vs, rfl, g1, g2, g3, g4, g5⟩ hrec
 dsimp only
 by_cases h3 : vs.length < M
 ·rw [if_pos (by simp <;> omega), a7k g2 g3 (by omega)]
  simp only [Option.bind_some]
  have hgood : ∀ l, a4t 2 t (M : Int) b l → ∃ v r, rest = putN (1 + runN v r) ++ (oneV v ++ rleB (r.drop (runN v r))) ∧ a0r t v = true ∧ okV v ∧ l.drop vs.length = v :: r ∧ vs.length + (1 + runN v r) ≤ M := by
   intro l hg
   obtain ⟨_, e2⟩ := g5 l hg
   obtain ⟨_, _, q3, q4, q5, _⟩ := d6e hg
   have hlt : vs.length < l.length := by omega
   have e3 := List.drop_eq_getElem_cons hlt
   rw [e3, b1u] at e2
   have e4 := c3t l[vs.length] (l.drop (vs.length + 1))
   have e5 : (l.drop (vs.length + 1)).length = l.length - (vs.length + 1) := by simp
   exact ⟨l[vs.length], _, e2, (a2y q4).2.2 _ (List.getElem_mem _), q5 _ (List.getElem_mem _), e3, by omega⟩
  have hsz : ∀ {v r}, vs.length + (1 + runN v r) ≤ M → 1 + runN v r < 18446744073709551616 := by intro v r h; omega
  cases htk : a4f rest with
  | none =>
   dsimp only
   rw [if_pos (by simp)]
   refine bad fun l hg => ?_
   obtain ⟨v, r, e1, _, _, _, e5⟩ := hgood l hg
   rw [e1, a5w _ _ (hsz e5)] at htk
   cases htk
  | some q =>
   obtain ⟨u, k⟩ := q
   have hT := a2x g2 htk
   have hK := b1i g2 htk
   have hk1 := b5w u
   dsimp only
   have hw : IntKind.u64.wrap (IntKind.i64.wrap ((M : Int) - (vs.length : Int))) = ((M - vs.length : Nat) : Int) := by
    rw [show ((M : Int) - (vs.length : Int)) = ((M - vs.length : Nat) : Int) by omega, a0x (by omega), a2u (by omega)]
   rw [if_neg (by simp), hw]
   have hgood2 : ∀ l, a4t 2 t (M : Int) b l → ∃ v r, u = 1 + runN v r ∧ rest.drop k = oneV v ++ rleB (r.drop (runN v r)) ∧ a0r t v = true ∧ okV v ∧ l.drop vs.length = v :: r ∧ vs.length + u ≤ M := by
    intro l hg
    obtain ⟨v, r, e1, e2, e3, e4, e5⟩ := hgood l hg
    have htk' := htk
    rw [e1, a5w _ _ (hsz e5)] at htk'
    simp only [Option.some.injEq, Prod.mk.injEq] at htk'
    refine ⟨v, r, htk'.1.symm, ?_, e2, e3, e4, by omega⟩
    rw [e1, ← htk'.2]; simp
   by_cases h0 : u = 0
   ·rw [if_pos (by simp <;> omega)]
    refine bad fun l hg => ?_
    obtain ⟨v, r, e1, _⟩ := hgood2 l hg
    omega
   rw [if_neg (by simp <;> omega)]
   by_cases h4 : M - vs.length < u
   ·rw [if_pos (by simp <;> omega)]
    refine bad fun l hg => ?_
    obtain ⟨v, r, _, _, _, _, _, e5⟩ := hgood2 l hg
    omega
   ·rw [if_neg (by simp <;> omega), if_pos (by omega)]
    simp only [Int.toNat_natCast, List.take_length]
    refine Gets.bind (a9k (n := n) (t := t) ht (g2.drop k) (by simp <;> omega) (by omega)) fun y hy => ?_
    unfold OneP at hy
    cases hf : a3s t (rest.drop k) with
    | none =>
     rw [hf] at hy
     obtain ⟨v, k, rfl⟩ := hy
     dsimp only
     rw [if_pos (by simp)]
     refine bad fun l hg => ?_
     obtain ⟨v, r, _, e1, e2, e3, _⟩ := hgood2 l hg
     rw [e1, b1h e2 e3] at hf
     cases hf
    | some q =>
     obtain ⟨v, k2⟩ := q
     rw [hf] at hy
     subst hy
     obtain ⟨q1, q2, q3, q4⟩ := b5p (by omega) (g2.drop k) hf
     rw [List.length_drop] at q3
     dsimp only
     cases hmay : mayV v with
     | false =>
      rw [if_pos (by simp)]
      refine bad fun l hg => ?_
      obtain ⟨v', r, _, e1, e2, e3, _⟩ := hgood2 l hg
      rw [e1] at hf
      obtain ⟨rfl, _⟩ := b5g e2 e3 hf
      rw [d5s e2] at hmay
      cases hmay
     | true =>
      rw [if_neg (by simp)]
      have hw2 : IntKind.i64.wrap ((k : Int) + (k2 : Int)) = ((k + k2 : Nat) : Int) := by
       rw [show ((k : Int) + (k2 : Int)) = ((k + k2 : Nat) : Int) by omega, a0x (by omega)]
      refine Gets.iter (I := fun s : List Vl × Int => ∃ i : Nat, i ≤ u ∧ s = (vs ++ List.replicate i v, (i : Int))) (μ := fun s => u - s.2.toNat) ⟨0, by omega, by simp⟩ (by simp <;> omega) ?_
      rintro rec2 _ ⟨i, hi, rfl⟩ hrec2
      dsimp only
      by_cases h6 : i < u
      ·rw [if_pos (by simp <;> omega), if_pos (by simp <;> omega)]
       refine hrec2 _ ⟨i + 1, by omega, ?_⟩ (by simp only [Int.toNat_natCast]; rw [show ((i : Int) + 1) = ((i + 1 : Nat) : Int) by omega, a2u (by omega)]; omega)
       rw [show ((i : Int) + 1) = ((i + 1 : Nat) : Int) by omega, a2u (by omega), List.append_assoc, ← List.replicate_succ']
      ·obtain rfl : i = u := by omega
       rw [if_neg (by simp <;> omega), hw2, if_pos (by omega)]
       simp only [Int.toNat_natCast]
       refine hrec _ ⟨rest.drop (k + k2), vs ++ List.replicate i v, rfl, by simp <;> omega, g2.drop _, by simp <;> omega, ?_, fun l hg => ?_⟩ (by simp <;> omega)
       ·intro x hx
        rcases List.mem_append.1 hx with hx | hx
        ·exact g4 x hx
        ·rw [List.eq_of_mem_replicate hx]; exact q1
       ·obtain ⟨v', r, e1, e2, e3, e4, e5, _⟩ := hgood2 l hg
        obtain ⟨e6, _⟩ := g5 l hg
        rw [e2] at hf
        obtain ⟨rfl, e7⟩ := b5g e3 e4 hf
        rw [← List.drop_drop, e2, e7]
        have hlen : (vs ++ List.replicate i v).length = vs.length + i := by simp
        have e8 : l.drop vs.length = List.replicate i v ++ r.drop (runN v r) := by
         rw [e5, e1, Nat.add_comm, List.replicate_succ, List.cons_append, ← b4z v r]
        have e9 : l.drop (vs.length + i) = r.drop (runN v r) := by
         rw [← List.drop_drop, e8, List.drop_left' (by simp)]
        rw [hlen, e9]
        refine ⟨?_, rfl⟩
        rw [List.take_add, ← e6, e8, List.take_left' (by simp)]
 ·rw [if_neg (by simp <;> omega)]
  refine Gets.some (.inl ⟨vs, rfl, g4, by omega, fun l hg => ?_⟩)
  have e1 := (g5 l hg).1
  have q3 := (d6e hg).2.2.1
  rwa [List.take_of_length_le (by omega)] at e1
theorem d0d {n : Nat} {t m : Int} {b : List Int} (ht : 1 ≤ t ∧ t ≤ 4) (hm : 0 ≤ m ∧ m ≤ 1000) (hb : a3p b) (hl : b.length < 1000000) (hn : 70000 ≤ n) :
  Gets (a4s n ((5:Int), t, m, b, ())) (d3r 5 t m b) := by
 have hro := a1s
 have bad : (∀ l, ¬ a4t 5 t m b l) → Gets (some ((([] : List Vl), false, ()), ())) (d3r 5 t m b) := fun h => Gets.some (.inr ⟨rfl, h⟩)
 obtain ⟨M, rfl⟩ : ∃ M : Nat, m = (M : Int) := ⟨_, (Int.toNat_of_nonneg (by omega)).symm⟩
 unfold a4s
 dsimp only
 rw [if_neg (by simp), if_neg (by simp), if_neg (by simp), if_neg (by simp), if_pos (by simp)]
 refine Gets.iter (I := fun s : List Int × List Vl × Int => ∃ (rest : List Int) (vs : List Vl) (last : Int), s = (rest, vs, last) ∧ (-9223372036854775808 ≤ last ∧ last ≤ 9223372036854775807) ∧ vs.length ≤ M ∧ a3p rest ∧ rest.length < 1000000 ∧ (∀ v, v ∈ vs → okV v) ∧
   ∀ l, a4t 5 t (M : Int) b l → vs = l.take vs.length ∧ rest = a7f last (l.drop vs.length))
  (μ := fun s => M - s.2.1.length) ⟨b, [], 0, rfl, by omega, by simp, hb, hl, by simp, fun l hg => ⟨by simp, by simpa using (d2i hg).2.2.2.2.2.2.symm⟩⟩ (by simp <;> omega) ?_
 rintro rec _ ⟨rest, vs, last, rfl, g0, g1, g2, g3, g4, g5⟩ hrec
 dsimp only
 by_cases h3 : vs.length < M
 ·rw [if_pos (by simp <;> omega), a7k g2 g3 (by omega)]
  simp only [Option.bind_some]
  have hgood : ∀ l, a4t 5 t (M : Int) b l → ∃ (hlt : vs.length < l.length), rest = putN (zig (c2w last l[vs.length].2.1)) ++ a7f l[vs.length].2.1 (l.drop (vs.length + 1)) ∧ a0r t l[vs.length] = true ∧ okV l[vs.length] ∧ t ≤ 2 := by
   intro l hg
   obtain ⟨_, e2⟩ := g5 l hg
   obtain ⟨_, _, q3, q0, q4, q5, _⟩ := d2i hg
   have hlt : vs.length < l.length := by omega
   rw [List.drop_eq_getElem_cons hlt] at e2
   exact ⟨hlt, e2, (a2y q4).2.2 _ (List.getElem_mem _), q5 _ (List.getElem_mem _), q0⟩
  cases htk : a4f rest with
  | none =>
   dsimp only
   rw [if_pos (by simp)]
   refine bad fun l hg => ?_
   obtain ⟨hlt, e1, _⟩ := hgood l hg
   rw [e1, a5w _ _ (a7v _ _)] at htk
   cases htk
  | some q =>
   obtain ⟨u, k⟩ := q
   have hT := a2x g2 htk
   have hK := b1i g2 htk
   dsimp only
   rw [if_neg (by simp), c3h hT.1]
   simp only [Option.bind_some]
   have hz := d6f hT.1
   have hnew := b8p (last + zag u)
   rw [if_pos (by omega), if_pos (by simp <;> omega)]
   simp only [Int.toNat_natCast, List.take_length]
   refine hrec _ ⟨rest.drop k, vs ++ [(t, IntKind.i64.wrap (last + zag u), [], ())], IntKind.i64.wrap (last + zag u), rfl, hnew, by simp <;> omega, g2.drop _, by simp <;> omega, ?_, fun l hg => ?_⟩ (by simp <;> omega)
   ·intro x hx
    rcases List.mem_append.1 hx with hx | hx
    ·exact g4 x hx
    ·simp at hx; subst hx; exact ⟨by omega, hnew, by simp, by simp⟩
   ·obtain ⟨hlt, e1, e2, e3, e4⟩ := hgood l hg
    obtain ⟨e5, _⟩ := g5 l hg
    have htk' := htk
    rw [e1, a5w _ _ (a7v _ _)] at htk'
    simp only [Option.some.injEq, Prod.mk.injEq] at htk'
    have e6 : IntKind.i64.wrap (last + zag u) = l[vs.length].2.1 := by
     rw [← htk'.1, b5u]; exact b9h e3.2.1
    have e7 := d3e e2 (by omega)
    rw [e6, ← e7, List.length_append, List.length_singleton, List.take_succ_eq_append_getElem hlt, ← e5]
    refine ⟨rfl, ?_⟩
    rw [e1, ← htk'.2]; simp
 ·rw [if_neg (by simp <;> omega)]
  refine Gets.some (.inl ⟨vs, rfl, g4, by omega, fun l hg => ?_⟩)
  have e1 := (g5 l hg).1
  have q3 := (d2i hg).2.2.1
  rwa [List.take_of_length_le (by omega)] at e1
theorem c2o {n : Nat} {t m : Int} {b : List Int} (ht : 1 ≤ t ∧ t ≤ 4) (hm : 0 ≤ m ∧ m ≤ 1000) (hb : a3p b) (hl : b.length < 1000000) (hn : 70000 ≤ n) :
  Gets (a6r n (t, m, b, ())) (d3r 4 t m b) := by
 have hro := a1s
 have bad : (∀ l, ¬ a4t 4 t m b l) → Gets (some ((([] : List Vl), false, ()), ())) (d3r 4 t m b) := fun h => Gets.some (.inr ⟨rfl, h⟩)
 obtain ⟨M, rfl⟩ : ∃ M : Nat, m = (M : Int) := ⟨_, (Int.toNat_of_nonneg (by omega)).symm⟩
 unfold a6r
 dsimp only
 by_cases h3 : M = 0
 ·subst h3
  have hnil : ∀ l, a4t 4 t (((0:Nat) : Int)) b l → l = [] := by
   intro l hg
   have := (d6q hg).2.2.1
   cases l with
   | nil => rfl
   | cons => simp at this; omega
  rw [if_pos (by simp)]
  by_cases h4 : (b.length : Int) = 0
  ·rw [show decide ((b.length : Int) = 0) = true by simpa using h4]
   exact Gets.some (.inl ⟨[], rfl, by simp, by simp, fun l hg => (hnil l hg).symm⟩)
  ·rw [show decide ((b.length : Int) = 0) = false by simpa using h4]
   refine bad fun l hg => ?_
   have := hnil l hg
   subst this
   have := (d6q hg).2.2.2.2.2.2
   rw [← this] at h4
   simp [b9t] at h4
 have hparts : ∀ l, a4t 4 t (M : Int) b l → l.length = M ∧ t ≤ 3 ∧ (∀ v, v ∈ l → a0r t v = true ∧ okV v) ∧ a4f b = some (zig (a3v l), (putN (zig (a3v l))).length) ∧ (putN (zig (a3v l))).length < b.length ∧
   b.getD (putN (zig (a3v l))).length 0 = ((a3j (a1z l) : Nat) : Int) ∧ b.drop ((putN (zig (a3v l))).length + 1) = a7h (a1z l) (a3j (a1z l)) ∧
   b4a (a7h (a1z l) (a3j (a1z l))) (M : Int) ((a3j (a1z l) : Nat) : Int) = (a1z l, true, ()) := by
  intro l hg
  obtain ⟨_, _, q3, q4, q5, q6, q7⟩ := d6q hg
  have hlm : l.length = M := by omega
  have hne : l ≠ [] := by rintro rfl; simp at hlm; omega
  rcases d0u hne q4 q5 q6 with h | h
  ·rw [q7, hlm] at h
   exact ⟨hlm, q4, a6y q5 q6, h⟩
  ·omega
 rw [if_neg (by simp <;> omega), a7k hb hl (by omega)]
 simp only [Option.bind_some]
 cases htk : a4f b with
 | none =>
  dsimp only
  rw [if_pos (by simp)]
  refine bad fun l hg => ?_
  rw [(hparts l hg).2.2.2.1] at htk
  cases htk
 | some q =>
  obtain ⟨u, k⟩ := q
  have hT := a2x hb htk
  dsimp only
  rw [if_neg (by simp)]
  by_cases h4 : b.length ≤ k
  ·rw [if_pos (by simp <;> omega)]
   refine bad fun l hg => ?_
   obtain ⟨_, _, _, e1, e2, _⟩ := hparts l hg
   rw [e1] at htk
   simp only [Option.some.injEq, Prod.mk.injEq] at htk
   omega
  have hk : k < b.length := by omega
  obtain ⟨c, hc1, hc2, hc3⟩ := hb.get hk
  rw [if_neg (by simp <;> omega), a0g (by omega), if_pos (by omega), a0f hk]
  simp only [Int.toNat_natCast, List.take_length]
  rw [hc1, a0x (by omega), b0i (hb.drop _) (by simp <;> omega) (by omega)]
  simp only [Option.bind_some]
  have hgood : ∀ l, a4t 4 t (M : Int) b l → u = zig (a3v l) ∧ b4a (b.drop (k + 1)) (M : Int) (c : Int) = (a1z l, true, ()) := by
   intro l hg
   obtain ⟨_, _, _, e1, e2, e3, e4, e5⟩ := hparts l hg
   rw [e1] at htk
   simp only [Option.some.injEq, Prod.mk.injEq] at htk
   obtain ⟨rfl, rfl⟩ := htk
   rw [hc1] at e3
   exact ⟨rfl, by rw [e4, e3]; exact e5⟩
  obtain ⟨al, aok, hab⟩ : ∃ al aok, b4a (b.drop (k + 1)) (M : Int) (c : Int) = (al, aok, ()) := ⟨_, _, rfl⟩
  rw [hab] at hgood ⊢
  have hal : aok = true → al.length = M ∧ Nums al := by
   intro h
   unfold b4a at hab
   split at hab
   ·rename_i hcnd
    simp only [Prod.mk.injEq] at hab
    rw [← hab.1]
    refine ⟨?_, b2x (by simp <;> omega)⟩
    rw [b0q]; simp
   ·simp only [Prod.mk.injEq] at hab
    rw [← hab.2.1] at h; cases h
  cases aok with
  | false =>
   rw [if_pos (by simp)]
   refine bad fun l hg => ?_
   have := (hgood l hg).2
   simp at this
  | true =>
   obtain ⟨hal1, hal2⟩ := hal rfl
   rw [if_neg (by simp)]
   have hz := d6f hT.1
   refine Gets.iter (I := fun s : List Vl × Int => ∃ i : Nat, i ≤ M ∧ s = ((al.take i).map (fun a => (t, IntKind.i64.wrap (IntKind.u64.wrap (IntKind.u64.wrap (zag u) + a)), [], ())), (i : Int))) (μ := fun s => M - s.2.toNat) ⟨0, by omega, by simp⟩ (by simp <;> omega) ?_
   rintro rec _ ⟨i, hi, rfl⟩ hrec
   dsimp only
   by_cases h5 : i < M
   ·have h6 : i < al.length := by omega
    rw [if_pos (by simp <;> omega), c3h hT.1]
    simp only [Option.bind_some, Int.toNat_natCast]
    rw [a0f h6, a0i h6, if_pos (by simp <;> omega), a0g (by omega)]
    exact hrec _ ⟨i + 1, by omega, by rw [map_take _ h6]⟩ (by simp <;> omega)
   ·obtain rfl : i = M := by omega
    rw [if_neg (by simp <;> omega), List.take_of_length_le (by omega)]
    refine Gets.some (.inl ⟨_, rfl, ?_, by simp <;> omega, fun l hg => ?_⟩)
    ·intro v hv
     obtain ⟨a, _, rfl⟩ := List.mem_map.1 hv
     exact ⟨by omega, b8p _, by simp, by simp⟩
    ·obtain ⟨e1, e2⟩ := hgood l hg
     simp only [Prod.mk.injEq, and_true] at e2
     obtain ⟨_, q2, q3, _⟩ := hparts l hg
     rw [e2, e1]
     unfold a1z
     rw [List.map_map]
     conv => rhs; rw [← List.map_id l]
     refine List.map_congr_left fun v hv => ?_
     obtain ⟨r1, r2⟩ := q3 v hv
     simp only [Function.comp_apply, id, b5u]
     have e3 : IntKind.i64.wrap (IntKind.u64.wrap (IntKind.u64.wrap (a3v l) + (v.2.1 - a3v l))) = v.2.1 := by
      have := r2.2.1
      rw [a2g, a2g, a8f]
      omega
     rw [e3]
     exact (d3e r1 (by omega)).symm
end Go.Rb.R4

namespace Go.Rb.R4
open Go.Rb
theorem d3q {n : Nat} {e t m : Int} {b : List Int} (ht : 1 ≤ t ∧ t ≤ 4) (hm : 0 ≤ m ∧ m ≤ 1000) (hb : a3p b) (hl : b.length < 1000000) (hn : 70000 ≤ n) :
  Gets (a4s n (e, t, m, b, ())) (d3r e t m b) := by
 by_cases c1 : e = 1
 ·subst c1; exact d0c ht hm hb hl hn
 by_cases c2 : e = 2
 ·subst c2; exact c9w ht hm hb hl hn
 by_cases c5 : e = 5
 ·subst c5; exact d0d ht hm hb hl hn
 unfold a4s
 dsimp only
 rw [if_neg (by simpa using c1), if_neg (by simpa using c2)]
 by_cases c3 : e = 3
 ·subst c3
  rw [if_pos (by simp)]
  obtain ⟨y, hy1, hy2⟩ := c3r (n := n) (m := m) ht hm hb hl hn
  have only : ∀ l, a4t 3 t m b l → y = ((l, true, ()), ()) := by
   intro l hg
   obtain ⟨g1, g2, g3, g4, g5, g6⟩ := f3n.1 hg
   have h := c2y (n := n) g5 g4 (by omega) hn
   rw [g6, g3, hy1] at h
   exact Option.some.inj h
  rw [hy1]
  simp only [Option.bind_some]
  rcases hy2 with ⟨l, rfl, hv, hll⟩ | rfl
  ·refine Gets.some (.inl ⟨l, rfl, hv, hll, fun l' hg => ?_⟩)
   have h := only l' hg
   simp only [Prod.mk.injEq] at h
   exact h.1.1
  ·refine Gets.some (.inr ⟨rfl, fun l' hg => ?_⟩)
   have h := only l' hg
   simp at h
 rw [if_neg (by simpa using c3)]
 by_cases c4 : e = 4
 ·subst c4
  rw [if_pos (by simp)]
  refine Gets.bind (c2o ht hm hb hl hn) ?_
  rintro ⟨⟨l, ok, u⟩, u2⟩ h
  exact Gets.some h
 rw [if_neg (by simpa using c4), if_neg (by simpa using c5)]
 refine Gets.some (.inl ⟨[], rfl, by simp, by simp, fun l hg => ?_⟩)
 have := hg.2.2.2.1
 simp [a6t, c1, c2, c3, c4, c5] at this
theorem c7t {n : Nat} {e t m : Int} {b : List Int} (hb : a3p b) (hl : b.length < 1000000) (hn : 70000 ≤ n) :
  Gets (a9b n (e, t, m, b, ())) (d9p e t m b) := by
 have bad : (∀ l, ¬ a4t e t m b l) → Gets (some ((([] : List Vl), false, ()), ())) (d9p e t m b) := fun h => Gets.some (.inr ⟨rfl, h⟩)
 unfold a9b
 dsimp only
 by_cases h1 : m < 0
 ·rw [if_pos (by simpa using h1)]
  exact bad fun l hg => by have := hg.1; omega
 rw [if_neg (by simpa using h1)]
 by_cases h2 : 1000 < m
 ·rw [if_pos (by simpa using h2)]
  exact bad fun l hg => by have := hg.2.1; omega
 rw [if_neg (by simpa using h2), b0p]
 simp only [Option.bind_some]
 cases hT : isT t with
 | false =>
  rw [if_pos (by simp)]
  refine bad fun l hg => ?_
  obtain ⟨q1, q2, _⟩ := a2y hg.2.2.2.2.1
  rw [c9c.2 ⟨q1, q2⟩] at hT
  cases hT
 | true =>
  have ht := c9c.1 hT
  rw [if_neg (by simp)]
  refine Gets.bind (d3q (n := n) (e := e) (m := m) ht ⟨by omega, by omega⟩ hb hl hn) fun y hy => ?_
  rcases hy with ⟨l, rfl, hv, hll, only⟩ | ⟨rfl, hno⟩
  ·dsimp only
   rw [b6s hv hll (by omega)]
   simp only [Option.bind_some]
   rw [if_neg (by simp)]
   by_cases hr : a6t e t = true ∧ a1n t l = true
   rotate_left
   ·rw [if_neg hr, if_pos (by simp)]
    refine bad fun l' hg => ?_
    have := only l' hg
    subst this
    exact hr ⟨hg.2.2.2.1, hg.2.2.2.2.1⟩
   ·rw [if_pos hr]
    dsimp only
    rw [if_neg (by simp)]
    by_cases h3 : (l.length : Int) = m
    ·rw [if_neg (by simpa using h3)]
     by_cases h4 : encB e t l = b
     ·rw [if_neg (by simpa using h4)]
      exact Gets.some (.inl ⟨l, rfl, by omega, by omega, h3, hr.1, hr.2, hv, h4⟩)
     ·rw [if_pos (by simpa using h4)]
      refine bad fun l' hg => ?_
      have := only l' hg
      subst this
      exact h4 hg.2.2.2.2.2.2
    ·rw [if_pos (by simpa using h3)]
     refine bad fun l' hg => ?_
     have := only l' hg
     subst this
     exact h3 hg.2.2.1
  ·dsimp only
   rw [b6s (l := []) (by simp) (by simp) (by omega)]
   simp only [Option.bind_some]
   rw [if_pos (by simp)]
   exact bad hno
theorem c5f {n : Nat} {b : List Int} {m : Int} (hb : a3p b) (hl : b.length < 1000000) (hn : 70000 ≤ n) : a5q n (b, m, ()) = some (a9f b m, ()) := by
 have hro := a1s
 unfold a5q a9f
 dsimp only
 rw [b0i hb hl (by omega)]
 simp only [Option.bind_some]
 have hbl : ∀ M : Nat, (b0r b M).map b2i = b0u b M 1 := by
  intro M
  unfold b0r b0u
  rw [List.map_map]
  refine List.map_congr_left fun i _ => ?_
  have h2 : a5x (bitB b) (i * 1) 1 = bitB b i := by simp [a5x]
  rw [h2]
  have h3 : bitB b i < 2 := by unfold bitB; omega
  simp only [Function.comp_apply, b2i]
  by_cases h : bitB b i = 1
  ·simp [h]
  ·have : bitB b i = 0 := by omega
   simp [this]
 have hbb : ∀ M : Nat, b2k (b0r b M) = a7h (b0u b M 1) 1 := fun M => by unfold b2k; rw [hbl]
 by_cases hc : 0 ≤ m ∧ m ≤ 1000 ∧ b.length = (m.toNat + 7) / 8 ∧ b2k (b0r b m.toNat) = b
 ·rw [if_pos hc]
  obtain ⟨c1, c2, c3, c4⟩ := hc
  obtain ⟨M, rfl⟩ : ∃ M : Nat, m = (M : Int) := ⟨_, (Int.toNat_of_nonneg c1).symm⟩
  rw [Int.toNat_natCast] at c3 c4 ⊢
  rw [hbb] at c4
  have hT : b4a b (M : Int) 1 = (b0u b M 1, true, ()) := by
   unfold b4a
   rw [Int.toNat_natCast, show (1 : Int).toNat = 1 from rfl, if_pos ⟨by omega, by omega, by omega, by omega, by omega, c4⟩]
  rw [hT]
  dsimp only
  rw [if_neg (by simp), if_pos (by omega)]
  have hlen := b0q b M 1
  refine a0z (st := fun i => ((b0r b M).take i ++ List.replicate (M - i) false, (i : Int))) M (by simp) ?_ ?_ (by omega)
  ·intro rec i hi
   have hset : ((b0r b M).take i ++ List.replicate (M - i) false).set i (decide (bitB b i = 1)) = (b0r b M).take (i + 1) ++ List.replicate (M - (i + 1)) false := by
    have hti : ((b0r b M).take i).length = i := by rw [List.length_take, a7g]; omega
    have h0 : List.set ((b0r b M).take i ++ List.replicate (M - i) false) i (decide (bitB b i = 1)) = (b0r b M).take i ++ (List.replicate (M - i) false).set 0 (decide (bitB b i = 1)) := by
     rw [List.set_append_right _ _ (by omega), hti, Nat.sub_self]
    rw [h0, List.take_succ_eq_append_getElem (by rw [a7g]; exact hi), show M - i = (M - (i + 1)) + 1 by omega, List.replicate_succ, List.set_cons_zero]
    simp [b0r]
   have hget : (b0u b M 1)[i]'(by omega) = ((bitB b i : Nat) : Int) := by
    simp [b0u, a5x]
   have hdec : decide (((bitB b i : Nat) : Int) = 1) = decide (bitB b i = 1) := by
    by_cases h : bitB b i = 1
    ·simp [h]
    ·have : ¬ (((bitB b i : Nat) : Int) = 1) := by omega
     simp only [h, this, decide_false]
   have e1 : (1 : Int).toNat = 1 := rfl
   dsimp only
   rw [if_pos (by simp <;> omega), a0f (by omega), a0f (by simp only [List.length_append, List.length_take, a7g, List.length_replicate]; omega), a0g (by omega)]
   simp only [Int.toNat_natCast]
   simp only [a0i (show i < (b0u b M 1).length by omega), hget]
   rw [hdec, hset]
  ·intro rec
   dsimp only
   rw [if_neg (by simp), Nat.sub_self, List.replicate_zero, List.append_nil, List.take_of_length_le (by rw [a7g]; omega)]
 ·have hT : b4a b m 1 = ([], false, ()) := by
   unfold b4a
   rw [if_neg]
   rintro ⟨c1, c2, c3, c4, c5, c6⟩
   refine hc ⟨by omega, by omega, ?_, ?_⟩
   ·have e1 : (1 : Int).toNat = 1 := rfl
    rw [e1, Nat.mul_one] at c5
    exact c5
   ·rw [hbb]; exact c6
  rw [if_neg hc, hT]
  rfl
theorem d9b : ∀ {bs : List Bool} {l : List Vl}, (∀ v, v ∈ l → okV v) → ∀ v, v ∈ mixV bs l → okV v
 | [], _, _, v, hv => by simp [mixV] at hv
 | true :: bs, l, h, v, hv => by
  unfold mixV at hv
  rcases List.mem_cons.1 hv with rfl | hv
  ·exact d8w
  ·exact d9b h v hv
 | false :: bs, l, h, v, hv => by
  unfold mixV at hv
  rcases List.mem_cons.1 hv with rfl | hv
  ·cases l with
   | nil => exact d8w
   | cons x l => exact h _ (by simp)
  ·exact d9b (fun x hx => h x (List.mem_of_mem_tail hx)) v hv
theorem c9k : ∀ (bs : List Bool) (l : List Vl) (c : Bool), mixV (bs ++ [c]) l = mixV bs l ++ [if c = true then ((0:Int), (0:Int), [], ()) else (l.drop (bs.countP (fun b => !b))).headD ((0:Int), (0:Int), [], ())]
 | [], l, true => by simp [mixV]
 | [], l, false => by simp [mixV]
 | true :: bs, l, c => by
  rw [List.cons_append]
  unfold mixV
  rw [c9k bs l c, List.cons_append]
  congr 4
 | false :: bs, l, c => by
  rw [List.cons_append]
  unfold mixV
  rw [c9k bs l.tail c, List.cons_append]
  have e : (false :: bs).countP (fun b => !b) = bs.countP (fun b => !b) + 1 := by rw [List.countP_cons]; rfl
  rw [e, ← List.drop_one, List.drop_drop, Nat.add_comm 1]
theorem c0p {n : Nat} {t m : Int} {b : List Int} (hb : a3p b) (hl : b.length < 1000000) (hn : 1000000 ≤ n) :
  Gets (a2z n (t, m, b, ())) (d9h t m b) := by
 have hro := a1s
 have bad : (∀ l e, ¬ b3x t m b l e) → Gets (some ((([] : List Vl), (0:Int), false, ()), ())) (d9h t m b) := fun h => Gets.some (.inr ⟨rfl, h⟩)
 unfold a2z
 dsimp only
 by_cases h1 : m < 0
 ·rw [if_pos (by simpa using h1)]
  exact bad fun l e hg => by have := hg.1; omega
 rw [if_neg (by simpa using h1)]
 by_cases h2 : 1000 < m
 ·rw [if_pos (by simpa using h2)]
  exact bad fun l e hg => by have := hg.2.1; omega
 rw [if_neg (by simpa using h2)]
 obtain ⟨M, rfl⟩ : ∃ M : Nat, m = (M : Int) := ⟨_, (Int.toNat_of_nonneg (by omega)).symm⟩
 by_cases h3 : b.length < 2
 ·rw [if_pos (by simp <;> omega)]
  exact bad fun l e hg => by have := (a5k hg).2.1; omega
 rw [if_neg (by simp <;> omega)]
 obtain ⟨e, he1, he2, _⟩ := hb.get (i := 0) (by omega)
 obtain ⟨f, hf1, hf2, _⟩ := hb.get (i := 1) (by omega)
 have e0 : ((0:Int)).toNat = 0 := rfl
 have e1 : ((1:Int)).toNat = 1 := rfl
 have e2 : ((2:Int)).toNat = 2 := rfl
 rw [a9d (by omega) (by omega), e1, hf1]
 by_cases h4 : 1 < f
 ·rw [if_pos (by simp <;> omega)]
  refine bad fun l e hg => ?_
  have := (a5k hg).2.2.1
  rw [hf1] at this
  split at this <;> omega
 rw [if_neg (by simp <;> omega), a9d (by omega) (by omega), if_pos (by omega), if_pos (by omega), e0, he1, a0x (x := e) (by omega)]
 have hE : ∀ l e', b3x t (M : Int) b l e' → e' = (e : Int) := fun l e' hg => by rw [← (a5k hg).1, he1]
 refine Gets.join (I := fun s : List Bool × List Int => a3p s.2 ∧ s.2.length < 1000000 ∧ s.1.length = M ∧ ∀ l e', b3x t (M : Int) b l e' → s.1 = l.map isN ∧ s.2 = encB (e : Int) t (a4k l)) ?_ ?_
 ·rintro ⟨set, rest⟩ ⟨r1, r2, r3, r4⟩
  dsimp only at r1 r2 r3 r4 ⊢
  have hcnt : ∀ k, set.countP (fun b => b) = k → k ≤ M ∧ ∀ R, R = (fun x : Int => x = ((M - k : Nat) : Int)) → True := fun k hk => ⟨by have := List.countP_le_length (p := fun b : Bool => b) (l := set); omega, fun _ _ => trivial⟩
  refine Gets.iter (I := fun s : Int × Int => ∃ i : Nat, i ≤ M ∧ s = ((((set.take i).countP (fun b => !b) : Nat) : Int), (i : Int))) (μ := fun s => M - s.2.toNat) ⟨0, by omega, by simp⟩ (by simp <;> omega) ?_
  rintro rec _ ⟨i, hi, rfl⟩ hrec
  dsimp only
  have hc := List.countP_le_length (p := fun b : Bool => !b) (l := set.take i)
  have hti : (set.take i).length ≤ 1000 := by simp <;> omega
  by_cases h5 : i < M
  ·have h6 : i < set.length := by omega
   have hsuc : (set.take (i + 1)).countP (fun b => !b) = (set.take i).countP (fun b => !b) + (if (!set[i]) = true then 1 else 0) := by
    rw [List.take_succ_eq_append_getElem h6, List.countP_append, List.countP_singleton]
   rw [if_pos (by simp <;> omega), a0f h6]
   simp only [Int.toNat_natCast, a0i h6]
   rw [a0g (i := i) (by omega)]
   by_cases hx : (!set[i]) = true
   ·rw [if_pos hx, a0g (by omega)]
    rw [if_pos hx] at hsuc
    exact hrec _ ⟨i + 1, by omega, by rw [hsuc]⟩ (by simp <;> omega)
   ·rw [if_neg hx]
    rw [if_neg hx] at hsuc
    exact hrec _ ⟨i + 1, by omega, by rw [hsuc]; rfl⟩ (by simp <;> omega)
  obtain rfl : i = M := by omega
  rw [if_neg (by simp <;> omega), List.take_of_length_le (by omega)]
  obtain ⟨k, hk⟩ : ∃ k, set.countP (fun b => !b) = k := ⟨_, rfl⟩
  rw [hk]
  have hE2 : ∀ l e', b3x t (i : Int) b l e' → a4t (e : Int) t (k : Int) rest (a4k l) := by
   intro l e' hg
   obtain ⟨q1, q2⟩ := r4 l e' hg
   have h7 := hE l e' hg
   have g1 := hg.2.1
   have g2 := hg.2.2.1
   have g4 := hg.2.2.2.1
   have g5 := hg.2.2.2.2.1
   have g6 := hg.2.2.2.2.2.1
   obtain ⟨u1, u2, u3, _⟩ := b5n g4
   have h8 : (a4k l).length = k := by
    rw [← hk, q1, List.countP_map]
    unfold a4k
    rw [← List.countP_eq_length_filter]
    rfl
   have h9 := c1y l
   subst h7
   exact ⟨by omega, by omega, by omega, u1, b1p ⟨u2, u3⟩ g5, b4n g6, q2.symm⟩
  refine Gets.bind (c7t (n := n) (e := (e : Int)) (t := t) (m := (k : Int)) r1 r2 (by omega)) fun y hy => ?_
  rcases hy with ⟨sm, rfl, hsm⟩ | ⟨rfl, hno⟩
  rotate_left
  ·dsimp only
   rw [if_pos (by simp)]
   exact bad fun l e' hg => hno _ (hE2 l e' hg)
  dsimp only
  rw [if_neg (by simp)]
  have hsl : sm.length = k := by have := hsm.2.2.1; omega
  have hki : k ≤ i := by have := List.countP_le_length (p := fun b : Bool => !b) (l := set); omega
  refine Gets.iter (I := fun s : List Vl × List Vl × Int => ∃ j : Nat, j ≤ i ∧ s = (sm.drop ((set.take j).countP (fun b => !b)), mixV (set.take j) sm, (j : Int))) (μ := fun s => i - s.2.2.toNat) ⟨0, by omega, by simp [mixV]⟩ (by simp <;> omega) ?_
  rintro rec2 _ ⟨j, hj, rfl⟩ hrec2
  dsimp only
  by_cases h7 : j < i
  ·have h8 : j < set.length := by omega
   have htj : (set.take j).length = j := by rw [List.length_take]; omega
   have hml := c5z (set.take j) sm
   have hcj := List.countP_le_length (p := fun b : Bool => !b) (l := set.take j)
   have hsuc : (set.take (j + 1)).countP (fun b => !b) = (set.take j).countP (fun b => !b) + (if (!set[j]) = true then 1 else 0) := by
    rw [List.take_succ_eq_append_getElem h8, List.countP_append, List.countP_singleton]
   have hmix := c9k (set.take j) sm set[j]
   rw [← List.take_succ_eq_append_getElem h8] at hmix
   rw [if_pos (by simp <;> omega), a0f h8]
   simp only [Int.toNat_natCast, a0i h8, e1, e0]
   rw [a0g (by omega)]
   by_cases hx : (!set[j]) = true
   ·rw [if_pos hx]
    rw [if_pos hx] at hsuc
    have hlt : (set.take j).countP (fun b => !b) < sm.length := by
     have h9 : (set.take (j + 1)).countP (fun b => !b) ≤ set.countP (fun b => !b) := (List.take_sublist _ _).countP_le
     omega
    have hx' : set[j] = false := by simpa using hx
    rw [a9d (by omega) (by simp <;> omega), if_pos (by simp <;> omega), if_pos (by simp <;> omega)]
    refine hrec2 _ ⟨j + 1, by omega, ?_⟩ (by simp <;> omega)
    rw [hsuc, hmix, hx', List.take_length, List.drop_drop]
    simp [List.getD_eq_getElem?_getD, List.headD_eq_head?_getD, List.head?_drop]
   ·rw [if_neg hx]
    rw [if_neg hx] at hsuc
    have hx' : set[j] = true := by simpa using hx
    rw [if_pos (by simp <;> omega)]
    refine hrec2 _ ⟨j + 1, by omega, ?_⟩ (by simp <;> omega)
    rw [hsuc, hmix, hx']
    simp
  ·obtain rfl : j = i := by omega
   rw [if_neg (by simp <;> omega), List.take_of_length_le (l := set) (by omega)]
   obtain ⟨l, hl2⟩ : ∃ l, mixV set sm = l := ⟨_, rfl⟩
   have hll : l.length = j := by rw [← hl2, c5z]; exact r3
   have hok : ∀ v, v ∈ l → okV v := by rw [← hl2]; exact d9b hsm.2.2.2.2.2.1
   rw [hl2]
   have only : ∀ l' e', b3x t (j : Int) b l' e' → l' = l := by
    intro l' e' hg
    have h8 := (hE2 l' e' hg).uniq hsm
    rw [← hl2, ← h8, (r4 l' e' hg).1]
    exact (b8k hg.2.2.2.2.1).symm
   unfold a5y
   dsimp only
   rw [b2f hok (by omega) (by omega)]
   unfold b3m
   have fin : ∀ q : List Int × Bool × Unit, (q.2.1 = true → ∃ u, b7i (e : Int) t = some u ∧ l.all (a9c t) = true ∧ q.1 = colB u t l) → (∀ l' e', b3x t (j : Int) b l' e' → q.2.1 = true) → Gets (((some (q, ()) : Option ((List Int × Bool × Unit) × Unit)).map fun y => (y.1, l, ())).bind fun y8 => (if (!y8.1.2.1) = true then (some (([], (0:Int), false, ()), ())) else (if (!decide (y8.1.1 = b)) = true then (some (([], (0:Int), false, ()), ())) else (some ((y8.2.1, (e : Int), true, ()), ()))))) (d9h t (j : Int) b) := by
    rintro ⟨q1, q2, q3⟩ hq hq2
    simp only [Option.map_some, Option.bind_some]
    cases q2 with
    | false =>
     rw [if_pos (by simp)]
     exact bad fun l' e' hg => by have := hq2 l' e' hg; simp at this
    | true =>
     obtain ⟨u, w1, w2, w3⟩ := hq rfl
     dsimp only at w3
     subst w3
     rw [if_neg (by simp)]
     by_cases hcb : colB u t l = b
     ·rw [if_neg (by simpa using hcb)]
      have hue : u = (e : Int) := by
       have : b.getD 0 0 = u := by rw [← hcb]; unfold colB; split <;> rfl
       rw [← this, he1]
      subst hue
      exact Gets.some (.inl ⟨l, _, rfl, by omega, by omega, by omega, w1, List.all_eq_true.1 w2, hok, hcb⟩)
     ·rw [if_pos (by simpa using hcb)]
      refine bad fun l' e' hg => ?_
      have h8 := only l' e' hg
      have h9 := hE l' e' hg
      subst h8
      rw [h9] at hg
      rw [hg.2.2.2.1] at w1
      simp only [Option.some.injEq] at w1
      subst w1
      exact hcb hg.2.2.2.2.2.2
   have good : ∀ l' e', b3x t (j : Int) b l' e' → b7i (e : Int) t = some (e : Int) ∧ l.all (a9c t) = true := by
    intro l' e' hg
    have h8 := only l' e' hg
    have h9 := hE l' e' hg
    subst h8
    rw [h9] at hg
    exact ⟨hg.2.2.2.1, List.all_eq_true.2 hg.2.2.2.2.1⟩
   cases hu : b7i (e : Int) t with
   | none =>
    refine fin ([], false, ()) (by simp) fun l' e' hg => ?_
    have := (good l' e' hg).1
    rw [hu] at this
    cases this
   | some u =>
    dsimp only
    by_cases ha : l.all (a9c t) = true
    ·rw [if_pos ha]
     exact fin (colB u t l, true, ()) (fun _ => ⟨u, hu, ha, rfl⟩) fun _ _ _ => rfl
    ·rw [if_neg ha]
     refine fin ([], false, ()) (by simp) fun l' e' hg => absurd (good l' e' hg).2 ha
 ·intro J hJ
  have hmany : IntKind.i64.wrap ((IntKind.i64.wrap ((M : Int) + 7)).tdiv (8:Int)) = (((M + 7) / 8 : Nat) : Int) := by
   rw [show ((M : Int) + 7) = ((M + 7 : Nat) : Int) by omega, a0x (by omega), show ((8 : Int)) = ((8 : Nat) : Int) from rfl, a5z, a0x (by omega)]
  simp only [hmany, Int.toNat_natCast, List.take_length, e1, e2, e0, List.drop_zero, a9d (show (0:Int) ≤ 1 by omega) (show (1:Int) < (b.length : Int) by omega), hf1]
  by_cases h7 : f = 1
  ·subst h7
   rw [if_pos (by simp)]
   have hany : ∀ l e', b3x t (M : Int) b l e' → l.any isN = true := by
    intro l e' hg
    have h10 := (a5k hg).2.2.1
    rw [hf1] at h10
    cases h : l.any isN with
    | true => rfl
    | false => rw [h] at h10; simp at h10
   have hparts : ∀ l e', b3x t (M : Int) b l e' → b.drop 2 = b2k (l.map isN) ++ encB e' t (a4k l) ∧ (b2k (l.map isN)).length = (M + 7) / 8 ∧ l.length = M := by
    intro l e' hg
    have h12 := (a5k hg).2.2.2
    rw [hany l e' hg, if_pos rfl] at h12
    have h13 := b2c (l.map isN)
    have h14 := hg.2.2.1
    rw [List.length_map] at h13
    have hlM : l.length = M := by omega
    rw [hlM] at h13
    exact ⟨h12, h13, hlM⟩
   by_cases h8 : (b.drop 2).length < (M + 7) / 8
   ·rw [if_pos (by simp only [decide_eq_true_eq]; omega)]
    refine bad fun l e' hg => ?_
    obtain ⟨h12, h13, _⟩ := hparts l e' hg
    rw [h12, List.length_append] at h8
    omega
   ·rw [if_neg (by simp only [decide_eq_true_eq]; omega), if_pos (by omega), c5f ((hb.drop _).take _) (by simp <;> omega) (by omega)]
    simp only [Option.bind_some]
    have hback : ∀ l e', b3x t (M : Int) b l e' → a9f ((b.drop 2).take ((M + 7) / 8)) (M : Int) = (l.map isN, true, ()) ∧ (b.drop 2).drop ((M + 7) / 8) = encB e' t (a4k l) := by
     intro l e' hg
     obtain ⟨h12, h13, hlM⟩ := hparts l e' hg
     have h15 : (b.drop 2).take ((M + 7) / 8) = b2k (l.map isN) := by rw [h12, List.take_left' h13]
     have h16 : (b.drop 2).drop ((M + 7) / 8) = encB e' t (a4k l) := by rw [h12, List.drop_left' h13]
     have h17 := d1i (l.map isN)
     rw [List.length_map, hlM] at h17
     refine ⟨?_, h16⟩
     rw [h15]
     unfold a9f
     simp only [Int.toNat_natCast]
     have := hg.2.1
     rw [h17, if_pos ⟨by omega, by omega, h13, rfl⟩]
    obtain ⟨set, ok, hab⟩ : ∃ set ok, a9f ((b.drop 2).take ((M + 7) / 8)) (M : Int) = (set, ok, ()) := ⟨_, _, rfl⟩
    have hset : ok = true → set.length = M := by
     intro h
     unfold a9f at hab
     split at hab
     ·simp only [Prod.mk.injEq] at hab
      rw [← hab.1, a7g]; simp
     ·simp only [Prod.mk.injEq] at hab
      rw [← hab.2.1] at h; cases h
    rw [hab] at hback ⊢
    cases ok with
    | false =>
     rw [if_pos (by simp)]
     refine bad fun l e' hg => ?_
     have := (hback l e' hg).1
     simp at this
    | true =>
     rw [if_neg (by simp), if_pos (by omega)]
     refine hJ _ ⟨(hb.drop _).drop _, by simp <;> omega, hset rfl, fun l e' hg => ?_⟩
     obtain ⟨w1, w2⟩ := hback l e' hg
     simp only [Prod.mk.injEq, and_true] at w1
     dsimp only
     rw [w2, hE l e' hg]
     exact ⟨w1, rfl⟩
  ·rw [if_neg (by simp <;> omega)]
   refine hJ _ ⟨hb.drop _, by simp <;> omega, by simp <;> omega, fun l e' hg => ?_⟩
   have h10 := (a5k hg).2.2.1
   have h8 : l.any isN = false := by
    cases h : l.any isN with
    | false => rfl
    | true => rw [h, hf1, if_pos rfl] at h10; omega
   have h12 := (a5k hg).2.2.2
   rw [h8] at h12
   have h9 := b2q h8
   have := hg.2.2.1
   dsimp only
   rw [h9, h12, hE l e' hg]
   exact ⟨by congr 1; omega, rfl⟩
theorem f0x {n : Nat} {t m : Int} {b : List Int} (ht : -9223372036854775808 ≤ t ∧ t ≤ 9223372036854775807) (hb : a3p b) (hl : b.length < 1000000) (hn : 1000000 ≤ n) :
  ∃ l : List Vl, ∃ e : Int, ∃ ok : Bool, l.length ≤ 1000 ∧ a1c n (t, m, b, ()) = some ((l, e, ok, ()), ()) ∧ a2z n (t, m, b, ()) = some ((l, e, ok, ()), ()) := by
 obtain ⟨y, h1, h2⟩ := c1b (m := m) ht hb hl hn
 obtain ⟨z, h3, h4⟩ := c0p (t := t) (m := m) hb hl hn
 rcases h2 with ⟨l, e, rfl, hg⟩ | ⟨rfl, hno⟩
 ·rcases h4 with ⟨l', e', rfl, hg'⟩ | ⟨rfl, hno'⟩
  ·obtain ⟨rfl, rfl⟩ := hg.uniq hg'
   have := hg.2.1
   have := hg.2.2.1
   exact ⟨l, e, true, by omega, h1, h3⟩
  ·exact absurd hg (hno' l e)
 ·rcases h4 with ⟨l', e', rfl, hg'⟩ | ⟨rfl, hno'⟩
  ·exact absurd hg' (hno l' e')
  ·exact ⟨[], 0, false, by simp, h1, h3⟩
end Go.Rb.R4
