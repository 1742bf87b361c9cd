/- Plain laws, of no program: loops, bits, numbers as bytes. Own work. -/
import Derived.Test.YtpkgjjdalliggaaGreatDoorRbE
import Derived.Test.YtpkgjjdalliggaaGreatDoorRbI
set_option autoImplicit false
set_option linter.unusedVariables false
set_option linter.unusedSimpArgs false
namespace Go.Rb
variable {R : Type} {σ : Type}

/-! ### Loops -/

/-- A loop whose k-th state is known. -/
theorem iter_run {f : (σ → Option R) → σ → Option R} (st : Nat → σ) (k : Nat) {r : Option R} (h : ∀ rec i, i < k → f rec (st i) = rec (st (i + 1))) (he : ∀ rec, f rec (st k) = r) : ∀ {n : Nat}, k < n → iterF f n (st 0) = r := by
  have key : ∀ (m n i : Nat), i + m = k → m < n → iterF f n (st i) = r := by
    intro m
    induction m with
    | zero =>
      intro n i hi hn
      obtain ⟨n, rfl⟩ : ∃ n', n = n' + 1 := ⟨n - 1, by omega⟩
      unfold iterF
      obtain rfl : i = k := by omega
      exact he _
    | succ m ih =>
      intro n i hi hn
      obtain ⟨n, rfl⟩ : ∃ n', n = n' + 1 := ⟨n - 1, by omega⟩
      unfold iterF
      rw [h _ i (by omega)]
      exact ih n (i + 1) (by omega) (by omega)
  intro n hn
  exact key k n 0 (by omega) hn

theorem iter_run' {f : (σ → Option R) → σ → Option R} (st : Nat → σ) (k : Nat) {r : Option R} {s0 : σ} (h0 : st 0 = s0) (h : ∀ rec i, i < k → f rec (st i) = rec (st (i + 1))) (he : ∀ rec, f rec (st k) = r) {n : Nat} (hn : k < n) : iterF f n s0 = r := by
  subst h0; exact iter_run st k h he hn

/-- A loop by what is left to do. -/
theorem iter_rec {f : (σ → Option R) → σ → Option R} (I : Nat → σ → Prop) (res : σ → Option R) (h : ∀ k s rec, I k s → (∀ j s', j < k → I j s' → rec s' = res s') → f rec s = res s) :
    ∀ (n k : Nat) (s : σ), I k s → k < n → iterF f n s = res s
  | 0, k, s, _, hk => absurd hk (Nat.not_lt_zero _)
  | n + 1, k, s, hi, hk => h k s (iterF f n) hi fun j s' hj hs' => iter_rec I res h n j s' hs' (by omega)

/-- A loop that asks each, until one is not so. -/
theorem iter_allL {α : Type} {body : (Int → Option R) → Int → Option R} (l : List α) (p : α → Bool) (no fin : Option R) {n : Nat} (hn : l.length < n)
    (hb : ∀ rec i (hi : i < l.length), body rec (i : Int) = if p l[i] = true then rec ((i + 1 : Nat) : Int) else no) (he : ∀ rec, body rec (l.length : Int) = fin) : iterF body n (0 : Int) = if l.all p = true then fin else no := by
  have key : ∀ (k n : Nat) (i : Nat), i + k = l.length → k < n → iterF body n (i : Int) = if (l.drop i).all p = true then fin else no := by
    intro k
    induction k with
    | zero =>
      intro n i hi hn
      obtain ⟨n, rfl⟩ : ∃ n', n = n' + 1 := ⟨n - 1, by omega⟩
      obtain rfl : i = l.length := by omega
      unfold iterF
      rw [he]; simp
    | succ k ih =>
      intro n i hi hn
      obtain ⟨n, rfl⟩ : ∃ n', n = n' + 1 := ⟨n - 1, by omega⟩
      have hil : i < l.length := by omega
      unfold iterF
      rw [hb _ i hil, List.drop_eq_getElem_cons hil, List.all_cons]
      cases hp : p l[i] with
      | false => simp
      | true => rw [if_pos rfl, ih n (i + 1) (by omega) (by omega)]; simp
  have := key l.length n 0 (by omega) hn
  simpa using this

/-- Where ways meet. -/
theorem join_intro {f : σ → Option R} {g : (σ → Option R) → Option R} {r : Option R} (I : σ → Option R → Prop) (h1 : ∀ s q, I s q → f s = q) (h2 : ∀ J, (∀ s q, I s q → J s = q) → g J = r) : joinF f g = r := h2 f h1

theorem atI_pos {i : Int} {n : Nat} {x : Option R} (h0 : 0 ≤ i) (h1 : i < n) : atI i n x = x := by
  unfold atI; rw [if_pos ⟨h0, h1⟩]

theorem atI_nat {i n : Nat} {x : Option R} (h1 : i < n) : atI (i : Int) n x = x := atI_pos (by omega) (by omega)

theorem getD_lt' {α : Type} {l : List α} {i : Nat} {d : α} (hi : i < l.length) : l.getD i d = l[i] := by
  rw [List.getD_eq_getElem?_getD, List.getElem?_eq_getElem hi]; rfl

theorem flatMap_take {α β : Type} (f : α → List β) {l : List α} {i : Nat} (hi : i < l.length) : (l.take (i + 1)).flatMap f = (l.take i).flatMap f ++ f l[i] := by
  rw [List.take_succ_eq_append_getElem hi, List.flatMap_append, List.flatMap_cons, List.flatMap_nil, List.append_nil]
theorem map_take {α β : Type} (f : α → β) {l : List α} {i : Nat} (hi : i < l.length) : (l.take (i + 1)).map f = (l.take i).map f ++ [f l[i]] := by
  rw [List.take_succ_eq_append_getElem hi, List.map_append, List.map_cons, List.map_nil]

/-! ### Bits -/

theorem wrapU8 {x : Nat} (h : x < 256) : IntKind.u8.wrap (x : Int) = (x : Int) := wrap_u8 (by omega) (by omega)
theorem wrapU64 {x : Nat} (h : x < 18446744073709551616) : IntKind.u64.wrap (x : Int) = (x : Int) := wrap_u64 (by omega) (by omega)
theorem wrapI64 {x : Nat} (h : x < 9223372036854775808) : IntKind.i64.wrap (x : Int) = (x : Int) := wrap_i64 (by omega) (by omega)

theorem wrap_mod8 (x : Int) : IntKind.u8.wrap x = x % 256 := by
  simp only [IntKind.wrap, IntKind.bits, IntKind.signed]; simp
theorem wrap_mod64 (x : Int) : IntKind.u64.wrap x = x % 18446744073709551616 := by
  simp only [IntKind.wrap, IntKind.bits, IntKind.signed]; simp

theorem ofInt_nat (w x : Nat) (h : x < 2 ^ w) : (BitVec.ofInt w (x : Int)).toNat = x := by
  simp [BitVec.toNat_ofInt]
  exact_mod_cast Nat.mod_eq_of_lt h

theorem bits_or8 {x y : Nat} (hx : x < 256) (hy : y < 256) : bits .or .u8 (x : Int) (y : Int) = ((x ||| y : Nat) : Int) := by
  have e1 := ofInt_nat 8 x (by omega)
  have e2 := ofInt_nat 8 y (by omega)
  have h : x ||| y < 2 ^ 8 := Nat.or_lt_two_pow (by omega) (by omega)
  show IntKind.u8.wrap (((BitVec.ofInt 8 (x : Int)) ||| (BitVec.ofInt 8 (y : Int))).toNat : Int) = _
  rw [BitVec.toNat_or, e1, e2]
  exact wrapU8 (by omega)
theorem bits_and8 {x y : Nat} (hx : x < 256) (hy : y < 256) : bits .and .u8 (x : Int) (y : Int) = ((x &&& y : Nat) : Int) := by
  have e1 := ofInt_nat 8 x (by omega)
  have e2 := ofInt_nat 8 y (by omega)
  have h : x &&& y ≤ x := Nat.and_le_left
  show IntKind.u8.wrap (((BitVec.ofInt 8 (x : Int)) &&& (BitVec.ofInt 8 (y : Int))).toNat : Int) = _
  rw [BitVec.toNat_and, e1, e2]
  exact wrapU8 (by omega)
theorem bits_or64 {x y : Nat} (hx : x < 18446744073709551616) (hy : y < 18446744073709551616) : bits .or .u64 (x : Int) (y : Int) = ((x ||| y : Nat) : Int) := by
  have e1 := ofInt_nat 64 x (by omega)
  have e2 := ofInt_nat 64 y (by omega)
  have h : x ||| y < 2 ^ 64 := Nat.or_lt_two_pow (by omega) (by omega)
  show IntKind.u64.wrap (((BitVec.ofInt 64 (x : Int)) ||| (BitVec.ofInt 64 (y : Int))).toNat : Int) = _
  rw [BitVec.toNat_or, e1, e2]
  exact wrapU64 (by omega)
theorem bits_and64 {x y : Nat} (hx : x < 18446744073709551616) (hy : y < 18446744073709551616) : bits .and .u64 (x : Int) (y : Int) = ((x &&& y : Nat) : Int) := by
  have e1 := ofInt_nat 64 x (by omega)
  have e2 := ofInt_nat 64 y (by omega)
  have h : x &&& y ≤ x := Nat.and_le_left
  show IntKind.u64.wrap (((BitVec.ofInt 64 (x : Int)) &&& (BitVec.ofInt 64 (y : Int))).toNat : Int) = _
  rw [BitVec.toNat_and, e1, e2]
  exact wrapU64 (by omega)
theorem bits_xor64 {x y : Nat} (hx : x < 18446744073709551616) (hy : y < 18446744073709551616) : bits .xor .u64 (x : Int) (y : Int) = ((x ^^^ y : Nat) : Int) := by
  have e1 := ofInt_nat 64 x (by omega)
  have e2 := ofInt_nat 64 y (by omega)
  have h : x ^^^ y < 2 ^ 64 := Nat.xor_lt_two_pow (by omega) (by omega)
  show IntKind.u64.wrap (((BitVec.ofInt 64 (x : Int)) ^^^ (BitVec.ofInt 64 (y : Int))).toNat : Int) = _
  rw [BitVec.toNat_xor, e1, e2]
  exact wrapU64 (by omega)

theorem fdiv_nat (x k : Nat) : ((x : Int)).fdiv (k : Int) = ((x / k : Nat) : Int) := by
  rw [Int.fdiv_eq_ediv_of_nonneg _ (by omega)]
  exact (Int.natCast_ediv x k).symm
theorem tdiv_nat (x k : Nat) : ((x : Int)).tdiv (k : Int) = ((x / k : Nat) : Int) := by
  rw [Int.tdiv_eq_ediv_of_nonneg (by omega)]
  exact (Int.natCast_ediv x k).symm
theorem tmod_nat (x k : Nat) : ((x : Int)).tmod (k : Int) = ((x % k : Nat) : Int) := by
  rw [Int.tmod_eq_emod_of_nonneg (by omega)]
  exact (Int.natCast_emod x k).symm

theorem shr_u64 (v k : Nat) (hk : k ≤ 64) : ((v : Int)).fdiv (2 ^ min ((k : Int)).toNat IntKind.u64.bits) = ((v / 2 ^ k : Nat) : Int) := by
  have : (2 ^ min ((k : Int)).toNat IntKind.u64.bits : Int) = ((2 ^ k : Nat) : Int) := by
    rw [Int.toNat_natCast, show IntKind.u64.bits = 64 from rfl, Nat.min_eq_left hk]
    push_cast; rfl
  rw [this, fdiv_nat]
theorem shr_u8 (v k : Nat) (hk : k ≤ 8) : ((v : Int)).fdiv (2 ^ min ((k : Int)).toNat IntKind.u8.bits) = ((v / 2 ^ k : Nat) : Int) := by
  have : (2 ^ min ((k : Int)).toNat IntKind.u8.bits : Int) = ((2 ^ k : Nat) : Int) := by
    rw [Int.toNat_natCast, show IntKind.u8.bits = 8 from rfl, Nat.min_eq_left hk]
    push_cast; rfl
  rw [this, fdiv_nat]
theorem shl_pow (v k w : Nat) (hk : k ≤ w) : (v : Int) * 2 ^ min ((k : Int)).toNat w = ((v * 2 ^ k : Nat) : Int) := by
  rw [Int.toNat_natCast, Nat.min_eq_left hk]
  push_cast; rfl
set_option maxRecDepth 100000 in
theorem or128 {x : Nat} (h : x < 256) : x ||| 128 = x % 128 + 128 := (by decide : ∀ x : Fin 256, x.1 ||| 128 = x.1 % 128 + 128) ⟨x, h⟩
set_option maxRecDepth 100000 in
theorem and128 {x : Nat} (h : x < 256) : x &&& 128 = if x < 128 then 0 else 128 := (by decide : ∀ x : Fin 256, x.1 &&& 128 = if x.1 < 128 then 0 else 128) ⟨x, h⟩
set_option maxRecDepth 100000 in
theorem and127 {x : Nat} (h : x < 256) : x &&& 127 = x % 128 := (by decide : ∀ x : Fin 256, x.1 &&& 127 = x.1 % 128) ⟨x, h⟩

/-! ### Numbers of few bytes -/

def putN (v : Nat) : List Int :=
  if v < 128 then [(v : Int)] else ((v % 128 + 128 : Nat) : Int) :: putN (v / 128)
termination_by v
decreasing_by omega

theorem putN_small {v : Nat} (h : v < 128) : putN v = [(v : Int)] := by
  rw [putN]; simp [h]
theorem putN_big {v : Nat} (h : 128 ≤ v) : putN v = ((v % 128 + 128 : Nat) : Int) :: putN (v / 128) := by
  conv => lhs; rw [putN]
  rw [if_neg (by omega)]

theorem putN_ne (v : Nat) : putN v ≠ [] := by
  rw [putN]; split <;> simp

theorem putN_len (v : Nat) : 1 ≤ (putN v).length := by
  have := putN_ne v
  cases h : putN v with
  | nil => exact absurd h this
  | cons => simp

theorem putN_le : ∀ (k v : Nat), v < 128 ^ (k + 1) → (putN v).length ≤ k + 1
  | 0, v, h => by rw [putN_small (by omega)]; simp
  | k + 1, v, h => by
    by_cases hv : v < 128
    · rw [putN_small hv]; simp
    · rw [putN_big (by omega)]
      have := putN_le k (v / 128) (by rw [Nat.pow_succ] at h; omega)
      simp; omega

theorem putN_le10 {v : Nat} (h : v < 18446744073709551616) : (putN v).length ≤ 10 := putN_le 9 v (by omega)

theorem putN_in : ∀ (v : Nat) (b : Int), b ∈ putN v → 0 ≤ b ∧ b ≤ 255 := by
  intro v
  induction v using Nat.strongRecOn with
  | ind v ih =>
    intro b hb
    by_cases h : v < 128
    · rw [putN_small h] at hb
      simp at hb; subst hb; omega
    · rw [putN_big (by omega)] at hb
      rcases List.mem_cons.1 hb with rfl | hb
      · omega
      · exact ih (v / 128) (by omega) b hb

/-- No number's bytes begin with another's. -/
theorem putN_prefix : ∀ (v v' : Nat) (s s' : List Int), putN v ++ s = putN v' ++ s' → v = v' ∧ s = s' := by
  intro v
  induction v using Nat.strongRecOn with
  | ind v ih =>
    intro v' s s' h
    by_cases h1 : v < 128
    · by_cases h2 : v' < 128
      · rw [putN_small h1, putN_small h2] at h
        simp at h
        exact ⟨by omega, h.2⟩
      · rw [putN_small h1, putN_big (by omega)] at h
        simp at h
        omega
    · by_cases h2 : v' < 128
      · rw [putN_small h2, putN_big (by omega)] at h
        simp at h
        omega
      · rw [putN_big (by omega), putN_big (v := v') (by omega)] at h
        simp only [List.cons_append, List.cons.injEq] at h
        obtain ⟨h3, h4⟩ := ih (v / 128) (by omega) (v' / 128) s s' h.2
        exact ⟨by omega, h4⟩

/-- What bytes say a number with: the number, how many they are. -/
def takeN : List Int → Option (Nat × Nat)
  | [] => none
  | b :: l =>
    if b < 128 then some (b.toNat, 1)
    else match takeN l with
      | some (v, n) => if v = 0 ∨ 18446744073709551616 ≤ b.toNat - 128 + 128 * v then none else some (b.toNat - 128 + 128 * v, n + 1)
      | none => none

theorem takeN_put : ∀ (v : Nat) (s : List Int), v < 18446744073709551616 → takeN (putN v ++ s) = some (v, (putN v).length) := by
  intro v
  induction v using Nat.strongRecOn with
  | ind v ih =>
    intro s hv
    by_cases h : v < 128
    · rw [putN_small h]
      simp only [List.cons_append, List.nil_append, takeN]
      rw [if_pos (by omega)]
      simp
    · rw [putN_big (by omega)]
      simp only [List.cons_append, takeN]
      rw [if_neg (by omega), ih (v / 128) (by omega) s (by omega)]
      have e : ((v % 128 + 128 : Nat) : Int).toNat - 128 + 128 * (v / 128) = v := by omega
      simp only [e]
      rw [if_neg (by omega)]
      simp

theorem takeN_some : ∀ {b : List Int} {v n : Nat}, (∀ x, x ∈ b → 0 ≤ x ∧ x ≤ 255) → takeN b = some (v, n) → v < 18446744073709551616 ∧ n ≤ b.length ∧ b.take n = putN v
  | [], v, n, _, h => by simp [takeN] at h
  | b :: l, v, n, hb, h => by
    have h0 := hb b (by simp)
    unfold takeN at h
    split at h
    · simp at h
      obtain ⟨rfl, rfl⟩ := h
      refine ⟨by omega, by simp, ?_⟩
      rw [putN_small (by omega)]
      simp; omega
    · split at h
      · rename_i v' n' he
        split at h
        · cases h
        · rename_i hne
          simp at h
          obtain ⟨rfl, rfl⟩ := h
          obtain ⟨h1, h2, h3⟩ := takeN_some (fun x hx => hb x (List.mem_cons_of_mem _ hx)) he
          refine ⟨by omega, by simp; omega, ?_⟩
          rw [putN_big (by omega), List.take_succ_cons, h3]
          have e1 : (b.toNat - 128 + 128 * v') % 128 = b.toNat - 128 := by omega
          have e2 : (b.toNat - 128 + 128 * v') / 128 = v' := by omega
          rw [e1, e2]
          congr 1
          omega
      · cases h

theorem takeN_bytes {b : List Int} {v n : Nat} (hb : ∀ x, x ∈ b → 0 ≤ x ∧ x ≤ 255) (h : takeN b = some (v, n)) : n = (putN v).length ∧ b = putN v ++ b.drop n := by
  obtain ⟨h1, h2, h3⟩ := takeN_some hb h
  refine ⟨?_, ?_⟩
  · rw [← h3]; simp [h2]
  · rw [← h3]; simp

/-! ### Numbers with a sign -/

theorem xor_u64_zero {x : Nat} (h : x < 18446744073709551616) : bits .xor .u64 (x : Int) 0 = (x : Int) := by
  have := bits_xor64 h (show 0 < 18446744073709551616 by omega)
  simpa using this
theorem xor_u64_ones {x : Nat} (h : x < 18446744073709551616) : bits .xor .u64 (x : Int) 18446744073709551615 = ((18446744073709551615 - x : Nat) : Int) := by
  show IntKind.u64.wrap (((BitVec.ofInt 64 (x : Int)) ^^^ (BitVec.ofInt 64 (18446744073709551615 : Int))).toNat : Int) = _
  rw [show BitVec.ofInt 64 (18446744073709551615 : Int) = BitVec.allOnes 64 by decide, BitVec.xor_allOnes, BitVec.toNat_not, ofInt_nat 64 x (by omega)]
  exact wrapU64 (by omega)
theorem xor_i64_zero {x : Nat} (h : x < 9223372036854775808) : bits .xor .i64 (x : Int) 0 = (x : Int) := by
  show IntKind.i64.wrap (((BitVec.ofInt 64 (x : Int)) ^^^ (BitVec.ofInt 64 (0 : Int))).toNat : Int) = _
  rw [show BitVec.ofInt 64 (0 : Int) = 0#64 by decide, BitVec.xor_zero, ofInt_nat 64 x (by omega)]
  exact wrapI64 h
theorem xor_i64_ones {x : Nat} (h : x < 9223372036854775808) : bits .xor .i64 (x : Int) (-1) = -(x : Int) - 1 := by
  show IntKind.i64.wrap (((BitVec.ofInt 64 (x : Int)) ^^^ (BitVec.ofInt 64 (-1 : Int))).toNat : Int) = _
  rw [show BitVec.ofInt 64 (-1 : Int) = BitVec.allOnes 64 by decide, BitVec.xor_allOnes, BitVec.toNat_not, ofInt_nat 64 x (by omega)]
  simp only [IntKind.wrap, IntKind.bits, IntKind.signed, if_true]
  simp
  split <;> omega

def zig (v : Int) : Nat := if 0 ≤ v then 2 * v.toNat else 2 * (-(v + 1)).toNat + 1
def zag (u : Nat) : Int := if u % 2 = 0 then (u / 2 : Nat) else -((u / 2 : Nat) : Int) - 1

theorem zig_code {v : Int} (h1 : -9223372036854775808 ≤ v) (h2 : v ≤ 9223372036854775807) :
    bits .xor .u64 (IntKind.u64.wrap ((IntKind.u64.wrap v) * 2 ^ min (1:Int).toNat IntKind.u64.bits)) (IntKind.u64.wrap (v.fdiv (2 ^ min (63:Int).toNat IntKind.i64.bits))) = ((zig v : Nat) : Int) := by
  have e1 : (2 ^ min (1:Int).toNat IntKind.u64.bits : Int) = 2 := by decide
  have e2 : (2 ^ min (63:Int).toNat IntKind.i64.bits : Int) = 9223372036854775808 := by decide
  rw [e1, e2, wrap_mod64, wrap_mod64, wrap_mod64, Int.fdiv_eq_ediv_of_nonneg _ (by omega)]
  unfold zig
  by_cases h : 0 ≤ v
  · rw [if_pos h, show v / 9223372036854775808 % 18446744073709551616 = 0 by omega, show v % 18446744073709551616 * 2 % 18446744073709551616 = ((2 * v.toNat : Nat) : Int) by omega]
    exact xor_u64_zero (by omega)
  · rw [if_neg h, show v / 9223372036854775808 % 18446744073709551616 = 18446744073709551615 by omega, show v % 18446744073709551616 * 2 % 18446744073709551616 = ((18446744073709551616 - 2 * (-v).toNat : Nat) : Int) by omega]
    rw [xor_u64_ones (by omega)]
    omega

theorem zag_code {u : Nat} (h : u < 18446744073709551616) :
    bits .xor .i64 (IntKind.i64.wrap ((u : Int).fdiv (2 ^ min (1:Int).toNat IntKind.u64.bits))) (IntKind.i64.wrap (0 - (IntKind.i64.wrap (bits .and .u64 (u : Int) (1:Int))))) = zag u := by
  have e1 : (2 ^ min (1:Int).toNat IntKind.u64.bits : Int) = ((2 : Nat) : Int) := by decide
  have e3 : bits .and .u64 (u : Int) (1:Int) = ((u % 2 : Nat) : Int) := by
    have := bits_and64 h (show 1 < 18446744073709551616 by omega)
    rw [Nat.and_one_is_mod] at this
    exact this
  rw [e1, fdiv_nat, wrapI64 (by omega), e3, wrapI64 (x := u % 2) (by omega)]
  unfold zag
  by_cases h0 : u % 2 = 0
  · rw [if_pos h0, h0, show (0 : Int) - ((0 : Nat) : Int) = ((0 : Nat) : Int) by omega, wrapI64 (by omega)]
    exact xor_i64_zero (by omega)
  · rw [if_neg h0, show u % 2 = 1 by omega, show (0 : Int) - ((1 : Nat) : Int) = -1 by omega, wrap_i64 (by omega) (by omega)]
    exact xor_i64_ones (by omega)

theorem zag_zig (v : Int) : zag (zig v) = v := by
  unfold zag zig
  split <;> split <;> omega
theorem zig_lt {v : Int} (h1 : -9223372036854775808 ≤ v) (h2 : v ≤ 9223372036854775807) : zig v < 18446744073709551616 := by
  unfold zig; split <;> omega
theorem zag_in {u : Nat} (h : u < 18446744073709551616) : -9223372036854775808 ≤ zag u ∧ zag u ≤ 9223372036854775807 := by
  unfold zag; split <;> omega

end Go.Rb

namespace Go.Rb

/-- c bits from s on, as a number, the lowest first. -/
def numTo (bit : Nat → Nat) (s : Nat) : Nat → Nat
  | 0 => 0
  | c + 1 => numTo bit s c + bit (s + c) * 2 ^ c

variable {bit bit' : Nat → Nat}

theorem numTo_lt (hb : ∀ p, bit p ≤ 1) (s : Nat) : ∀ c, numTo bit s c < 2 ^ c
  | 0 => by simp [numTo]
  | c + 1 => by
    have h1 := numTo_lt hb s c
    have h2 : bit (s + c) * 2 ^ c ≤ 1 * 2 ^ c := Nat.mul_le_mul_right _ (hb _)
    rw [numTo, Nat.pow_succ]; omega

theorem numTo_congr {s c : Nat} (h : ∀ p, s ≤ p → p < s + c → bit p = bit' p) : numTo bit s c = numTo bit' s c := by
  induction c with
  | zero => rfl
  | succ c ih => rw [numTo, numTo, ih fun p h1 h2 => h p h1 (by omega), h (s + c) (by omega) (by omega)]

/-- .. from the other side. -/
theorem numTo_low (bit : Nat → Nat) (s : Nat) : ∀ c, numTo bit s (c + 1) = bit s + 2 * numTo bit (s + 1) c
  | 0 => by simp [numTo]
  | c + 1 => by
    rw [numTo, numTo_low bit s c, numTo, show s + (c + 1) = s + 1 + c by omega, Nat.pow_succ]
    generalize bit (s + 1 + c) = x
    generalize numTo bit (s + 1) c = y
    rw [Nat.mul_add, ← Nat.mul_assoc, Nat.mul_comm (x * 2 ^ c) 2, ← Nat.mul_assoc]; omega

theorem numTo_bit (hb : ∀ p, bit p ≤ 1) : ∀ (c s t : Nat), numTo bit s c / 2 ^ t % 2 = if t < c then bit (s + t) else 0
  | 0, s, t => by simp [numTo]
  | c + 1, s, 0 => by
    have := hb s
    rw [numTo_low]
    simp; omega
  | c + 1, s, t + 1 => by
    have := hb s
    have ih := numTo_bit hb c (s + 1) t
    rw [numTo_low, Nat.pow_succ, Nat.mul_comm (2 ^ t) 2, ← Nat.div_div_eq_div_mul, show (bit s + 2 * numTo bit (s + 1) c) / 2 = numTo bit (s + 1) c by omega, ih]
    by_cases h : t < c
    · rw [if_pos h, if_pos (by omega), show s + 1 + t = s + (t + 1) by omega]
    · rw [if_neg h, if_neg (by omega)]

theorem numTo_of (v s : Nat) : ∀ w, numTo (fun p => v / 2 ^ (p - s) % 2) s w = v % 2 ^ w
  | 0 => by simp [numTo, Nat.mod_one]
  | w + 1 => by
    rw [numTo, numTo_of v s w, show s + w - s = w by omega, Nat.pow_succ, Nat.mod_mul]
    rw [Nat.mul_comm]

/-- Byte j, of the bits ahead of p. -/
def byteTo (bit : Nat → Nat) (p j : Nat) : Nat := numTo bit (8 * j) (min 8 (p - 8 * j))

theorem byteTo_lt (hb : ∀ p, bit p ≤ 1) (p j : Nat) : byteTo bit p j < 256 := by
  have h1 := numTo_lt hb (8 * j) (min 8 (p - 8 * j))
  have h2 : 2 ^ (min 8 (p - 8 * j)) ≤ 2 ^ 8 := Nat.pow_le_pow_right (by omega) (Nat.min_le_left _ _)
  unfold byteTo; omega

theorem byteTo_other {p j : Nat} (h : p / 8 ≠ j) : byteTo bit (p + 1) j = byteTo bit p j := by
  unfold byteTo
  congr 1
  omega

theorem byteTo_same {p : Nat} : byteTo bit (p + 1) (p / 8) = byteTo bit p (p / 8) + bit p * 2 ^ (p % 8) := by
  unfold byteTo
  rw [show min 8 (p + 1 - 8 * (p / 8)) = p % 8 + 1 by omega, show min 8 (p - 8 * (p / 8)) = p % 8 by omega, numTo]
  rw [show 8 * (p / 8) + p % 8 = p by omega]

theorem byteTo_small (hb : ∀ p, bit p ≤ 1) (p : Nat) : byteTo bit p (p / 8) < 2 ^ (p % 8) := by
  unfold byteTo
  rw [show min 8 (p - 8 * (p / 8)) = p % 8 by omega]
  exact numTo_lt hb _ _

theorem or_add {a b k : Nat} (h : a < 2 ^ k) : a ||| b * 2 ^ k = a + b * 2 ^ k := by
  rw [Nat.mul_comm b, Nat.or_comm, Nat.add_comm]
  exact (Nat.two_pow_add_eq_or_of_lt h b).symm

/-- m bytes of the bits ahead of p. -/
def bytesTo (bit : Nat → Nat) (m p : Nat) : List Int := (List.range m).map fun j => ((byteTo bit p j : Nat) : Int)

theorem bytesTo_len (m p : Nat) : (bytesTo bit m p).length = m := by simp [bytesTo]

theorem bytesTo_get {m p j : Nat} (h : j < m) : (bytesTo bit m p).getD j 0 = ((byteTo bit p j : Nat) : Int) := by
  rw [getD_lt' (by simpa [bytesTo] using h)]
  simp [bytesTo]

theorem bytesTo_zero (m : Nat) : bytesTo bit m 0 = List.replicate m 0 := by
  unfold bytesTo
  apply List.ext_getElem
  · simp
  · intro i h1 h2
    simp [byteTo, numTo]

theorem bytesTo_step {m p : Nat} (h : p / 8 < m) : (bytesTo bit m p).set (p / 8) (((byteTo bit p (p / 8) + bit p * 2 ^ (p % 8) : Nat) : Int)) = bytesTo bit m (p + 1) := by
  apply List.ext_getElem
  · simp [bytesTo]
  · intro i h1 h2
    rw [List.getElem_set]
    simp only [bytesTo, List.getElem_map, List.getElem_range]
    by_cases hi : p / 8 = i
    · subst hi
      rw [if_pos rfl, byteTo_same]
    · rw [if_neg hi, byteTo_other hi]

theorem bytesTo_in (hb : ∀ p, bit p ≤ 1) {m p : Nat} : ∀ x, x ∈ bytesTo bit m p → 0 ≤ x ∧ x ≤ 255 := by
  intro x hx
  simp only [bytesTo, List.mem_map] at hx
  obtain ⟨j, _, rfl⟩ := hx
  have := byteTo_lt hb p j
  omega

/-- Bit p of bytes. -/
def bitB (b : List Int) (p : Nat) : Nat := (b.getD (p / 8) 0).toNat / 2 ^ (p % 8) % 2

theorem bitB_le (b : List Int) (p : Nat) : bitB b p ≤ 1 := by unfold bitB; omega

theorem bitB_bytesTo (hb : ∀ p, bit p ≤ 1) {m P p : Nat} (h : p < P) (hm : p / 8 < m) : bitB (bytesTo bit m P) p = bit p := by
  unfold bitB
  rw [bytesTo_get hm, Int.toNat_natCast]
  unfold byteTo
  rw [numTo_bit hb, if_pos (by omega), show 8 * (p / 8) + p % 8 = p by omega]

/-- Bit p of numbers of w bits. -/
def bitL (l : List Int) (w p : Nat) : Nat := (l.getD (p / w) 0).toNat / 2 ^ (p % w) % 2

theorem bitL_le (l : List Int) (w p : Nat) : bitL l w p ≤ 1 := by unfold bitL; omega

/-- Numbers of w bits as bytes. -/
def bitsB (l : List Int) (w : Nat) : List Int := bytesTo (bitL l w) ((l.length * w + 7) / 8) (l.length * w)

theorem bitsB_len (l : List Int) (w : Nat) : (bitsB l w).length = (l.length * w + 7) / 8 := bytesTo_len _ _

/-- n numbers of w bits out of bytes. -/
def bitsL (b : List Int) (n w : Nat) : List Int := (List.range n).map fun i => ((numTo (bitB b) (i * w) w : Nat) : Int)

theorem bitsL_len (b : List Int) (n w : Nat) : (bitsL b n w).length = n := by simp [bitsL]

theorem mul_add_div {i w t : Nat} (h : t < w) : (i * w + t) / w = i := by
  rw [Nat.mul_comm, Nat.mul_add_div (by omega), Nat.div_eq_of_lt h]; rfl
theorem mul_add_mod {i w t : Nat} (h : t < w) : (i * w + t) % w = t := by
  rw [Nat.mul_comm, Nat.mul_add_mod, Nat.mod_eq_of_lt h]

theorem bitsL_bitsB {l : List Int} {w : Nat} (hl : ∀ x, x ∈ l → 0 ≤ x ∧ x.toNat < 2 ^ w) : bitsL (bitsB l w) l.length w = l := by
  apply List.ext_getElem
  · simp [bitsL]
  · intro i h1 h2
    simp only [bitsL, List.getElem_map, List.getElem_range]
    have hx := hl _ (List.getElem_mem h2)
    have key : numTo (bitB (bitsB l w)) (i * w) w = numTo (fun p => l[i].toNat / 2 ^ (p - i * w) % 2) (i * w) w := by
      refine numTo_congr fun p q1 q2 => ?_
      obtain ⟨t, rfl⟩ : ∃ t, p = i * w + t := ⟨p - i * w, by omega⟩
      have ht : t < w := by omega
      have hle : i * w + w ≤ l.length * w := by
        have := Nat.mul_le_mul_right w (show i + 1 ≤ l.length from h2)
        rwa [Nat.add_mul, Nat.one_mul] at this
      unfold bitsB
      rw [bitB_bytesTo (bitL_le l w) (by omega) (by omega)]
      unfold bitL
      rw [mul_add_div ht, mul_add_mod ht, getD_lt' h2, show i * w + t - i * w = t by omega]
    rw [key, numTo_of, Nat.mod_eq_of_lt hx.2]
    omega

theorem bitsB_inj {l l' : List Int} {w : Nat} (hlen : l.length = l'.length) (hl : ∀ x, x ∈ l → 0 ≤ x ∧ x.toNat < 2 ^ w) (hl' : ∀ x, x ∈ l' → 0 ≤ x ∧ x.toNat < 2 ^ w) (h : bitsB l w = bitsB l' w) : l = l' := by
  rw [← bitsL_bitsB hl, ← bitsL_bitsB hl', h, hlen]

/-! ### A number out of bytes, byte by byte -/

def combN (i V : Nat) : Option (Nat × Nat) → Option (Nat × Nat)
  | some (v, k) => if (i = 0 ∨ v ≠ 0) ∧ V + 2 ^ (7 * i) * v < 18446744073709551616 then some (V + 2 ^ (7 * i) * v, i + k) else none
  | none => none

theorem combN_some (i V v k : Nat) : combN i V (some (v, k)) = if (i = 0 ∨ v ≠ 0) ∧ V + 2 ^ (7 * i) * v < 18446744073709551616 then some (V + 2 ^ (7 * i) * v, i + k) else none := rfl
theorem combN_none (i V : Nat) : combN i V none = none := rfl
theorem takeN_cons (b : Int) (l : List Int) : takeN (b :: l) = if b < 128 then some (b.toNat, 1) else match takeN l with
    | some (v, n) => if v = 0 ∨ 18446744073709551616 ≤ b.toNat - 128 + 128 * v then none else some (b.toNat - 128 + 128 * v, n + 1)
    | none => none := rfl

theorem pow7 (i : Nat) : 2 ^ (7 * (i + 1)) = 128 * 2 ^ (7 * i) := by
  rw [Nat.mul_add, Nat.pow_add]; omega

theorem combN_zero {b : List Int} (hb : ∀ x, x ∈ b → 0 ≤ x ∧ x ≤ 255) : combN 0 0 (takeN b) = takeN b := by
  cases h : takeN b with
  | none => rfl
  | some r =>
    obtain ⟨v, k⟩ := r
    have := (takeN_some hb h).1
    rw [combN_some, if_pos (by simp; omega)]
    simp

theorem combN_step {b : List Int} {i V : Nat} (hi : i < b.length) (hc : 128 ≤ b[i]) : combN i V (takeN (b.drop i)) = combN (i + 1) (V + (b[i].toNat - 128) * 2 ^ (7 * i)) (takeN (b.drop (i + 1))) := by
  rw [List.drop_eq_getElem_cons hi, takeN_cons, if_neg (by omega)]
  cases takeN (b.drop (i + 1)) with
  | none => rfl
  | some r =>
    obtain ⟨v, k⟩ := r
    dsimp only
    have e : V + 2 ^ (7 * i) * (b[i].toNat - 128 + 128 * v) = V + (b[i].toNat - 128) * 2 ^ (7 * i) + 2 ^ (7 * (i + 1)) * v := by
      rw [pow7, Nat.mul_add, Nat.mul_comm (2 ^ (7 * i)) (b[i].toNat - 128), Nat.add_assoc]
      congr 2
      rw [← Nat.mul_assoc, Nat.mul_comm (2 ^ (7 * i)) 128]
    have hle : b[i].toNat - 128 + 128 * v ≤ V + 2 ^ (7 * i) * (b[i].toNat - 128 + 128 * v) := by
      have h1 : 1 ≤ 2 ^ (7 * i) := Nat.pow_pos (by omega)
      have h2 := Nat.mul_le_mul_right (b[i].toNat - 128 + 128 * v) h1
      omega
    by_cases h0 : v = 0 ∨ 18446744073709551616 ≤ b[i].toNat - 128 + 128 * v
    · rw [if_pos h0, combN_none, combN_some, if_neg]
      rintro ⟨q1, q2⟩
      rw [← e] at q2
      omega
    · rw [if_neg h0, combN_some, combN_some, ← e]
      by_cases h1 : V + 2 ^ (7 * i) * (b[i].toNat - 128 + 128 * v) < 18446744073709551616
      · rw [if_pos ⟨by omega, h1⟩, if_pos ⟨by omega, h1⟩]
        congr 2; omega
      · rw [if_neg (fun q => h1 q.2), if_neg (fun q => h1 q.2)]

theorem combN_last {b : List Int} {i V : Nat} (hi : i < b.length) (hc : b[i] < 128) (h0 : 0 ≤ b[i]) : combN i V (takeN (b.drop i)) = if (i = 0 ∨ b[i] ≠ 0) ∧ V + b[i].toNat * 2 ^ (7 * i) < 18446744073709551616 then some (V + b[i].toNat * 2 ^ (7 * i), i + 1) else none := by
  rw [List.drop_eq_getElem_cons hi, takeN_cons, if_pos (by omega), combN_some]
  rw [Nat.mul_comm (2 ^ (7 * i))]
  have : b[i].toNat ≠ 0 ↔ b[i] ≠ 0 := by omega
  simp only [this]

theorem combN_ten {V : Nat} {r : Option (Nat × Nat)} : combN 10 V r = none := by
  cases r with
  | none => rfl
  | some r =>
    obtain ⟨v, k⟩ := r
    rw [combN_some, if_neg]
    rintro ⟨h1, h2⟩
    have : 2 ^ (7 * 10) * 1 ≤ 2 ^ (7 * 10) * v := Nat.mul_le_mul_left _ (by omega)
    omega

/-! ### How many bits -/

def blen (v : Nat) : Nat := if v = 0 then 0 else blen (v / 2) + 1
termination_by v
decreasing_by omega

theorem blen_zero : blen 0 = 0 := by rw [blen]; simp
theorem blen_pos {v : Nat} (h : 0 < v) : blen v = blen (v / 2) + 1 := by
  conv => lhs; rw [blen]
  rw [if_neg (by omega)]

theorem blen_le_iff : ∀ (w v : Nat), blen v ≤ w ↔ v < 2 ^ w
  | 0, v => by
    by_cases h : v = 0
    · subst h; simp [blen_zero]
    · rw [blen_pos (by omega)]; simp; omega
  | w + 1, v => by
    by_cases h : v = 0
    · subst h; simp [blen_zero, Nat.pow_pos]
    · rw [blen_pos (by omega)]
      have := blen_le_iff w (v / 2)
      rw [Nat.pow_succ]; omega

theorem blen_shift : ∀ (k v : Nat), 2 ^ k ≤ v → blen v = blen (v / 2 ^ k) + k
  | 0, v, _ => by simp
  | k + 1, v, h => by
    rw [Nat.pow_succ] at h
    have hp := Nat.pow_pos (n := k) (show 0 < 2 by omega)
    rw [blen_pos (by omega), blen_shift k (v / 2) (by omega), Nat.div_div_eq_div_mul, Nat.pow_succ, Nat.mul_comm 2]
    omega

def widthL (l : List Int) : Nat := l.foldl (fun w x => max w (blen x.toNat)) 0

theorem widthL_le {l : List Int} {w : Nat} : widthL l ≤ w ↔ ∀ x, x ∈ l → x.toNat < 2 ^ w := by
  have key : ∀ (l : List Int) (a : Nat), l.foldl (fun w x => max w (blen x.toNat)) a ≤ w ↔ a ≤ w ∧ ∀ x, x ∈ l → x.toNat < 2 ^ w := by
    intro l
    induction l with
    | nil => intro a; simp
    | cons y l ih =>
      intro a
      rw [List.foldl_cons, ih, Nat.max_le, blen_le_iff]
      simp [and_assoc]
  have := key l 0
  unfold widthL
  rw [this]; simp

end Go.Rb

namespace Go.Rb
set_option linter.unusedSectionVars false
variable {α : Type} [DecidableEq α]

/-- An order of those in S. -/
structure LinO (lt : α → α → Bool) (S : α → Prop) : Prop where
  irrefl : ∀ x, S x → lt x x = false
  trans : ∀ x y z, S x → S y → S z → lt x y = true → lt y z = true → lt x z = true
  total : ∀ x y, S x → S y → lt x y = true ∨ x = y ∨ lt y x = true

variable {lt : α → α → Bool} {S : α → Prop}

theorem LinO.asymm (h : LinO lt S) {x y : α} (hx : S x) (hy : S y) (h1 : lt x y = true) : lt y x = false := by
  cases h2 : lt y x with
  | false => rfl
  | true => have := h.trans x y x hx hy hx h1 h2; rw [h.irrefl x hx] at this; cases this

def Rising (lt : α → α → Bool) (l : List α) : Prop := l.Pairwise fun x y => lt x y = true

def insS (lt : α → α → Bool) (v : α) : List α → List α
  | [] => [v]
  | x :: l => if lt x v = true then x :: insS lt v l else if lt v x = true then v :: x :: l else x :: l

/-- The unlike ones, rising. -/
def distS (lt : α → α → Bool) (l : List α) : List α := l.foldl (fun d v => insS lt v d) []

theorem insS_mem (h : LinO lt S) {v : α} (hv : S v) : ∀ {l : List α}, (∀ x, x ∈ l → S x) → ∀ x, x ∈ insS lt v l ↔ x = v ∨ x ∈ l
  | [], _, x => by simp [insS]
  | y :: l, hl, x => by
    have hy := hl y (by simp)
    unfold insS
    split
    · rw [List.mem_cons, insS_mem h hv (fun x hx => hl x (List.mem_cons_of_mem _ hx)), List.mem_cons]
      exact or_left_comm
    · split
      · simp
      · rename_i h1 h2
        rcases h.total y v hy hv with h3 | h3 | h3
        · exact absurd h3 h1
        · subst h3; simp
        · exact absurd h3 h2

theorem insS_rising (h : LinO lt S) {v : α} (hv : S v) : ∀ {l : List α}, (∀ x, x ∈ l → S x) → Rising lt l → Rising lt (insS lt v l)
  | [], _, _ => by simp [insS, Rising]
  | y :: l, hl, hr => by
    have hy := hl y (by simp)
    have hl' := fun x hx => hl x (List.mem_cons_of_mem _ hx)
    obtain ⟨h1, h2⟩ := List.pairwise_cons.1 hr
    unfold insS
    split
    · rename_i h3
      refine List.pairwise_cons.2 ⟨fun x hx => ?_, insS_rising h hv hl' h2⟩
      rcases (insS_mem h hv hl' x).1 hx with rfl | hx
      · exact h3
      · exact h1 x hx
    · split
      · rename_i h3 h4
        refine List.pairwise_cons.2 ⟨fun x hx => ?_, hr⟩
        rcases List.mem_cons.1 hx with rfl | hx
        · exact h4
        · exact h.trans v y x hv hy (hl' x hx) h4 (h1 x hx)
      · exact hr

theorem dist_aux (h : LinO lt S) : ∀ (l d : List α), (∀ x, x ∈ l → S x) → (∀ x, x ∈ d → S x) → Rising lt d → (∀ x, x ∈ l.foldl (fun d v => insS lt v d) d ↔ x ∈ l ∨ x ∈ d) ∧ Rising lt (l.foldl (fun d v => insS lt v d) d)
  | [], d, _, _, hr => ⟨by simp, hr⟩
  | v :: l, d, hl, hd, hr => by
    have hv := hl v (by simp)
    have hd' : ∀ x, x ∈ insS lt v d → S x := fun x hx => by
      rcases (insS_mem h hv hd x).1 hx with rfl | hx
      · exact hv
      · exact hd x hx
    obtain ⟨h1, h2⟩ := dist_aux h l (insS lt v d) (fun x hx => hl x (List.mem_cons_of_mem _ hx)) hd' (insS_rising h hv hd hr)
    refine ⟨fun x => ?_, h2⟩
    rw [List.foldl_cons, h1 x, insS_mem h hv hd, List.mem_cons]
    constructor
    · rintro (h | h | h)
      · exact .inl (.inr h)
      · exact .inl (.inl h)
      · exact .inr h
    · rintro ((h | h) | h)
      · exact .inr (.inl h)
      · exact .inl h
      · exact .inr (.inr h)

theorem dist_mem (h : LinO lt S) {l : List α} (hl : ∀ x, x ∈ l → S x) (x : α) : x ∈ distS lt l ↔ x ∈ l := by
  have := (dist_aux h l [] hl (by simp) (by simp [Rising])).1 x
  unfold distS
  simpa using this
theorem dist_rising (h : LinO lt S) {l : List α} (hl : ∀ x, x ∈ l → S x) : Rising lt (distS lt l) := (dist_aux h l [] hl (by simp) (by simp [Rising])).2

theorem rising_uniq (h : LinO lt S) : ∀ {l l' : List α}, (∀ x, x ∈ l → S x) → Rising lt l → Rising lt l' → (∀ x, x ∈ l ↔ x ∈ l') → l = l'
  | [], [], _, _, _, _ => rfl
  | [], y :: l', _, _, _, hm => absurd ((hm y).2 (by simp)) (by simp)
  | x :: l, [], _, _, _, hm => absurd ((hm x).1 (by simp)) (by simp)
  | x :: l, y :: l', hl, hr, hr', hm => by
    obtain ⟨a1, a2⟩ := List.pairwise_cons.1 hr
    obtain ⟨b1, b2⟩ := List.pairwise_cons.1 hr'
    have hx := hl x (by simp)
    have hy := hl y ((hm y).2 (by simp))
    have hxy : x = y := by
      rcases List.mem_cons.1 ((hm x).1 (by simp)) with h1 | h1
      · exact h1
      · rcases List.mem_cons.1 ((hm y).2 (by simp)) with h2 | h2
        · exact h2.symm
        · have := h.asymm hx hy (a1 y h2)
          rw [b1 x h1] at this; cases this
    subst hxy
    congr 1
    refine rising_uniq h (fun z hz => hl z (List.mem_cons_of_mem _ hz)) a2 b2 fun z => ⟨fun hz => ?_, fun hz => ?_⟩
    · rcases List.mem_cons.1 ((hm z).1 (List.mem_cons_of_mem _ hz)) with rfl | h2
      · have := a1 z hz; rw [h.irrefl z hx] at this; cases this
      · exact h2
    · rcases List.mem_cons.1 ((hm z).2 (List.mem_cons_of_mem _ hz)) with rfl | h2
      · have := b1 z hz; rw [h.irrefl z hx] at this; cases this
      · exact h2

/-- Where one stands. -/
def posS (d : List α) (v : α) : Nat := d.idxOf v

theorem posS_lt {d : List α} {v : α} (hv : v ∈ d) : posS d v < d.length := List.idxOf_lt_length_of_mem hv
theorem posS_get {d : List α} {v : α} (hv : v ∈ d) : d[posS d v]'(posS_lt hv) = v := by
  simp [posS]

/-- Those ahead of a place are less, those behind are not. -/
theorem posS_less (h : LinO lt S) {d : List α} (hl : ∀ x, x ∈ d → S x) (hr : Rising lt d) {v : α} (hv : v ∈ d) {i : Nat} (hi : i < d.length) : lt d[i] v = true ↔ i < posS d v := by
  have hp := posS_lt hv
  have hg := posS_get hv
  rcases Nat.lt_trichotomy i (posS d v) with h1 | h1 | h1
  · have := (List.pairwise_iff_getElem.1 hr) i _ hi hp h1
    rw [hg] at this
    simp [this, h1]
  · subst h1
    rw [hg, h.irrefl v (hl v hv)]
    simp
  · have := (List.pairwise_iff_getElem.1 hr) _ i hp hi h1
    rw [hg] at this
    have h2 := h.asymm (hl v hv) (hl _ (List.getElem_mem hi)) this
    rw [h2]
    simp; omega

end Go.Rb

namespace Go.Rb
open Go.Sort Go.Proofs

abbrev Vl : Type := Int × Int × List Int × Unit

/-- Does it fit into memory? -/
def okV (v : Vl) : Prop := (-9223372036854775808 ≤ v.1 ∧ v.1 ≤ 9223372036854775807) ∧ (-9223372036854775808 ≤ v.2.1 ∧ v.2.1 ≤ 9223372036854775807) ∧ v.2.2.1.length ≤ 140737488355328 ∧ ∀ c, c ∈ v.2.2.1 → 0 ≤ c ∧ c ≤ 255

/-- May a value be? -/
def mayV (v : Vl) : Bool :=
  (decide (v.1 = 0) && decide (v.2.1 = 0) && decide (v.2.2.1 = [])) || (decide (v.1 = 1) && decide (-32768 ≤ v.2.1) && decide (v.2.1 ≤ 32767) && decide (v.2.2.1 = [])) ||
  (decide (v.1 = 2) && decide (v.2.2.1 = [])) || (decide (v.1 = 3) && (decide (v.2.1 = 0) || decide (v.2.1 = 1)) && decide (v.2.2.1 = [])) || (decide (v.1 = 4) && decide (v.2.1 = 0) && decide (v.2.2.1.length ≤ 20))

def rightV (t : Int) (v : Vl) : Bool := decide (v.1 = t) && mayV v
def rightL (t : Int) (l : List Vl) : Bool := decide (1 ≤ t) && decide (t ≤ 4) && l.all (rightV t)

def oneV (v : Vl) : List Int := if v.1 = 3 then [v.2.1] else if v.1 = 4 then (v.2.2.1.length : Int) :: v.2.2.1 else putN (zig v.2.1)

theorem rightV_spec {t : Int} {v : Vl} (h : rightV t v = true) : v.1 = t ∧ ((t = 0 ∧ v.2.1 = 0 ∧ v.2.2.1 = []) ∨ (t = 1 ∧ -32768 ≤ v.2.1 ∧ v.2.1 ≤ 32767 ∧ v.2.2.1 = []) ∨ (t = 2 ∧ v.2.2.1 = []) ∨ (t = 3 ∧ (v.2.1 = 0 ∨ v.2.1 = 1) ∧ v.2.2.1 = []) ∨ (t = 4 ∧ v.2.1 = 0 ∧ v.2.2.1.length ≤ 20)) := by
  unfold rightV mayV at h
  simp only [Bool.and_eq_true, Bool.or_eq_true, decide_eq_true_eq] at h
  obtain ⟨rfl, h⟩ := h
  refine ⟨rfl, ?_⟩
  rcases h with (((h | h) | h) | h) | h
  · exact .inl ⟨h.1.1, h.1.2, h.2⟩
  · exact .inr (.inl ⟨h.1.1.1, h.1.1.2, h.1.2, h.2⟩)
  · exact .inr (.inr (.inl h))
  · exact .inr (.inr (.inr (.inl ⟨h.1.1, h.1.2, h.2⟩)))
  · exact .inr (.inr (.inr (.inr ⟨h.1.1, h.1.2, h.2⟩)))

theorem oneV_len {t : Int} {v : Vl} (h : rightV t v = true) (hv : okV v) : 1 ≤ (oneV v).length ∧ (oneV v).length ≤ 21 := by
  obtain ⟨h1, h2⟩ := rightV_spec h
  unfold oneV
  split
  · simp
  · split
    · rename_i h4
      have : v.2.2.1.length ≤ 20 := by omega
      simp; omega
    · have a := putN_len (zig v.2.1)
      have b := putN_le10 (zig_lt hv.2.1.1 hv.2.1.2)
      omega

theorem oneV_in {t : Int} {v : Vl} (h : rightV t v = true) (hv : okV v) : ∀ b, b ∈ oneV v → 0 ≤ b ∧ b ≤ 255 := by
  obtain ⟨h1, h2⟩ := rightV_spec h
  intro b hb
  unfold oneV at hb
  split at hb
  · simp at hb; subst hb
    rcases h2 with h2 | h2 | h2 | h2 | h2 <;> omega
  · split at hb
    · rcases List.mem_cons.1 hb with rfl | hb
      · omega
      · exact hv.2.2.2 b hb
    · exact putN_in _ b hb

/-- No value's bytes begin with another's. -/
theorem oneV_prefix {t : Int} {v v' : Vl} (h : rightV t v = true) (h' : rightV t v' = true) {s s' : List Int} (e : oneV v ++ s = oneV v' ++ s') : v = v' ∧ s = s' := by
  obtain ⟨h1, h2⟩ := rightV_spec h
  obtain ⟨h3, h4⟩ := rightV_spec h'
  obtain ⟨a, b, c, u⟩ := v
  obtain ⟨a', b', c', u'⟩ := v'
  dsimp only at *
  subst h1
  unfold oneV at e
  dsimp only at e
  rw [h3] at e
  have key : (b = b' ∧ c = c') ∧ s = s' → (a, b, c, u) = (a', b', c', u') ∧ s = s' := by
    rintro ⟨⟨rfl, rfl⟩, rfl⟩
    exact ⟨by rw [h3], rfl⟩
  apply key
  split at e
  · simp at e
    have : c = c' := by
      rcases h2 with h2 | h2 | h2 | h2 | h2 <;> rcases h4 with h4 | h4 | h4 | h4 | h4 <;> first | omega | (rw [h2.2.2, h4.2.2])
    exact ⟨⟨e.1, this⟩, e.2⟩
  · split at e
    · simp only [List.cons_append, List.cons.injEq] at e
      have hl : c.length = c'.length := by omega
      have := List.append_inj e.2 hl
      have hb : b = b' := by omega
      exact ⟨⟨hb, this.1⟩, this.2⟩
    · obtain ⟨e1, e2⟩ := putN_prefix _ _ _ _ e
      have : b = b' := by rw [← zag_zig b, e1, zag_zig]
      have hc : c = c' := by
        rcases h2 with h2 | h2 | h2 | h2 | h2 <;> rcases h4 with h4 | h4 | h4 | h4 | h4 <;> first | omega | (rw [h2.2.2.2, h4.2.2.2]) | (rw [h2.2.2, h4.2.2]) | (rw [h2.2, h4.2])
      exact ⟨⟨this, hc⟩, e2⟩

/-! ### Their order -/

def ltV (t : Int) (x y : Vl) : Bool := if t = 4 then strLess x.2.2.1 y.2.2.1 else decide (x.2.1 < y.2.1)

theorem right_eq {t : Int} {v v' : Vl} (h : rightV t v = true) (h' : rightV t v' = true) (e : if t = 4 then v.2.2.1 = v'.2.2.1 else v.2.1 = v'.2.1) : v = v' := by
  obtain ⟨h1, h2⟩ := rightV_spec h
  obtain ⟨h3, h4⟩ := rightV_spec h'
  obtain ⟨a, b, c, u⟩ := v
  obtain ⟨a', b', c', u'⟩ := v'
  dsimp only at *
  subst h1 h3
  by_cases h5 : a' = 4
  · rw [if_pos h5] at e
    have hb : b = b' := by omega
    rw [e, hb]
  · rw [if_neg h5] at e
    have hc : c = c' := by
      rcases h2 with h2 | h2 | h2 | h2 | h2 <;> rcases h4 with h4 | h4 | h4 | h4 | h4 <;> first | omega | (rw [h2.2.2.2, h4.2.2.2]) | (rw [h2.2.2, h4.2.2]) | (rw [h2.2, h4.2])
    rw [e, hc]

theorem ltV_lin (t : Int) : LinO (ltV t) (fun v => rightV t v = true) where
  irrefl x _ := by
    unfold ltV
    split
    · rw [strLess_cmp, cmpI_refl]; simp
    · simp
  trans x y z _ _ _ h1 h2 := by
    unfold ltV at *
    split at h1
    · rename_i h4
      rw [if_pos h4] at h2 ⊢
      rw [strLess_cmp] at *
      simp only [decide_eq_true_eq] at *
      rcases Int.lt_or_le (cmpI x.2.2.1 z.2.2.1) 0 with h | h
      · exact h
      · have a := cmpI_swap x.2.2.1 z.2.2.1
        have b := cmpI_trans y.2.2.1 z.2.2.1 x.2.2.1 (by omega) (by omega)
        have c := cmpI_swap x.2.2.1 y.2.2.1
        omega
    · rename_i h4
      rw [if_neg h4] at h2 ⊢
      simp only [decide_eq_true_eq] at *
      omega
  total x y hx hy := by
    unfold ltV
    by_cases h4 : t = 4
    · simp only [if_pos h4]
      rw [strLess_cmp, strLess_cmp, cmpI_swap x.2.2.1 y.2.2.1]
      simp only [decide_eq_true_eq]
      rcases Int.lt_trichotomy (cmpI x.2.2.1 y.2.2.1) 0 with h | h | h
      · exact .inl h
      · exact .inr (.inl (right_eq hx hy (by rw [if_pos h4]; exact cmpI_eq0 _ _ h)))
      · exact .inr (.inr (by omega))
    · simp only [if_neg h4, decide_eq_true_eq]
      rcases Int.lt_trichotomy x.2.1 y.2.1 with h | h | h
      · exact .inl h
      · exact .inr (.inl (right_eq hx hy (by rw [if_neg h4]; exact h)))
      · exact .inr (.inr h)

/-- As a number: below 0, 0, above. -/
def cmpR (t : Int) (x y : Vl) : Int := if t = 4 then cmpI x.2.2.1 y.2.2.1 else cmpZ x.2.1 y.2.1

theorem cmpR_lt {t : Int} {x y : Vl} : cmpR t x y < 0 ↔ ltV t x y = true := by
  unfold cmpR ltV
  split
  · rw [strLess_cmp]; simp
  · rw [cmpZ_lt]; simp

theorem cmpR_eq {t : Int} {x y : Vl} (hx : rightV t x = true) (hy : rightV t y = true) : cmpR t x y = 0 ↔ x = y := by
  unfold cmpR
  constructor
  · intro h
    refine right_eq hx hy ?_
    split
    · rename_i h4; rw [if_pos h4] at h; exact cmpI_eq0 _ _ h
    · rename_i h4; rw [if_neg h4] at h; exact cmpZ_eq.1 h
  · rintro rfl
    split
    · exact cmpI_refl _
    · exact cmpZ_eq.2 rfl

theorem textOf_eq {l : List Int} (h : ∀ c, c ∈ l → 0 ≤ c ∧ c ≤ 255) : textOf l = l := by
  unfold textOf bytesL toBA
  simp only [List.map_map]
  conv => rhs; rw [← List.map_id l]
  apply List.map_congr_left
  intro c hc
  have := h c hc
  simp only [Function.comp_apply, id, Nat.toUInt8, UInt8.toNat_ofNat']
  omega

theorem cfV_right {t : Int} {x y : Vl} (hx : rightV t x = true) (hy : rightV t y = true) (h1 : okV x) (h2 : okV y) (ht : t ≠ 0) : cfV x y = cmpR t x y := by
  have a := (rightV_spec hx).1
  have b := (rightV_spec hy).1
  rw [cfV_eq, textOf_eq h1.2.2.2, textOf_eq h2.2.2.2, a, b, show cmpZ (rankI t) (rankI t) = 0 from cmpZ_eq.2 rfl]
  rw [if_neg (by simp [ht])]
  rfl

/-! ### Sorted, and compacted -/

theorem eqAt_dec (l : List Vl) {i j : Nat} (hi : i < l.length) (hj : j < l.length) : eqAt tV l i j = decide (l[i] = l[j]) := by
  unfold eqAt
  rw [List.getElem?_eq_getElem hi, List.getElem?_eq_getElem hj]
  obtain ⟨a, b, c, u⟩ := l[i]
  obtain ⟨a', b', c', u'⟩ := l[j]
  show (decide (a = a') && (decide (b = b') && decide (c = c'))) = _
  by_cases h1 : a = a' <;> by_cases h2 : b = b' <;> by_cases h3 : c = c' <;> simp [h1, h2, h3]

variable {lt : Vl → Vl → Bool} {S : Vl → Prop}

theorem comp_aux (h : LinO lt S) {l : List Vl} (hl : ∀ x, x ∈ l → S x) (hs : l.Pairwise fun x y => lt y x = false) : ∀ m, m ≤ l.length →
    (∀ x, x ∈ (keptTo (eqAt tV l) m).filterMap (fun i => l[i]?) ↔ ∃ j, ∃ hj : j < l.length, j < m ∧ l[j] = x) ∧ Rising lt ((keptTo (eqAt tV l) m).filterMap fun i => l[i]?)
  | 0, _ => by simp [keptTo, Rising]
  | m + 1, hm => by
    obtain ⟨ih1, ih2⟩ := comp_aux h hl hs m (by omega)
    have hml : m < l.length := by omega
    have hSm := hl _ (List.getElem_mem hml)
    have hle : ∀ j (hj : j < l.length), j < m → lt l[m] l[j] = false := fun j hj hjm => List.pairwise_iff_getElem.1 hs j m hj hml hjm
    rw [keptTo_succ, List.filterMap_append]
    by_cases hk : keepB (eqAt tV l) m = true
    · rw [if_pos hk]
      have hnew : ∀ j (hj : j < l.length), j < m → lt l[j] l[m] = true := by
        intro j hj hjm
        rcases h.total l[j] l[m] (hl _ (List.getElem_mem hj)) hSm with h1 | h1 | h1
        · exact h1
        · exfalso
          obtain ⟨p, rfl⟩ : ∃ p, m = p + 1 := ⟨m - 1, by omega⟩
          have hpl : p < l.length := by omega
          simp only [keepB, Nat.add_sub_cancel, eqAt_dec l hml hpl, Bool.or_eq_true, decide_eq_true_eq, Bool.not_eq_true', decide_eq_false_iff_not] at hk
          have hne : l[p + 1] ≠ l[p] := by
            rcases hk with hk | hk
            · omega
            · exact hk
          have a := hle p hpl (by omega)
          rcases Nat.lt_or_ge j p with h3 | h3
          · have b := List.pairwise_iff_getElem.1 hs j p hj hpl h3
            rw [h1] at b
            rcases h.total l[p] l[p + 1] (hl _ (List.getElem_mem hpl)) hSm with h4 | h4 | h4
            · rw [h4] at b; cases b
            · exact hne h4.symm
            · rw [h4] at a; cases a
          · have : j = p := by omega
            subst this
            exact hne h1.symm
        · rw [hle j hj hjm] at h1; cases h1
      refine ⟨fun x => ?_, ?_⟩
      · rw [List.mem_append, ih1]
        simp only [List.filterMap_cons, List.getElem?_eq_getElem hml, List.filterMap_nil, List.mem_singleton]
        constructor
        · rintro (⟨j, hj, h1, h2⟩ | rfl)
          · exact ⟨j, hj, by omega, h2⟩
          · exact ⟨m, hml, by omega, rfl⟩
        · rintro ⟨j, hj, h1, h2⟩
          rcases Nat.lt_or_ge j m with h3 | h3
          · exact .inl ⟨j, hj, h3, h2⟩
          · have : j = m := by omega
            subst this
            exact .inr h2.symm
      · refine List.pairwise_append.2 ⟨ih2, by simp only [List.filterMap_cons, List.getElem?_eq_getElem hml, List.filterMap_nil]; exact List.pairwise_singleton _ _, fun x hx y hy => ?_⟩
        simp only [List.filterMap_cons, List.getElem?_eq_getElem hml, List.filterMap_nil, List.mem_singleton] at hy
        subst hy
        obtain ⟨j, hj, h1, rfl⟩ := (ih1 x).1 hx
        exact hnew j hj h1
    · rw [if_neg hk, List.filterMap_nil, List.append_nil]
      refine ⟨fun x => ?_, ih2⟩
      rw [ih1]
      constructor
      · rintro ⟨j, hj, h1, h2⟩
        exact ⟨j, hj, by omega, h2⟩
      · rintro ⟨j, hj, h1, h2⟩
        rcases Nat.lt_or_ge j m with h3 | h3
        · exact ⟨j, hj, h3, h2⟩
        · have : j = m := by omega
          subst this
          obtain ⟨p, rfl⟩ : ∃ p, j = p + 1 := ⟨j - 1, by
            rcases Nat.eq_zero_or_pos j with h0 | h0
            · subst h0; exact absurd (show keepB (eqAt tV l) 0 = true from rfl) hk
            · omega⟩
          have hpl : p < l.length := by omega
          simp only [keepB, Nat.add_sub_cancel, eqAt_dec l hml hpl] at hk
          have he : l[p + 1] = l[p] := by
            by_cases hq : l[p + 1] = l[p]
            · exact hq
            · exact absurd (by simp [hq]) hk
          exact ⟨p, hpl, by omega, by rw [← he]; exact h2⟩

theorem comp_eq (h : LinO lt S) {l : List Vl} (hl : ∀ x, x ∈ l → S x) (hs : l.Pairwise fun x y => lt y x = false) : (∀ x, x ∈ compL tV l ↔ x ∈ l) ∧ Rising lt (compL tV l) := by
  obtain ⟨h1, h2⟩ := comp_aux h hl hs l.length (Nat.le_refl _)
  refine ⟨fun x => ?_, h2⟩
  rw [show x ∈ compL tV l ↔ _ from h1 x, List.mem_iff_getElem]
  constructor
  · rintro ⟨j, hj, _, h4⟩; exact ⟨j, hj, h4⟩
  · rintro ⟨j, hj, h4⟩; exact ⟨j, hj, hj, h4⟩

/-- Sorted and compacted, values are the unlike ones, rising. -/
theorem comp_sort {t : Int} {l : List Vl} (ht : t ≠ 0) (hl : ∀ x, x ∈ l → rightV t x = true ∧ okV x) :
    compL tV (pdq (ltOf cfV) l.toArray 0 l.length (Lib.bitLen l.length) true true).toList = distS (ltV t) l := by
  have hp := pdq_perm swoV l
  have hs := pdq_sorted swoV l
  generalize (pdq (ltOf cfV) l.toArray 0 l.length (Lib.bitLen l.length) true true).toList = m at hp hs
  have hm : ∀ x, x ∈ m → rightV t x = true ∧ okV x := fun x hx => hl x (hp.mem_iff.1 hx)
  have hs' : m.Pairwise fun x y => ltV t y x = false := by
    refine List.Pairwise.imp_of_mem ?_ hs
    intro x y hx hy hxy
    have := cfV_right (hm y hy).1 (hm x hx).1 (hm y hy).2 (hm x hx).2 ht
    unfold ltOf at hxy
    rw [this] at hxy
    cases h : ltV t y x with
    | false => rfl
    | true => rw [← cmpR_lt] at h; simp at hxy; omega
  obtain ⟨h1, h2⟩ := comp_eq (ltV_lin t) (fun x hx => (hm x hx).1) hs'
  refine rising_uniq (ltV_lin t) (fun x hx => (hm x ((h1 x).1 hx)).1) h2 (dist_rising (ltV_lin t) fun x hx => (hl x hx).1) fun x => ?_
  rw [h1, dist_mem (ltV_lin t) fun x hx => (hl x hx).1]
  exact hp.mem_iff

end Go.Rb

namespace Go.Rb

/-- The value of a kind that bytes begin with. -/
def firstV (t : Int) (b : List Int) : Option (Vl × Nat) :=
  if t ≠ 3 ∧ t ≠ 4 then match takeN b with
    | some (u, k) => some ((t, zag u, [], ()), k)
    | none => none
  else match b with
    | [] => none
    | c :: _ => if t = 3 then some ((t, c, [], ()), 1) else if 1 + c.toNat ≤ b.length then some ((t, 0, (b.take (1 + c.toNat)).drop 1, ()), 1 + c.toNat) else none

theorem firstV_one {t : Int} {v : Vl} (h : rightV t v = true) (hv : okV v) (s : List Int) : firstV t (oneV v ++ s) = some (v, (oneV v).length) := by
  obtain ⟨h1, h2⟩ := rightV_spec h
  obtain ⟨a, b, c, u⟩ := v
  dsimp only at h1 h2
  subst h1
  unfold firstV oneV
  dsimp only
  by_cases h3 : a = 3
  · have hc : c = [] := by
      rcases h2 with h2 | h2 | h2 | h2 | h2 <;> first | omega | exact h2.2.2
    simp [h3, hc]
  · by_cases h4 : a = 4
    · have hb : b = 0 := by omega
      have hl : (1 + ((c.length : Int)).toNat) = c.length + 1 := by omega
      have e : List.take (1 + c.length) (((c.length : Nat) : Int) :: (c ++ s)) = ((c.length : Nat) : Int) :: c := by
        rw [Nat.add_comm, List.take_succ_cons, List.take_left]
      simp [h4, hl, hb, e]
      omega
    · have hc : c = [] := by
        rcases h2 with h2 | h2 | h2 | h2 | h2 <;> first | omega | exact h2.2.2.2 | exact h2.2.2 | exact h2.2
      have hz := zig_lt hv.2.1.1 hv.2.1.2
      dsimp only at hz
      rw [if_pos ⟨h3, h4⟩, if_neg h3, if_neg h4, takeN_put _ _ hz, hc]
      dsimp only
      rw [zag_zig]

theorem firstV_ok {t : Int} {b : List Int} {v : Vl} {k : Nat} (ht : -9223372036854775808 ≤ t ∧ t ≤ 9223372036854775807) (hb : ∀ x, x ∈ b → 0 ≤ x ∧ x ≤ 255) (h : firstV t b = some (v, k)) : okV v ∧ v.1 = t ∧ k ≤ b.length ∧ 1 ≤ k := by
  unfold firstV at h
  split at h
  · split at h
    · rename_i u k' he
      cases h
      have h1 := takeN_some hb he
      have h2 := zag_in h1.1
      have h3 := takeN_bytes hb he
      have h4 := putN_len u
      exact ⟨⟨ht, h2, by simp, by simp⟩, rfl, h1.2.1, by omega⟩
    · cases h
  · split at h
    · cases h
    · rename_i c l
      have hc := hb c (by simp)
      split at h
      · cases h
        exact ⟨⟨ht, ⟨by simp only; omega, by simp only; omega⟩, by simp, by simp⟩, rfl, by simp, by omega⟩
      · split at h
        · rename_i hle
          cases h
          refine ⟨⟨ht, ⟨by simp, by simp⟩, ?_, fun x hx => ?_⟩, rfl, hle, by omega⟩
          · simp only [List.length_drop, List.length_take]; omega
          · exact hb x (List.mem_of_mem_take (List.mem_of_mem_drop hx))
        · cases h

variable {t : Int}

abbrev distV (t : Int) (l : List Vl) : List Vl := distS (ltV t) l

theorem rightL_all {l : List Vl} (h : rightL t l = true) : 1 ≤ t ∧ t ≤ 4 ∧ ∀ v, v ∈ l → rightV t v = true := by
  unfold rightL at h
  simp only [Bool.and_eq_true, decide_eq_true_eq, List.all_eq_true] at h
  exact ⟨h.1.1, h.1.2, h.2⟩

theorem insS_len (lt : Vl → Vl → Bool) (v : Vl) : ∀ l, (insS lt v l).length ≤ l.length + 1
  | [] => by simp [insS]
  | x :: l => by
    have := insS_len lt v l
    unfold insS
    split
    · simp; omega
    · split <;> simp

theorem dist_len (lt : Vl → Vl → Bool) (l : List Vl) : (distS lt l).length ≤ l.length := by
  have key : ∀ (l d : List Vl), (l.foldl (fun d v => insS lt v d) d).length ≤ d.length + l.length := by
    intro l
    induction l with
    | nil => intro d; simp
    | cons v l ih =>
      intro d
      have h1 := ih (insS lt v d)
      have h2 := insS_len lt v d
      simp only [List.foldl_cons, List.length_cons]
      omega
  have := key l []
  unfold distS
  simpa using this

def placesV (t : Int) (l : List Vl) : List Int := l.map fun v => ((posS (distV t l) v : Nat) : Int)

theorem places_len (l : List Vl) : (placesV t l).length = l.length := by simp [placesV]

theorem places_lt {l : List Vl} (h : rightL t l = true) : ∀ x, x ∈ placesV t l → 0 ≤ x ∧ x.toNat < (distV t l).length := by
  intro x hx
  obtain ⟨_, _, hr⟩ := rightL_all h
  simp only [placesV, List.mem_map] at hx
  obtain ⟨v, hv, rfl⟩ := hx
  have := posS_lt ((dist_mem (ltV_lin t) hr v).2 hv)
  simp only [Int.toNat_natCast]
  exact ⟨by omega, this⟩

theorem places_small {l : List Vl} (h : rightL t l = true) : ∀ x, x ∈ placesV t l → 0 ≤ x ∧ x.toNat < 2 ^ blen ((distV t l).length - 1) := by
  intro x hx
  have h1 := places_lt h x hx
  have h2 := (blen_le_iff (blen ((distV t l).length - 1)) ((distV t l).length - 1)).1 (Nat.le_refl _)
  exact ⟨h1.1, by omega⟩

theorem places_back {l : List Vl} (h : rightL t l = true) : (placesV t l).map (fun p => (distV t l).getD p.toNat ((0:Int), (0:Int), [], ())) = l := by
  obtain ⟨_, _, hr⟩ := rightL_all h
  unfold placesV
  rw [List.map_map]
  conv => rhs; rw [← List.map_id l]
  apply List.map_congr_left
  intro v hv
  have hm := (dist_mem (ltV_lin t) hr v).2 hv
  simp only [Function.comp_apply, Int.toNat_natCast, id]
  rw [getD_lt' (posS_lt hm), posS_get hm]

/-- Values as bytes. -/
def dictB (t : Int) (l : List Vl) : List Int := putN (distV t l).length ++ ((distV t l).flatMap oneV ++ bitsB (placesV t l) (blen ((distV t l).length - 1)))

theorem flatMap_one_in {t : Int} : ∀ {d : List Vl}, (∀ v, v ∈ d → rightV t v = true ∧ okV v) → ∀ b, b ∈ d.flatMap oneV → 0 ≤ b ∧ b ≤ 255 := by
  intro d hd b hb
  obtain ⟨v, hv, hb⟩ := List.mem_flatMap.1 hb
  exact oneV_in (hd v hv).1 (hd v hv).2 b hb

theorem flatMap_one_len {t : Int} : ∀ {d : List Vl}, (∀ v, v ∈ d → rightV t v = true ∧ okV v) → (d.flatMap oneV).length ≤ 21 * d.length
  | [], _ => by simp
  | v :: d, h => by
    have h1 := flatMap_one_len (d := d) fun x hx => h x (List.mem_cons_of_mem _ hx)
    have h2 := oneV_len (h v (by simp)).1 (h v (by simp)).2
    simp only [List.flatMap_cons, List.length_append, List.length_cons]
    omega

theorem dist_right {l : List Vl} (h : rightL t l = true) (hv : ∀ v, v ∈ l → okV v) : ∀ v, v ∈ distV t l → rightV t v = true ∧ okV v := by
  obtain ⟨_, _, hr⟩ := rightL_all h
  intro v hm
  have := (dist_mem (ltV_lin t) hr v).1 hm
  exact ⟨hr v this, hv v this⟩

theorem dictB_in {l : List Vl} (h : rightL t l = true) (hv : ∀ v, v ∈ l → okV v) : ∀ b, b ∈ dictB t l → 0 ≤ b ∧ b ≤ 255 := by
  intro b hb
  unfold dictB at hb
  rcases List.mem_append.1 hb with hb | hb
  · exact putN_in _ b hb
  · rcases List.mem_append.1 hb with hb | hb
    · exact flatMap_one_in (dist_right h hv) b hb
    · exact bytesTo_in (bitL_le _ _) b hb

theorem blen_small {v w : Nat} (h : v < 2 ^ w) : blen v ≤ w := (blen_le_iff w v).2 h

theorem dictB_len {l : List Vl} (h : rightL t l = true) (hv : ∀ v, v ∈ l → okV v) (hl : l.length ≤ 1000) : (dictB t l).length ≤ 24000 := by
  have h1 := dist_len (ltV t) l
  have h2 := flatMap_one_len (dist_right h hv)
  have h3 := putN_le10 (v := (distV t l).length) (by simp only [distV]; omega)
  have h4 : blen ((distV t l).length - 1) ≤ 10 := blen_small (by simp only [distV]; omega)
  have h5 : l.length * blen ((distV t l).length - 1) ≤ 1000 * 10 := Nat.mul_le_mul hl h4
  unfold dictB
  simp only [List.length_append, bitsB_len, places_len]
  simp only [distV] at *
  omega

theorem flatMap_prefix {t : Int} : ∀ {d d' : List Vl} {s s' : List Int}, (∀ v, v ∈ d → rightV t v = true) → (∀ v, v ∈ d' → rightV t v = true) → d.length = d'.length → d.flatMap oneV ++ s = d'.flatMap oneV ++ s' → d = d' ∧ s = s'
  | [], [], s, s', _, _, _, e => ⟨rfl, by simpa using e⟩
  | [], _ :: _, _, _, _, _, h, _ => by simp at h
  | _ :: _, [], _, _, _, _, h, _ => by simp at h
  | v :: d, v' :: d', s, s', h, h', hl, e => by
    simp only [List.flatMap_cons, List.append_assoc] at e
    obtain ⟨rfl, e2⟩ := oneV_prefix (h v (by simp)) (h' v' (by simp)) e
    obtain ⟨rfl, e3⟩ := flatMap_prefix (fun x hx => h x (List.mem_cons_of_mem _ hx)) (fun x hx => h' x (List.mem_cons_of_mem _ hx)) (by simpa using hl) e2
    exact ⟨rfl, e3⟩

/-- No list's bytes begin with those of another as long. -/
theorem dictB_prefix {l l' : List Vl} (h : rightL t l = true) (h' : rightL t l' = true) (hl : l.length = l'.length) {s : List Int} (e : dictB t l ++ s = dictB t l') : l = l' ∧ s = [] := by
  obtain ⟨_, _, hr⟩ := rightL_all h
  obtain ⟨_, _, hr'⟩ := rightL_all h'
  unfold dictB at e
  simp only [List.append_assoc] at e
  obtain ⟨e1, e2⟩ := putN_prefix _ _ _ _ e
  obtain ⟨e3, e4⟩ := flatMap_prefix (fun v hv => hr v ((dist_mem (ltV_lin t) hr v).1 hv)) (fun v hv => hr' v ((dist_mem (ltV_lin t) hr' v).1 hv)) e1 e2
  have hlen := congrArg List.length e4
  rw [List.length_append, bitsB_len, bitsB_len, places_len, places_len, hl, e1] at hlen
  have hs : s = [] := by
    have : s.length = 0 := by omega
    exact List.length_eq_zero_iff.1 this
  subst hs
  rw [List.append_nil] at e4
  refine ⟨?_, rfl⟩
  have hp : placesV t l = placesV t l' := by
    refine bitsB_inj (by simp [places_len, hl]) (places_small h) (fun x hx => ?_) (by rw [e4, e1])
    have := places_small h' x hx
    rw [e1]; exact this
  have e5 : distV t l = distV t l' := e3
  rw [← places_back h, ← places_back h', hp, e5]

end Go.Rb

namespace Go.Rb
variable {t : Int}

/-! ### By runs -/

def runN (v : Vl) (l : List Vl) : Nat := (l.takeWhile fun x => decide (x = v)).length

theorem runN_le (v : Vl) (l : List Vl) : runN v l ≤ l.length := by
  unfold runN
  exact (List.takeWhile_prefix _).length_le

def rleF : Nat → List Vl → List Int
  | 0, _ => []
  | _ + 1, [] => []
  | n + 1, v :: l => putN (1 + runN v l) ++ (oneV v ++ rleF n (l.drop (runN v l)))

def rleB (l : List Vl) : List Int := rleF l.length l

theorem rleF_enough : ∀ (n m : Nat) (l : List Vl), l.length ≤ n → l.length ≤ m → rleF n l = rleF m l
  | 0, m, [], _, _ => by cases m <;> rfl
  | n + 1, 0, [], _, _ => rfl
  | n + 1, m + 1, [], _, _ => rfl
  | n + 1, m + 1, v :: l, h1, h2 => by
    simp only [List.length_cons] at h1 h2
    unfold rleF
    rw [rleF_enough n m (l.drop (runN v l)) (by simp; omega) (by simp; omega)]

theorem rleB_nil : rleB [] = [] := rfl
theorem rleB_cons (v : Vl) (l : List Vl) : rleB (v :: l) = putN (1 + runN v l) ++ (oneV v ++ rleB (l.drop (runN v l))) := by
  show rleF (l.length + 1) (v :: l) = _
  unfold rleF rleB
  rw [rleF_enough l.length (l.drop (runN v l)).length _ (by simp) (Nat.le_refl _)]

theorem run_split (v : Vl) : ∀ l : List Vl, l = List.replicate (runN v l) v ++ l.drop (runN v l)
  | [] => rfl
  | x :: l => by
    by_cases h : x = v
    · have e : runN v (x :: l) = runN v l + 1 := by simp [runN, h]
      rw [e, List.replicate_succ, List.drop_succ_cons, List.cons_append, ← run_split v l, h]
    · have e : runN v (x :: l) = 0 := by simp [runN, h]
      rw [e]; simp

theorem runN_all (v : Vl) {l : List Vl} {i : Nat} (h : i < runN v l) : l.getD i ((0:Int), (0:Int), [], ()) = v := by
  have hl := runN_le v l
  have e := run_split v l
  rw [getD_lt' (by omega)]
  have h2 : (List.replicate (runN v l) v ++ l.drop (runN v l))[i]? = some v := by
    rw [List.getElem?_append_left (by simpa using h), List.getElem?_replicate, if_pos h]
  rw [← e, List.getElem?_eq_getElem (by omega)] at h2
  exact Option.some.inj h2

theorem run_end (v : Vl) : ∀ {l : List Vl} (h : runN v l < l.length), l[runN v l] ≠ v
  | [], h => by simp at h
  | x :: l, h => by
    by_cases hx : x = v
    · have e : runN v (x :: l) = runN v l + 1 := by simp [runN, hx]
      simp only [List.length_cons] at h
      have := run_end v (l := l) (by omega)
      simp only [e, List.getElem_cons_succ]
      exact this
    · have e : runN v (x :: l) = 0 := by simp [runN, hx]
      simp only [e, List.getElem_cons_zero]
      exact hx

theorem rleB_in : ∀ (n : Nat) {l : List Vl}, l.length ≤ n → (∀ v, v ∈ l → rightV t v = true ∧ okV v) → ∀ b, b ∈ rleB l → 0 ≤ b ∧ b ≤ 255
  | _, [], _, _, b, hb => by simp [rleB_nil] at hb
  | 0, _ :: _, h, _, _, _ => by simp at h
  | n + 1, v :: l, h, hl, b, hb => by
    simp only [List.length_cons] at h
    rw [rleB_cons] at hb
    rcases List.mem_append.1 hb with hb | hb
    · exact putN_in _ b hb
    · rcases List.mem_append.1 hb with hb | hb
      · exact oneV_in (hl v (by simp)).1 (hl v (by simp)).2 b hb
      · exact rleB_in n (by simp; omega) (fun x hx => hl x (List.mem_cons_of_mem _ (List.mem_of_mem_drop hx))) b hb

theorem rleB_len : ∀ (n : Nat) {l : List Vl}, l.length ≤ n → l.length < 1000000 → (∀ v, v ∈ l → rightV t v = true ∧ okV v) → (rleB l).length ≤ 31 * l.length
  | _, [], _, _, _ => by simp [rleB_nil]
  | 0, _ :: _, h, _, _ => by simp at h
  | n + 1, v :: l, h, hm, hl => by
    simp only [List.length_cons] at h hm
    have h1 := runN_le v l
    have h2 := oneV_len (hl v (by simp)).1 (hl v (by simp)).2
    have h3 := putN_le10 (v := 1 + runN v l) (by omega)
    have h4 := rleB_len n (l := l.drop (runN v l)) (by simp; omega) (by simp; omega) (fun x hx => hl x (List.mem_cons_of_mem _ (List.mem_of_mem_drop hx)))
    rw [rleB_cons]
    simp only [List.length_append, List.length_cons, List.length_drop] at h4 ⊢
    omega

theorem rleB_prefix : ∀ (n : Nat) {l l' : List Vl} {s s' : List Int}, l.length ≤ n → (∀ v, v ∈ l → rightV t v = true) → (∀ v, v ∈ l' → rightV t v = true) → l.length = l'.length → rleB l ++ s = rleB l' ++ s' → l = l' ∧ s = s'
  | _, [], [], s, s', _, _, _, _, e => by simpa [rleB_nil] using e
  | _, [], _ :: _, _, _, _, _, _, h, _ => by simp at h
  | _, _ :: _, [], _, _, _, _, _, h, _ => by simp at h
  | 0, _ :: _, _, _, _, h, _, _, _, _ => by simp at h
  | n + 1, v :: l, v' :: l', s, s', h, hl, hl', hlen, e => by
    simp only [List.length_cons] at h hlen
    rw [rleB_cons, rleB_cons] at e
    simp only [List.append_assoc] at e
    obtain ⟨e1, e2⟩ := putN_prefix _ _ _ _ e
    obtain ⟨rfl, e3⟩ := oneV_prefix (hl v (by simp)) (hl' v' (by simp)) e2
    have er : runN v l = runN v l' := by omega
    obtain ⟨e4, e5⟩ := rleB_prefix n (by simp; omega) (fun x hx => hl x (List.mem_cons_of_mem _ (List.mem_of_mem_drop hx))) (fun x hx => hl' x (List.mem_cons_of_mem _ (List.mem_of_mem_drop hx))) (by simp; omega) e3
    refine ⟨?_, e5⟩
    rw [run_split v l, run_split v l', e4, er]

/-! ### By steps -/

def stepZ (last x : Int) : Int := IntKind.i64.wrap (x - last)

theorem stepZ_range (last x : Int) : -9223372036854775808 ≤ stepZ last x ∧ stepZ last x ≤ 9223372036854775807 := i64_range _

theorem wrapI64_mod (x : Int) : IntKind.i64.wrap x = (x + 9223372036854775808) % 18446744073709551616 - 9223372036854775808 := by
  simp only [IntKind.wrap, IntKind.bits, IntKind.signed, if_true]
  simp
  split <;> omega

theorem stepZ_back {last x : Int} (hx : -9223372036854775808 ≤ x ∧ x ≤ 9223372036854775807) : IntKind.i64.wrap (last + stepZ last x) = x := by
  unfold stepZ
  rw [wrapI64_mod, wrapI64_mod]
  omega

def deltaB : Int → List Vl → List Int
  | _, [] => []
  | last, v :: l => putN (zig (stepZ last v.2.1)) ++ deltaB v.2.1 l

theorem deltaB_in : ∀ (l : List Vl) (last : Int) (b : Int), b ∈ deltaB last l → 0 ≤ b ∧ b ≤ 255
  | [], _, b, hb => by simp [deltaB] at hb
  | v :: l, last, b, hb => by
    unfold deltaB at hb
    rcases List.mem_append.1 hb with hb | hb
    · exact putN_in _ b hb
    · exact deltaB_in l _ b hb

theorem zig_step_lt (last x : Int) : zig (stepZ last x) < 18446744073709551616 := zig_lt (stepZ_range last x).1 (stepZ_range last x).2

theorem deltaB_len : ∀ (l : List Vl) (last : Int), (deltaB last l).length ≤ 10 * l.length
  | [], _ => by simp [deltaB]
  | v :: l, last => by
    have h1 := putN_le10 (zig_step_lt last v.2.1)
    have h2 := deltaB_len l v.2.1
    unfold deltaB
    simp only [List.length_append, List.length_cons]
    omega

/-- Numbers of a kind: what tells them apart. -/
theorem num_eq {v v' : Vl} (h : rightV t v = true) (h' : rightV t v' = true) (ht : t ≤ 3) (e : v.2.1 = v'.2.1) : v = v' := right_eq h h' (by rw [if_neg (by omega)]; exact e)

theorem zig_inj {x y : Int} (h : zig x = zig y) : x = y := by
  have := congrArg zag h
  rwa [zag_zig, zag_zig] at this

theorem deltaB_prefix : ∀ {l l' : List Vl} {last : Int} {s s' : List Int}, t ≤ 3 → (∀ v, v ∈ l → rightV t v = true ∧ okV v) → (∀ v, v ∈ l' → rightV t v = true ∧ okV v) → l.length = l'.length → deltaB last l ++ s = deltaB last l' ++ s' → l = l' ∧ s = s'
  | [], [], _, s, s', _, _, _, _, e => by simpa [deltaB] using e
  | [], _ :: _, _, _, _, _, _, _, h, _ => by simp at h
  | _ :: _, [], _, _, _, _, _, _, h, _ => by simp at h
  | v :: l, v' :: l', last, s, s', ht, hl, hl', hlen, e => by
    simp only [deltaB, List.append_assoc] at e
    obtain ⟨e1, e2⟩ := putN_prefix _ _ _ _ e
    have e3 : v.2.1 = v'.2.1 := by
      have h1 := stepZ_back (last := last) (hl v (by simp)).2.2.1
      have h2 := stepZ_back (last := last) (hl' v' (by simp)).2.2.1
      rw [← h1, ← h2, zig_inj e1]
    have e4 := num_eq (hl v (by simp)).1 (hl' v' (by simp)).1 ht e3
    subst e4
    obtain ⟨e5, e6⟩ := deltaB_prefix ht (fun x hx => hl x (List.mem_cons_of_mem _ hx)) (fun x hx => hl' x (List.mem_cons_of_mem _ hx)) (by simpa using hlen) e2
    exact ⟨by rw [e5], e6⟩

/-! ### By few bits -/

def leastV (l : List Vl) : Int := match l with
  | [] => 0
  | v :: l => (v :: l).foldl (fun m x => if m ≤ x.2.1 then m else x.2.1) v.2.1

def aboveV (l : List Vl) : List Int := l.map fun v => v.2.1 - leastV l

def packB (l : List Vl) : List Int := match l with
  | [] => []
  | v :: l => putN (zig (leastV (v :: l))) ++ (((widthL (aboveV (v :: l)) : Nat) : Int) :: bitsB (aboveV (v :: l)) (widthL (aboveV (v :: l))))

theorem least_aux : ∀ (l : List Vl) (m : Int), (l.foldl (fun m x => if m ≤ x.2.1 then m else x.2.1) m ≤ m) ∧ (∀ v, v ∈ l → l.foldl (fun m x => if m ≤ x.2.1 then m else x.2.1) m ≤ v.2.1) ∧
    (l.foldl (fun m x => if m ≤ x.2.1 then m else x.2.1) m = m ∨ ∃ v, v ∈ l ∧ l.foldl (fun m x => if m ≤ x.2.1 then m else x.2.1) m = v.2.1)
  | [], m => ⟨Int.le_refl _, by simp, .inl rfl⟩
  | x :: l, m => by
    simp only [List.foldl_cons]
    obtain ⟨h1, h2, h3⟩ := least_aux l (if m ≤ x.2.1 then m else x.2.1)
    have h4 : (if m ≤ x.2.1 then m else x.2.1) ≤ m ∧ (if m ≤ x.2.1 then m else x.2.1) ≤ x.2.1 := by split <;> omega
    refine ⟨by omega, ?_, ?_⟩
    · intro v hv
      rcases List.mem_cons.1 hv with rfl | hv
      · omega
      · exact h2 v hv
    · rcases h3 with h3 | ⟨v, hv, h3⟩
      · rw [h3]
        by_cases hm : m ≤ x.2.1
        · rw [if_pos hm]; exact .inl rfl
        · rw [if_neg hm]; exact .inr ⟨x, by simp, rfl⟩
      · exact .inr ⟨v, List.mem_cons_of_mem _ hv, h3⟩

theorem least_le {l : List Vl} {v : Vl} (hv : v ∈ l) : leastV l ≤ v.2.1 := by
  cases l with
  | nil => simp at hv
  | cons x l => exact (least_aux (x :: l) x.2.1).2.1 v hv

theorem least_in {l : List Vl} (hl : l ≠ []) : ∃ v, v ∈ l ∧ leastV l = v.2.1 := by
  cases l with
  | nil => exact absurd rfl hl
  | cons x l =>
    rcases (least_aux (x :: l) x.2.1).2.2 with h | h
    · exact ⟨x, by simp, h⟩
    · exact h

theorem least_range {l : List Vl} (hv : ∀ v, v ∈ l → okV v) : -9223372036854775808 ≤ leastV l ∧ leastV l ≤ 9223372036854775807 := by
  by_cases hl : l = []
  · subst hl; simp [leastV]
  · obtain ⟨v, h1, h2⟩ := least_in hl
    rw [h2]; exact (hv v h1).2.1

theorem above_len (l : List Vl) : (aboveV l).length = l.length := by simp [aboveV]

theorem above_range {l : List Vl} (hv : ∀ v, v ∈ l → okV v) : ∀ x, x ∈ aboveV l → 0 ≤ x ∧ x < 18446744073709551616 := by
  intro x hx
  simp only [aboveV, List.mem_map] at hx
  obtain ⟨v, h1, rfl⟩ := hx
  have h2 := least_le h1
  have h3 := least_range hv
  have h4 := (hv v h1).2.1
  omega

theorem above_small {l : List Vl} (hv : ∀ v, v ∈ l → okV v) : ∀ x, x ∈ aboveV l → 0 ≤ x ∧ x.toNat < 2 ^ widthL (aboveV l) :=
  fun x hx => ⟨(above_range hv x hx).1, (widthL_le (w := widthL (aboveV l))).1 (Nat.le_refl _) x hx⟩

theorem width_above {l : List Vl} (hv : ∀ v, v ∈ l → okV v) : widthL (aboveV l) ≤ 64 := by
  rw [widthL_le]
  intro x hx
  have := above_range hv x hx
  omega

theorem packB_cons {l : List Vl} (hl : l ≠ []) : packB l = putN (zig (leastV l)) ++ (((widthL (aboveV l) : Nat) : Int) :: bitsB (aboveV l) (widthL (aboveV l))) := by
  cases l with
  | nil => exact absurd rfl hl
  | cons v l => rfl

theorem packB_in {l : List Vl} (hv : ∀ v, v ∈ l → okV v) : ∀ b, b ∈ packB l → 0 ≤ b ∧ b ≤ 255 := by
  intro b hb
  by_cases hl : l = []
  · subst hl; simp [packB] at hb
  · rw [packB_cons hl] at hb
    rcases List.mem_append.1 hb with hb | hb
    · exact putN_in _ b hb
    · rcases List.mem_cons.1 hb with rfl | hb
      · have := width_above hv; omega
      · exact bytesTo_in (bitL_le _ _) b hb

theorem packB_len {l : List Vl} (hv : ∀ v, v ∈ l → okV v) : (packB l).length ≤ 19 + 8 * l.length := by
  by_cases hl : l = []
  · subst hl; simp [packB]
  · rw [packB_cons hl]
    have h1 := putN_le10 (zig_lt (least_range hv).1 (least_range hv).2)
    have h2 := width_above hv
    have h3 : l.length * widthL (aboveV l) ≤ l.length * 64 := Nat.mul_le_mul_left _ h2
    simp only [List.length_append, List.length_cons, bitsB_len, above_len]
    omega

theorem above_inj {l l' : List Vl} (h : ∀ v, v ∈ l → rightV t v = true) (h' : ∀ v, v ∈ l' → rightV t v = true) (ht : t ≤ 3) (e1 : leastV l = leastV l') (e2 : aboveV l = aboveV l') : l = l' := by
  have hlen : l.length = l'.length := by
    have := congrArg List.length e2
    rwa [above_len, above_len] at this
  refine List.ext_getElem hlen fun i h1 h2 => ?_
  refine num_eq (h _ (List.getElem_mem h1)) (h' _ (List.getElem_mem h2)) ht ?_
  have h3 : (aboveV l)[i]'(by rw [above_len]; exact h1) = (aboveV l')[i]'(by rw [above_len]; exact h2) := List.getElem_of_eq e2 _
  simp only [aboveV, List.getElem_map] at h3
  omega

theorem packB_prefix {l l' : List Vl} {s : List Int} (ht : t ≤ 3) (h : ∀ v, v ∈ l → rightV t v = true ∧ okV v) (h' : ∀ v, v ∈ l' → rightV t v = true ∧ okV v) (hlen : l.length = l'.length) (e : packB l ++ s = packB l') : l = l' ∧ s = [] := by
  by_cases hl : l = []
  · subst hl
    have : l' = [] := by cases l' with | nil => rfl | cons => simp at hlen
    subst this
    exact ⟨rfl, by simpa [packB] using e⟩
  have hl' : l' ≠ [] := by rintro rfl; cases l with | nil => exact hl rfl | cons => simp at hlen
  rw [packB_cons hl, packB_cons hl'] at e
  simp only [List.append_assoc, List.cons_append] at e
  obtain ⟨e1, e2⟩ := putN_prefix _ _ _ _ e
  simp only [List.cons.injEq] at e2
  obtain ⟨e3, e4⟩ := e2
  have e5 : widthL (aboveV l) = widthL (aboveV l') := by omega
  have e6 : s = [] := by
    have := congrArg List.length e4
    simp only [List.length_append, bitsB_len, above_len, e5, hlen] at this
    exact List.eq_nil_of_length_eq_zero (by omega)
  subst e6
  rw [List.append_nil, ← e5] at e4
  have e7 := bitsB_inj (by rw [above_len, above_len, hlen]) (above_small fun v hv => (h v hv).2) (by rw [e5]; exact above_small fun v hv => (h' v hv).2) e4
  exact ⟨above_inj (fun v hv => (h v hv).1) (fun v hv => (h' v hv).1) ht (zig_inj e1) e7, rfl⟩

/-! ### All of them -/

/-- May an encoding be of a type? -/
def encMay (e t : Int) : Bool := decide (e = 1) || decide (e = 2) || decide (e = 3) || (decide (e = 4) && decide (t ≤ 3)) || (decide (e = 5) && decide (t ≤ 2))

def encB (e t : Int) (l : List Vl) : List Int :=
  if e = 1 then l.flatMap oneV else if e = 2 then rleB l else if e = 3 then dictB t l else if e = 4 then packB l else deltaB 0 l

theorem rightL_both {l : List Vl} (h : rightL t l = true) (hv : ∀ v, v ∈ l → okV v) : ∀ v, v ∈ l → rightV t v = true ∧ okV v := fun v hm => ⟨(rightL_all h).2.2 v hm, hv v hm⟩

theorem encB_in {e : Int} {l : List Vl} (h : rightL t l = true) (hv : ∀ v, v ∈ l → okV v) : ∀ b, b ∈ encB e t l → 0 ≤ b ∧ b ≤ 255 := by
  intro b hb
  unfold encB at hb
  split at hb
  · exact flatMap_one_in (rightL_both h hv) b hb
  · split at hb
    · exact rleB_in _ (Nat.le_refl _) (rightL_both h hv) b hb
    · split at hb
      · exact dictB_in h hv b hb
      · split at hb
        · exact packB_in hv b hb
        · exact deltaB_in _ _ b hb

theorem encB_len {e : Int} {l : List Vl} (h : rightL t l = true) (hv : ∀ v, v ∈ l → okV v) (hl : l.length ≤ 1000) : (encB e t l).length ≤ 31000 := by
  unfold encB
  split
  · have := flatMap_one_len (rightL_both h hv); omega
  · split
    · have := rleB_len _ (Nat.le_refl _) (by omega) (rightL_both h hv); omega
    · split
      · have := dictB_len h hv hl; omega
      · split
        · have := packB_len hv; omega
        · have := deltaB_len l 0; omega

theorem encB_prefix {e : Int} {l l' : List Vl} {s : List Int} (he : encMay e t = true) (h : rightL t l = true) (hv : ∀ v, v ∈ l → okV v) (h' : rightL t l' = true) (hv' : ∀ v, v ∈ l' → okV v) (hlen : l.length = l'.length) (q : encB e t l ++ s = encB e t l') : l = l' ∧ s = [] := by
  have hb := rightL_both h hv
  have hb' := rightL_both h' hv'
  unfold encMay at he
  simp only [Bool.or_eq_true, Bool.and_eq_true, decide_eq_true_eq] at he
  unfold encB at q
  by_cases h1 : e = 1
  · rw [if_pos h1, if_pos h1] at q
    exact flatMap_prefix (fun v hv => (hb v hv).1) (fun v hv => (hb' v hv).1) hlen (s' := []) (by rw [List.append_nil]; exact q)
  rw [if_neg h1, if_neg h1] at q
  by_cases h2 : e = 2
  · rw [if_pos h2, if_pos h2] at q
    exact rleB_prefix _ (Nat.le_refl _) (fun v hv => (hb v hv).1) (fun v hv => (hb' v hv).1) hlen (s' := []) (by rw [List.append_nil]; exact q)
  rw [if_neg h2, if_neg h2] at q
  by_cases h3 : e = 3
  · rw [if_pos h3, if_pos h3] at q
    exact dictB_prefix h h' hlen q
  rw [if_neg h3, if_neg h3] at q
  by_cases h4 : e = 4
  · rw [if_pos h4, if_pos h4] at q
    exact packB_prefix (t := t) (by omega) hb hb' hlen q
  rw [if_neg h4, if_neg h4] at q
  exact deltaB_prefix (t := t) (by omega) hb hb' hlen (s' := []) (by rw [List.append_nil]; exact q)

/-! ### What is nothing -/

def b2i (b : Bool) : Int := if b then 1 else 0
def nullB (l : List Bool) : List Int := bitsB (l.map b2i) 1

theorem nullB_len (l : List Bool) : (nullB l).length = (l.length + 7) / 8 := by
  unfold nullB
  rw [bitsB_len]; simp

theorem nullB_in (l : List Bool) : ∀ b, b ∈ nullB l → 0 ≤ b ∧ b ≤ 255 := bytesTo_in (bitL_le _ _)

theorem b2i_small (l : List Bool) : ∀ x, x ∈ l.map b2i → 0 ≤ x ∧ x.toNat < 2 ^ 1 := by
  intro x hx
  obtain ⟨b, _, rfl⟩ := List.mem_map.1 hx
  cases b <;> simp [b2i]

theorem nullB_inj {l l' : List Bool} (hlen : l.length = l'.length) (e : nullB l = nullB l') : l = l' := by
  have h1 := bitsB_inj (by simpa using hlen) (b2i_small l) (b2i_small l') e
  refine List.ext_getElem hlen fun i h2 h3 => ?_
  have h4 : (l.map b2i)[i]'(by simpa using h2) = (l'.map b2i)[i]'(by simpa using h3) := List.getElem_of_eq h1 _
  simp only [List.getElem_map] at h4
  generalize l[i] = x at h4 ⊢
  generalize l'[i] = y at h4 ⊢
  revert h4
  cases x <;> cases y <;> simp [b2i]

/-! ### A column -/

def isN (v : Vl) : Bool := decide (v.1 = 0)
def fitsV (t : Int) (v : Vl) : Bool := mayV v && (decide (1 ≤ t) && decide (t ≤ 4)) && (decide (v.1 = 0) || decide (v.1 = t))

/-- Which encoding is used. -/
def usedV (e t : Int) : Option Int :=
  if 1 ≤ t ∧ t ≤ 4 ∧ 1 ≤ e ∧ e ≤ 5 then some (if e = 5 ∧ 3 ≤ t then (if t = 4 then 3 else 4) else if e = 4 ∧ t = 4 then 3 else e) else none

theorem usedV_may {e t u : Int} (h : usedV e t = some u) : encMay u t = true ∧ 1 ≤ t ∧ t ≤ 4 ∧ 1 ≤ u ∧ u ≤ 5 ∧ usedV u t = some u := by
  unfold usedV at h
  split at h
  · rename_i hc
    obtain ⟨h1, h2, h3, h4⟩ := hc
    simp only [Option.some.injEq] at h
    unfold encMay usedV
    simp only [Bool.or_eq_true, Bool.and_eq_true, decide_eq_true_eq]
    split at h
    · rename_i h5
      split at h
      · subst h
        refine ⟨by omega, h1, h2, by omega, by omega, ?_⟩
        rw [if_pos (by omega), if_neg (by omega), if_neg (by omega)]
      · subst h
        refine ⟨by omega, h1, h2, by omega, by omega, ?_⟩
        rw [if_pos (by omega), if_neg (by omega), if_neg (by omega)]
    · split at h
      · subst h
        refine ⟨by omega, h1, h2, by omega, by omega, ?_⟩
        rw [if_pos (by omega), if_neg (by omega), if_neg (by omega)]
      · subst h
        refine ⟨by omega, h1, h2, by omega, by omega, ?_⟩
        rw [if_pos (by omega), if_neg (by omega), if_neg (by omega)]
  · cases h

def someV (l : List Vl) : List Vl := l.filter fun v => !isN v

/-- A column as bytes, in an encoding. -/
def colB (u t : Int) (l : List Vl) : List Int :=
  if l.any isN then u :: 1 :: (nullB (l.map isN) ++ encB u t (someV l)) else u :: 0 :: encB u t (someV l)

theorem someV_right {l : List Vl} (ht : 1 ≤ t ∧ t ≤ 4) (h : ∀ v, v ∈ l → fitsV t v = true) : rightL t (someV l) = true := by
  unfold rightL
  simp only [Bool.and_eq_true, decide_eq_true_eq, List.all_eq_true]
  refine ⟨ht, fun v hv => ?_⟩
  simp only [someV, List.mem_filter, isN, Bool.not_eq_true', decide_eq_false_iff_not] at hv
  have := h v hv.1
  unfold fitsV at this
  simp only [Bool.and_eq_true, Bool.or_eq_true, decide_eq_true_eq] at this
  unfold rightV
  simp only [Bool.and_eq_true, decide_eq_true_eq]
  exact ⟨by omega, this.1.1⟩

theorem someV_len (l : List Vl) : (someV l).length ≤ l.length := List.length_filter_le _ _

theorem someV_ok {l : List Vl} (h : ∀ v, v ∈ l → okV v) : ∀ v, v ∈ someV l → okV v := fun v hv => h v (List.mem_filter.1 hv).1

/-- The nothing among values is one alone. -/
theorem null_eq {v : Vl} (h : fitsV t v = true) (hn : isN v = true) : v = ((0:Int), (0:Int), [], ()) := by
  unfold isN at hn
  unfold fitsV mayV at h
  simp only [Bool.and_eq_true, Bool.or_eq_true, decide_eq_true_eq] at h hn
  obtain ⟨a, b, c, u⟩ := v
  dsimp only at h hn
  subst hn
  have h1 := h.1.1
  simp at h1
  simp [h1.1, h1.2]

/-- Values out of which ones are nothing, and the others. -/
def mixV : List Bool → List Vl → List Vl
  | [], _ => []
  | true :: bs, l => ((0:Int), (0:Int), [], ()) :: mixV bs l
  | false :: bs, l => l.headD ((0:Int), (0:Int), [], ()) :: mixV bs l.tail

theorem mixV_back : ∀ {l : List Vl}, (∀ v, v ∈ l → fitsV t v = true) → mixV (l.map isN) (someV l) = l
  | [], _ => rfl
  | v :: l, h => by
    have ih := mixV_back (l := l) fun x hx => h x (List.mem_cons_of_mem _ hx)
    cases hn : isN v with
    | true =>
      rw [List.map_cons, hn]
      have e : someV (v :: l) = someV l := by simp [someV, hn]
      rw [e]
      unfold mixV
      rw [ih, null_eq (h v (by simp)) hn]
    | false =>
      rw [List.map_cons, hn]
      have e : someV (v :: l) = v :: someV l := by simp [someV, hn]
      rw [e]
      unfold mixV
      rw [List.headD_cons, List.tail_cons, ih]

theorem mixV_inj {l l' : List Vl} (h : ∀ v, v ∈ l → fitsV t v = true) (h' : ∀ v, v ∈ l' → fitsV t v = true) (e1 : l.map isN = l'.map isN) (e2 : someV l = someV l') : l = l' := by
  rw [← mixV_back h, ← mixV_back h', e1, e2]

theorem someV_count (l : List Vl) : (someV l).length + (l.map isN).countP (fun b => b) = l.length := by
  induction l with
  | nil => rfl
  | cons v l ih =>
    cases hn : isN v with
    | true =>
      have e : someV (v :: l) = someV l := by simp [someV, hn]
      have e2 : List.countP (fun b => b) (true :: l.map isN) = List.countP (fun b => b) (l.map isN) + 1 := by rw [List.countP_cons]; rfl
      rw [e, List.map_cons, hn, e2, List.length_cons]
      omega
    | false =>
      have e : someV (v :: l) = v :: someV l := by simp [someV, hn]
      have e2 : List.countP (fun b => b) (false :: l.map isN) = List.countP (fun b => b) (l.map isN) := by rw [List.countP_cons]; rfl
      rw [e, List.map_cons, hn, e2, List.length_cons, List.length_cons]
      omega

theorem any_map_false {l : List Vl} (h : l.any isN = false) : l.map isN = List.replicate l.length false := by
  refine List.ext_getElem (by simp) fun i h1 h2 => ?_
  simp only [List.getElem_map, List.getElem_replicate]
  simp only [List.length_map] at h1
  rw [List.any_eq_false] at h
  simpa using h _ (List.getElem_mem h1)

theorem colB_head (u t : Int) (l : List Vl) : ∃ r, colB u t l = u :: r ∧ 1 ≤ r.length := by
  unfold colB
  split
  · exact ⟨_, rfl, by simp⟩
  · exact ⟨_, rfl, by simp⟩

theorem colB_in {u : Int} {l : List Vl} (hu : 1 ≤ u ∧ u ≤ 5) (ht : 1 ≤ t ∧ t ≤ 4) (h : ∀ v, v ∈ l → fitsV t v = true) (hv : ∀ v, v ∈ l → okV v) : ∀ b, b ∈ colB u t l → 0 ≤ b ∧ b ≤ 255 := by
  intro b hb
  have h1 := encB_in (e := u) (someV_right ht h) (someV_ok hv)
  unfold colB at hb
  split at hb
  · simp only [List.mem_cons, List.mem_append] at hb
    rcases hb with rfl | rfl | hb | hb
    · omega
    · omega
    · exact nullB_in _ b hb
    · exact h1 b hb
  · simp only [List.mem_cons] at hb
    rcases hb with rfl | rfl | hb
    · omega
    · omega
    · exact h1 b hb

theorem colB_len {u : Int} {l : List Vl} (ht : 1 ≤ t ∧ t ≤ 4) (h : ∀ v, v ∈ l → fitsV t v = true) (hv : ∀ v, v ∈ l → okV v) (hl : l.length ≤ 1000) : (colB u t l).length ≤ 32000 := by
  have h1 := encB_len (e := u) (someV_right ht h) (someV_ok hv) (by have := someV_len l; omega)
  unfold colB
  split
  · simp only [List.length_cons, List.length_append, nullB_len, List.length_map]; omega
  · simp only [List.length_cons]; omega

theorem colB_prefix {u u' : Int} {l l' : List Vl} {s : List Int} (hu : encMay u t = true) (ht : 1 ≤ t ∧ t ≤ 4) (h : ∀ v, v ∈ l → fitsV t v = true) (hv : ∀ v, v ∈ l → okV v) (h' : ∀ v, v ∈ l' → fitsV t v = true) (hv' : ∀ v, v ∈ l' → okV v)
    (hlen : l.length = l'.length) (q : colB u t l ++ s = colB u' t l') : u = u' ∧ l = l' ∧ s = [] := by
  have hr := someV_right ht h
  have hr' := someV_right ht h'
  unfold colB at q
  cases ha : l.any isN with
  | true =>
    cases ha' : l'.any isN with
    | true =>
      rw [ha, ha', if_pos rfl, if_pos rfl] at q
      simp only [List.cons_append, List.cons.injEq, true_and, List.append_assoc] at q
      obtain ⟨rfl, q⟩ := q
      have q1 := List.append_inj q (by rw [nullB_len, nullB_len]; simp [hlen])
      have e1 := nullB_inj (by simpa using hlen) q1.1
      have h3 := someV_count l
      have h4 := someV_count l'
      rw [e1] at h3
      obtain ⟨e2, e3⟩ := encB_prefix hu hr (someV_ok hv) hr' (someV_ok hv') (by omega) q1.2
      exact ⟨rfl, mixV_inj h h' e1 e2, e3⟩
    | false =>
      rw [ha, ha', if_pos rfl, if_neg (by simp)] at q
      simp at q
  | false =>
    cases ha' : l'.any isN with
    | true =>
      rw [ha, ha', if_neg (by simp), if_pos rfl] at q
      simp at q
    | false =>
      rw [ha, ha', if_neg (by simp), if_neg (by simp)] at q
      simp only [List.cons_append, List.cons.injEq, true_and] at q
      obtain ⟨rfl, q⟩ := q
      have e1 : l.map isN = l'.map isN := by rw [any_map_false ha, any_map_false ha', hlen]
      have h3 := someV_count l
      have h4 := someV_count l'
      rw [e1] at h3
      obtain ⟨e2, e3⟩ := encB_prefix hu hr (someV_ok hv) hr' (someV_ok hv') (by omega) q
      exact ⟨rfl, mixV_inj h h' e1 e2, e3⟩

end Go.Rb
