/- Plain law: numbers of few bytes, as the program has them. Own work. -/
import Derived.Test.YtpkgjjdalliggaaGreatDoorLawB
import Derived.Test.YtpkgjjdalliggaaGreatDoorRbJ
set_option autoImplicit false
set_option linter.unusedVariables false
set_option linter.unusedSimpArgs false
namespace Go.Rb.R4
open Go.Rb

theorem room_eq : room = 140737488355328 := rfl
def Bytes (b : List Int) : Prop := ∀ x, x ∈ b → 0 ≤ x ∧ x ≤ 255

theorem Bytes.get {b : List Int} (h : Bytes b) {i : Nat} (hi : i < b.length) : ∃ c : Nat, b.getD i 0 = (c : Int) ∧ c < 256 ∧ b[i] = (c : Int) := by
  have := h _ (List.getElem_mem hi)
  exact ⟨b[i].toNat, by rw [getD_lt' hi]; omega, by omega, by omega⟩

theorem f_num_Put_eq {n v : Nat} (hv : v < 18446744073709551616) (hn : 10 ≤ n) : f_num_Put n ((v : Int), ()) = some ((putN v, ()), ()) := by
  unfold f_num_Put
  refine (iter_rec (I := fun k (s : Int × List Int) => ∃ v : Nat, s.1 = (v : Int) ∧ v < 128 ^ (k + 1) ∧ v < 18446744073709551616 ∧ s.2.length + k ≤ 1000)
    (res := fun s => some ((s.2 ++ putN s.1.toNat, ()), ())) ?_ n 9 _ ⟨v, rfl, by omega, hv, by simp⟩ (by omega)).trans (by simp)
  rintro k ⟨a, acc⟩ rec ⟨v, rfl, h1, h2, h3⟩ hrec
  dsimp only at h3
  have hr := room_eq
  have hm : IntKind.u8.wrap (v : Int) = ((v % 256 : Nat) : Int) := by rw [wrap_mod8]; omega
  dsimp only
  by_cases h : v < 128
  · rw [if_neg (by simp; omega), if_pos (by simp; omega)]
    rw [Int.toNat_natCast, putN_small h, hm, Nat.mod_eq_of_lt (by omega)]
  · obtain ⟨k, rfl⟩ : ∃ k', k = k' + 1 := ⟨k - 1, by
      rcases Nat.eq_zero_or_pos k with h0 | h0
      · subst h0; omega
      · omega⟩
    rw [if_pos (by simp; omega), if_pos (by simp; omega)]
    have e1 : bits .or .u8 (IntKind.u8.wrap (v : Int)) 128 = ((v % 128 + 128 : Nat) : Int) := by
      rw [hm, show (128 : Int) = ((128 : Nat) : Int) from rfl, bits_or8 (by omega) (by omega), or128 (by omega)]
      congr 1; omega
    have e2 := shr_u64 v 7 (by omega)
    rw [e1, show ((7 : Int)) = ((7 : Nat) : Int) from rfl, e2]
    rw [hrec k _ (by omega) ⟨v / 2 ^ 7, rfl, by rw [Nat.pow_succ] at h1; omega, by omega, by simp; omega⟩]
    simp only [Int.toNat_natCast]
    rw [putN_big (v := v) (by omega)]
    simp

theorem f_num_Zig_eq {v : Int} (h1 : -9223372036854775808 ≤ v) (h2 : v ≤ 9223372036854775807) (n : Nat) : f_num_Zig n (v, ()) = some ((((zig v : Nat) : Int), ()), ()) := by
  unfold f_num_Zig
  dsimp only
  rw [zig_code h1 h2]

theorem f_num_Zag_eq {u : Nat} (h : u < 18446744073709551616) (n : Nat) : f_num_Zag n ((u : Int), ()) = some ((zag u, ()), ()) := by
  unfold f_num_Zag
  dsimp only
  rw [zag_code h]

/-- What reading a number tells. -/
def ReadN (b : List Int) (y : (Int × Int × UV × Unit) × Unit) : Prop :=
  match takeN b with
  | some (v, k) => y = (((v : Int), (k : Int), UV.nil, ()), ())
  | none => ∃ g, (g = g_num_errShort ∨ g = g_num_errLong) ∧ y = (((0 : Int), (0 : Int), UV.node t_num_wrap (.pair (.str [98, 121, 116, 101]) (.pair (UV.sent g) .unit)), ()), ())

theorem shl_or {V c i : Nat} (hV : V < 2 ^ (7 * i)) (hi : i ≤ 9) (hc : c % 128 * 2 ^ (7 * i) < 18446744073709551616) (hc8 : c < 256) :
    bits .or .u64 (V : Int) (IntKind.u64.wrap ((IntKind.u64.wrap (bits .and .u8 (c : Int) (127:Int))) * 2 ^ min (IntKind.i64.wrap ((7:Int) * (i : Int))).toNat IntKind.u64.bits)) = ((V + c % 128 * 2 ^ (7 * i) : Nat) : Int) := by
  have e1 : bits .and .u8 (c : Int) (127:Int) = ((c % 128 : Nat) : Int) := by
    have := bits_and8 hc8 (show 127 < 256 by omega)
    rw [and127 hc8] at this
    exact this
  have e2 : IntKind.i64.wrap ((7:Int) * (i : Int)) = ((7 * i : Nat) : Int) := by
    rw [wrap_i64 (by omega) (by omega)]; push_cast; rfl
  have hp : 2 ^ (7 * i) ≤ 2 ^ 63 := Nat.pow_le_pow_right (by omega) (by omega)
  rw [e1, e2, wrapU64 (x := c % 128) (by omega), shl_pow _ (7 * i) IntKind.u64.bits (show 7 * i ≤ 64 by omega), wrapU64 hc, bits_or64 (by omega) hc, or_add hV]

theorem f_num_read_post {n : Nat} {b : List Int} (hb : Bytes b) (hl : b.length < 1000000) (hn : 11 ≤ n) : Gets (f_num_read n (b, ())) (ReadN b) := by
  unfold f_num_read
  dsimp only
  refine Gets.iter (I := fun s : Int × Int => ∃ V i : Nat, s = ((V : Int), (i : Int)) ∧ i ≤ 10 ∧ i ≤ b.length ∧ takeN b = combN i V (takeN (b.drop i)) ∧ (i ≤ 9 → V < 2 ^ (7 * i)) ∧ V < 18446744073709551616) (μ := fun s => 10 - s.2.toNat)
    ⟨0, 0, rfl, by omega, by omega, by rw [List.drop_zero, combN_zero hb], by simp, by omega⟩ (by simp; omega) ?_
  rintro rec _ ⟨V, i, rfl, hi, hil, hT, hV, hV2⟩ hrec
  dsimp only
  rcases Nat.lt_or_ge i 10 with h10 | h10
  rotate_left
  · obtain rfl : i = 10 := by omega
    rw [if_neg (by simp)]
    rw [combN_ten] at hT
    refine Gets.some ?_
    unfold ReadN
    rw [hT]
    exact ⟨_, .inr rfl, rfl⟩
  rw [if_pos (by simp; omega)]
  by_cases hend : i = b.length
  · rw [if_pos (by simp; omega)]
    refine Gets.some ?_
    rw [hend, List.drop_length] at hT
    unfold ReadN
    rw [hT]
    exact ⟨_, .inl rfl, rfl⟩
  rw [if_neg (by simp; omega), atI_nat (by omega), if_neg (by rw [wrap_i64 (by omega) (by omega)]; omega)]
  obtain ⟨c, hc1, hc2, hc3⟩ := hb.get (i := i) (by omega)
  have hV' := hV (by omega)
  have e0 : bits .and .u8 (c : Int) (128:Int) = ((if c < 128 then 0 else 128 : Nat) : Int) := by
    have := bits_and8 hc2 (show 128 < 256 by omega)
    rw [and128 hc2] at this
    exact this
  rw [Int.toNat_natCast, hc1, e0]
  have hw : IntKind.i64.wrap ((i : Int) + 1) = ((i + 1 : Nat) : Int) := wrap_succ (by omega)
  rw [hw]
  have hp : 1 ≤ 2 ^ (7 * i) := Nat.pow_pos (by omega)
  by_cases hcl : c < 128
  · rw [if_pos (by simp [hcl])]
    have hlast := combN_last (V := V) (show i < b.length by omega) (by omega) (by omega)
    rw [← hT, hc3, Int.toNat_natCast] at hlast
    have good : V + c * 2 ^ (7 * i) < 18446744073709551616 → ((i = 0 ∨ (c : Int) ≠ 0)) → Gets (some (((bits .or .u64 (V : Int) (IntKind.u64.wrap ((IntKind.u64.wrap (bits .and .u8 (c : Int) (127:Int))) * 2 ^ min (IntKind.i64.wrap ((7:Int) * (i : Int))).toNat IntKind.u64.bits))), ((i + 1 : Nat) : Int), UV.nil, ()), ())) (ReadN b) := by
      intro h1 h2
      refine Gets.some ?_
      rw [shl_or hV' (by omega) (by rw [Nat.mod_eq_of_lt hcl]; omega) hc2, Nat.mod_eq_of_lt hcl]
      rw [if_pos ⟨h2, h1⟩] at hlast
      unfold ReadN
      rw [hlast]
    have bad : ¬ ((i = 0 ∨ (c : Int) ≠ 0) ∧ V + c * 2 ^ (7 * i) < 18446744073709551616) → Gets (some (((0:Int), (0:Int), (UV.node t_num_wrap (.pair (.str [98, 121, 116, 101]) (.pair (UV.sent g_num_errLong) .unit))), ()), ())) (ReadN b) := by
      intro h1
      rw [if_neg h1] at hlast
      refine Gets.some ?_
      unfold ReadN
      rw [hlast]
      exact ⟨_, .inr rfl, rfl⟩
    have nine : Gets (if decide ((i : Int) = 9) = true then (if decide ((1:Int) < (c : Int)) = true then some (((0:Int), (0:Int), (UV.node t_num_wrap (.pair (.str [98, 121, 116, 101]) (.pair (UV.sent g_num_errLong) .unit))), ()), ()) else some (((bits .or .u64 (V : Int) (IntKind.u64.wrap ((IntKind.u64.wrap (bits .and .u8 (c : Int) (127:Int))) * 2 ^ min (IntKind.i64.wrap ((7:Int) * (i : Int))).toNat IntKind.u64.bits))), ((i + 1 : Nat) : Int), UV.nil, ()), ())) else some (((bits .or .u64 (V : Int) (IntKind.u64.wrap ((IntKind.u64.wrap (bits .and .u8 (c : Int) (127:Int))) * 2 ^ min (IntKind.i64.wrap ((7:Int) * (i : Int))).toNat IntKind.u64.bits))), ((i + 1 : Nat) : Int), UV.nil, ()), ()) : Option ((Int × Int × UV × Unit) × Unit)) (fun y => (i = 0 ∨ (c : Int) ≠ 0) → ReadN b y) := by
      by_cases h9 : i = 9
      · subst h9
        rw [if_pos (by simp)]
        by_cases hc1' : 1 < c
        · rw [if_pos (by simp; omega)]
          refine (bad ?_).mono fun y h _ => h
          rintro ⟨_, h2⟩
          have : 2 * 2 ^ (7 * 9) ≤ c * 2 ^ (7 * 9) := Nat.mul_le_mul_right _ hc1'
          omega
        · rw [if_neg (by simp; omega)]
          by_cases hz : (9 = 0 ∨ (c : Int) ≠ 0)
          · refine (good ?_ hz).mono fun y h _ => h
            have : c * 2 ^ (7 * 9) ≤ 1 * 2 ^ (7 * 9) := Nat.mul_le_mul_right _ (by omega)
            omega
          · exact Gets.some fun h => absurd h hz
      · rw [if_neg (by simp; omega)]
        by_cases hz : (i = 0 ∨ (c : Int) ≠ 0)
        · refine (good ?_ hz).mono fun y h _ => h
          have h1 : c * 2 ^ (7 * i) ≤ 127 * 2 ^ (7 * i) := Nat.mul_le_mul_right _ (by omega)
          have h2 : 2 ^ (7 * i) ≤ 2 ^ (7 * 8) := Nat.pow_le_pow_right (by omega) (by omega)
          omega
        · exact Gets.some fun h => absurd h hz
    by_cases hi0 : 0 < i
    · rw [if_pos (by simp; omega)]
      by_cases hc0 : c = 0
      · subst hc0
        rw [if_pos (by simp)]
        exact bad (by rintro ⟨h1, _⟩; simp at h1; omega)
      · rw [if_neg (by simp; omega)]
        exact nine.mono fun y h => h (.inr (by omega))
    · rw [if_neg (by simp; omega)]
      exact nine.mono fun y h => h (.inl (by omega))
  · rw [if_neg (by simp [hcl])]
    have hstep := combN_step (V := V) (show i < b.length by omega) (by omega)
    rw [← hT, hc3, Int.toNat_natCast] at hstep
    have hcm : c - 128 = c % 128 := by omega
    by_cases h9 : i = 9
    · -- behind the last byte that may be
      subst h9
      have hnone : takeN b = none := by rw [hstep]; exact combN_ten
      have hb2 : ∃ V' : Nat, bits .or .u64 (V : Int) (IntKind.u64.wrap ((IntKind.u64.wrap (bits .and .u8 (c : Int) (127:Int))) * 2 ^ min (IntKind.i64.wrap ((7:Int) * ((9 : Nat) : Int))).toNat IntKind.u64.bits)) = (V' : Int) ∧ V' < 18446744073709551616 := by
        have hr := u64_range ((IntKind.u64.wrap (bits .and .u8 (c : Int) (127:Int))) * 2 ^ min (IntKind.i64.wrap ((7:Int) * ((9 : Nat) : Int))).toNat IntKind.u64.bits)
        obtain ⟨q, hq⟩ : ∃ q : Nat, IntKind.u64.wrap ((IntKind.u64.wrap (bits .and .u8 (c : Int) (127:Int))) * 2 ^ min (IntKind.i64.wrap ((7:Int) * ((9 : Nat) : Int))).toNat IntKind.u64.bits) = (q : Int) := ⟨_, (Int.toNat_of_nonneg hr.1).symm⟩
        rw [hq] at hr ⊢
        have hq2 : q < 18446744073709551616 := by omega
        refine ⟨V ||| q, bits_or64 hV2 hq2, ?_⟩
        have : V ||| q < 2 ^ 64 := Nat.or_lt_two_pow (by omega) (by omega)
        omega
      obtain ⟨V', e1, e2⟩ := hb2
      rw [e1]
      refine hrec _ ⟨V', 10, rfl, by omega, by omega, ?_, by omega, e2⟩ (by simp)
      rw [combN_ten, hnone]
    · have hlt : c % 128 * 2 ^ (7 * i) < 18446744073709551616 := by
        have h1 : c % 128 * 2 ^ (7 * i) ≤ 127 * 2 ^ (7 * i) := Nat.mul_le_mul_right _ (by omega)
        have h2 : 2 ^ (7 * i) ≤ 2 ^ (7 * 8) := Nat.pow_le_pow_right (by omega) (by omega)
        omega
      rw [shl_or hV' (by omega) hlt hc2]
      have hb1 : c % 128 * 2 ^ (7 * i) ≤ 127 * 2 ^ (7 * i) := Nat.mul_le_mul_right _ (by omega)
      refine hrec _ ⟨_, i + 1, rfl, by omega, by omega, by rw [hstep, hcm], fun _ => by rw [pow7]; omega, ?_⟩ (by simp; omega)
      have h2 : 2 ^ (7 * i) ≤ 2 ^ (7 * 8) := Nat.pow_le_pow_right (by omega) (by omega)
      omega

theorem f_num_Take_eq {n : Nat} {b : List Int} (hb : Bytes b) (hl : b.length < 1000000) (hn : 11 ≤ n) :
    f_num_Take n (b, ()) = some (match takeN b with | some (v, k) => ((v : Int), (k : Int), true, ()) | none => (0, 0, false, ()), ()) := by
  obtain ⟨y, h1, h2⟩ := f_num_read_post hb hl hn
  unfold f_num_Take f_errors_Is
  dsimp only
  rw [h1]
  simp only [Option.bind_some]
  unfold ReadN at h2
  split at h2
  · rename_i v k ht
    subst h2
    rfl
  · rename_i ht
    obtain ⟨g, hg, rfl⟩ := h2
    rcases hg with rfl | rfl <;> rfl

end Go.Rb.R4

namespace Go.Rb.R4
open Go.Rb

set_option maxRecDepth 100000 in
theorem tab_len : lt_8163acee.length = 256 := by decide
set_option maxRecDepth 100000 in
theorem tab_get : ∀ x : Fin 256, 0 ≤ lt_8163acee.getD x.1 0 ∧ lt_8163acee.getD x.1 0 ≤ 8 ∧ x.1 < 2 ^ (lt_8163acee.getD x.1 0).toNat ∧ (lt_8163acee.getD x.1 0 = 0 ∨ 2 ^ ((lt_8163acee.getD x.1 0).toNat - 1) ≤ x.1) := by decide

theorem tab_blen {x : Nat} (h : x < 256) : lt_8163acee.getD x 0 = ((blen x : Nat) : Int) ∧ blen x ≤ 8 := by
  obtain ⟨h1, h2, h3, h4⟩ := tab_get ⟨x, h⟩
  dsimp only at h1 h2 h3 h4
  obtain ⟨k, hk⟩ : ∃ k : Nat, lt_8163acee.getD x 0 = (k : Int) := ⟨_, (Int.toNat_of_nonneg h1).symm⟩
  have hk' : (lt_8163acee.getD x 0).toNat = k := by rw [hk]; rfl
  rw [hk'] at h3 h4
  rw [hk] at h1 h2 h4 ⊢
  have e1 := (blen_le_iff k x).2 h3
  have e2 : k ≤ blen x := by
    rcases h4 with h4 | h4
    · omega
    · rcases Nat.eq_zero_or_pos k with h0 | h0
      · omega
      · have : ¬ blen x ≤ k - 1 := fun h => by
          have := (blen_le_iff (k - 1) x).1 h
          omega
        omega
  have : k = blen x := by omega
  exact ⟨by rw [this], by omega⟩

theorem f_Len64_eq {v : Nat} (hv : v < 18446744073709551616) (n : Nat) : f_math_bits_Len64 n ((v : Int), ()) = some ((((blen v : Nat) : Int), ()), ()) := by
  have last : ∀ (u m : Nat), u < 65536 → m ≤ 48 → (if (decide ((256:Int) ≤ (u : Int))) = true then (atI (IntKind.u8.wrap ((u : Int).fdiv (2 ^ min (8:Int).toNat IntKind.u64.bits))) (lt_8163acee.length) (some (((IntKind.i64.wrap ((IntKind.i64.wrap ((m : Int) + (8:Int))) + (IntKind.i64.wrap (lt_8163acee.getD (IntKind.u8.wrap ((u : Int).fdiv (2 ^ min (8:Int).toNat IntKind.u64.bits))).toNat (0:Int))))), ()), ())))
      else (atI (IntKind.u8.wrap (u : Int)) (lt_8163acee.length) (some (((IntKind.i64.wrap ((m : Int) + (IntKind.i64.wrap (lt_8163acee.getD (IntKind.u8.wrap (u : Int)).toNat (0:Int))))), ()), ()))) : Option ((Int × Unit) × Unit)) = some ((((blen u + m : Nat) : Int), ()), ()) := by
    intro u m hu hm
    by_cases h : 256 ≤ u
    · rw [if_pos (by simp; omega)]
      have e := shr_u64 u 8 (by omega)
      rw [show ((8 : Int)) = ((8 : Nat) : Int) from rfl, e, wrapU8 (by omega), atI_nat (by rw [tab_len]; omega), Int.toNat_natCast]
      obtain ⟨t1, t2⟩ := tab_blen (x := u / 2 ^ 8) (by omega)
      have h3 := blen_shift 8 u (by omega)
      rw [t1, wrapI64 (x := blen (u / 2 ^ 8)) (by omega), show ((m : Int) + ((8 : Nat) : Int)) = ((m + 8 : Nat) : Int) by omega, wrapI64 (by omega), h3]
      rw [show (((m + 8 : Nat) : Int) + ((blen (u / 2 ^ 8) : Nat) : Int)) = ((blen (u / 2 ^ 8) + 8 + m : Nat) : Int) by omega, wrapI64 (by omega)]
    · rw [if_neg (by simp; omega), wrapU8 (by omega), atI_nat (by rw [tab_len]; omega), Int.toNat_natCast]
      obtain ⟨t1, t2⟩ := tab_blen (x := u) (by omega)
      rw [t1, wrapI64 (x := blen u) (by omega), show (((m : Nat) : Int) + ((blen u : Nat) : Int)) = ((blen u + m : Nat) : Int) by omega, wrapI64 (by omega)]
  unfold f_math_bits_Len64
  refine join_intro (I := fun s q => ∃ u m : Nat, s = ((u : Int), (m : Int)) ∧ u < 4294967296 ∧ m ≤ 32 ∧ q = some ((((blen u + m : Nat) : Int), ()), ())) ?_ ?_
  · rintro _ _ ⟨u, m, rfl, hu, hm, rfl⟩
    refine join_intro (I := fun s q => ∃ u m : Nat, s = ((u : Int), (m : Int)) ∧ u < 65536 ∧ m ≤ 48 ∧ q = some ((((blen u + m : Nat) : Int), ()), ())) ?_ ?_
    · rintro _ _ ⟨u, m, rfl, hu, hm, rfl⟩
      exact last u m hu hm
    · intro J hJ
      dsimp only
      by_cases h : 65536 ≤ u
      · rw [if_pos (by simp; omega)]
        have e := shr_u64 u 16 (by omega)
        have h3 := blen_shift 16 u (by omega)
        rw [show ((16 : Int)) = ((16 : Nat) : Int) from rfl, e, show ((m : Int) + ((16 : Nat) : Int)) = ((m + 16 : Nat) : Int) by omega, wrapI64 (by omega), hJ _ _ ⟨_, _, rfl, by omega, by omega, rfl⟩, h3]
        rw [show blen (u / 2 ^ 16) + (m + 16) = blen (u / 2 ^ 16) + 16 + m by omega]
      · rw [if_neg (by simp; omega), hJ _ _ ⟨_, _, rfl, by omega, by omega, rfl⟩]
  · intro J hJ
    dsimp only
    by_cases h : 4294967296 ≤ v
    · rw [if_pos (by simp; omega)]
      have e := shr_u64 v 32 (by omega)
      have h3 := blen_shift 32 v (by omega)
      rw [show ((32 : Int)) = ((32 : Nat) : Int) from rfl, e, hJ _ _ ⟨_, _, rfl, by omega, by omega, rfl⟩, h3]
    · rw [if_neg (by simp; omega), show ((v : Int), (0 : Int)) = ((v : Int), ((0 : Nat) : Int)) from rfl, hJ _ _ ⟨v, 0, rfl, by omega, by omega, rfl⟩, Nat.add_zero]

theorem f_bits_Width_eq {n : Nat} {l : List Int} (hl : ∀ x, x ∈ l → 0 ≤ x ∧ x < 18446744073709551616) (hn : l.length < n) (hc : l.length < 1000000) : f_bits_Width n (l, ()) = some ((((widthL l : Nat) : Int), ()), ()) := by
  unfold f_bits_Width
  dsimp only
  refine iter_run' (st := fun i => (((widthL (l.take i) : Nat) : Int), (i : Int))) l.length (by simp [widthL]) ?_ ?_ hn
  · intro rec i hi
    have hx := hl _ (List.getElem_mem hi)
    dsimp only
    rw [if_pos (by simp; omega), atI_nat hi, Int.toNat_natCast, getD_lt' hi]
    obtain ⟨v, hv⟩ : ∃ v : Nat, l[i] = (v : Int) := ⟨_, (Int.toNat_of_nonneg hx.1).symm⟩
    rw [hv, f_Len64_eq (by omega)]
    simp only [Option.bind_some]
    rw [wrap_succ (by omega)]
    congr 2
    rw [List.take_succ_eq_append_getElem hi]
    unfold widthL
    rw [List.foldl_append]
    simp only [List.foldl_cons, List.foldl_nil, hv, Int.toNat_natCast]
    split <;> omega
  · intro rec
    simp

theorem f_bits_size_eq {m : Nat} (h : m < 1000000000) (n : Nat) : f_bits_size n ((m : Int), ()) = some (((((m + 7) / 8 : Nat) : Int), ()), ()) := by
  unfold f_bits_size
  dsimp only
  rw [show ((m : Int) + 7) = ((m + 7 : Nat) : Int) by omega, wrapI64 (by omega), show ((8 : Int)) = ((8 : Nat) : Int) from rfl, tdiv_nat, wrapI64 (by omega)]

/-- Numbers that may be put. -/
def Nums (l : List Int) : Prop := ∀ x, x ∈ l → 0 ≤ x ∧ x < 18446744073709551616

theorem f_bits_Put_eq {n : Nat} {l : List Int} {w : Nat} (hl : Nums l) (hn : l.length < n) (hnw : 64 < n) (hc : l.length < 100000) :
    f_bits_Put n (l, (w : Int), ()) = some (if w ≤ 64 ∧ widthL l ≤ w then (bitsB l w, true, ()) else ([], false, ()), ()) := by
  unfold f_bits_Put
  dsimp only
  rw [if_neg (by simp)]
  by_cases hw : w ≤ 64
  rotate_left
  · rw [if_pos (by simp; omega), if_neg (by omega)]
  rw [if_neg (by simp; omega), f_bits_Width_eq hl hn (by omega)]
  simp only [Option.bind_some]
  by_cases hwl : widthL l ≤ w
  rotate_left
  · rw [if_pos (by simp; omega), if_neg (by omega)]
  rw [if_neg (by simp; omega), if_pos ⟨hw, hwl⟩]
  have hmul : l.length * w ≤ l.length * 64 := Nat.mul_le_mul_left _ hw
  have hr := room_eq
  rw [show ((l.length : Int) * (w : Int)) = ((l.length * w : Nat) : Int) by push_cast; rfl, wrapI64 (by omega), f_bits_size_eq (by omega)]
  simp only [Option.bind_some]
  rw [if_pos (by refine ⟨by omega, by omega, ?_⟩; omega)]
  have hb := bitL_le l w
  refine iter_run' (st := fun i => (bytesTo (bitL l w) ((l.length * w + 7) / 8) (i * w), (i : Int))) l.length (by rw [Nat.zero_mul, bytesTo_zero, Int.toNat_natCast]; rfl) ?_ ?_ hn
  · intro rec i hi
    have hiw : i * w + w ≤ l.length * w := by
      have := Nat.mul_le_mul_right w (show i + 1 ≤ l.length from hi)
      rwa [Nat.add_mul, Nat.one_mul] at this
    dsimp only
    rw [if_pos (by simp; omega), atI_nat hi]
    refine iter_run' (st := fun k => (bytesTo (bitL l w) ((l.length * w + 7) / 8) (i * w + k), (k : Int))) w (by simp) ?_ ?_ (by omega)
    · intro rec2 k hk
      dsimp only
      rw [if_pos (by simp; omega)]
      have e1 : IntKind.i64.wrap ((IntKind.i64.wrap ((i : Int) * (w : Int))) + (k : Int)) = ((i * w + k : Nat) : Int) := by
        rw [show ((i : Int) * (w : Int)) = ((i * w : Nat) : Int) by push_cast; rfl, wrapI64 (by omega), show (((i * w : Nat) : Int) + (k : Int)) = ((i * w + k : Nat) : Int) by omega, wrapI64 (by omega)]
      have e2 : (((i * w + k : Nat) : Int)).tdiv (8 : Int) = (((i * w + k) / 8 : Nat) : Int) := by
        rw [show ((8 : Int)) = ((8 : Nat) : Int) from rfl, tdiv_nat]
      have e3 : (((i * w + k : Nat) : Int)).tmod (8 : Int) = (((i * w + k) % 8 : Nat) : Int) := by
        rw [show ((8 : Int)) = ((8 : Nat) : Int) from rfl, tmod_nat]
      have hlt : (i * w + k) / 8 < (l.length * w + 7) / 8 := by omega
      rw [e1, e2, e3, wrapI64 (by omega), atI_nat (by rw [bytesTo_len]; exact hlt), if_neg (by omega), if_neg (by omega), atI_nat (by rw [bytesTo_len]; exact hlt)]
      simp only [Int.toNat_natCast]
      rw [wrap_succ (by omega)]
      congr 2
      rw [show i * w + (k + 1) = i * w + k + 1 by omega, ← bytesTo_step hlt]
      congr 1
      have hx := hl _ (List.getElem_mem hi)
      obtain ⟨v, hv⟩ : ∃ v : Nat, l[i] = (v : Int) := ⟨_, (Int.toNat_of_nonneg hx.1).symm⟩
      have hsm := byteTo_small hb (i * w + k)
      have hp8 : 2 ^ ((i * w + k) % 8) ≤ 2 ^ 7 := Nat.pow_le_pow_right (by omega) (by omega)
      have hbit : bitL l w (i * w + k) = v / 2 ^ k % 2 := by
        unfold bitL
        rw [mul_add_div hk, mul_add_mod hk, getD_lt' hi, hv, Int.toNat_natCast]
      have h2 := shr_u64 v k (by omega)
      rw [Int.toNat_natCast] at h2
      have h3 : bits .and .u64 ((v / 2 ^ k : Nat) : Int) (1 : Int) = ((v / 2 ^ k % 2 : Nat) : Int) := by
        have hq : v / 2 ^ k ≤ v := Nat.div_le_self _ _
        have := bits_and64 (x := v / 2 ^ k) (y := 1) (by omega) (by omega)
        rw [Nat.and_one_is_mod] at this
        exact this
      have h4 := shl_pow (v / 2 ^ k % 2) ((i * w + k) % 8) 8 (by omega)
      rw [Int.toNat_natCast] at h4
      have h5 : v / 2 ^ k % 2 * 2 ^ ((i * w + k) % 8) < 256 := by
        have : v / 2 ^ k % 2 * 2 ^ ((i * w + k) % 8) ≤ 1 * 2 ^ ((i * w + k) % 8) := Nat.mul_le_mul_right _ (by omega)
        omega
      rw [bytesTo_get hlt, getD_lt' hi, hv, h2, h3, wrapU8 (x := v / 2 ^ k % 2) (by omega), show IntKind.u8.bits = 8 from rfl, h4, wrapU8 h5, bits_or8 (byteTo_lt hb _ _) h5, or_add hsm, hbit]
    · intro rec2
      dsimp only
      rw [if_neg (by simp), wrap_succ (by omega), show i * w + w = (i + 1) * w by rw [Nat.add_mul, Nat.one_mul]]
  · intro rec
    dsimp only
    rw [if_neg (by simp)]
    rfl

/-- n numbers of w bits, of the bits ahead of p. -/
def numsTo (b : List Int) (n w p : Nat) : List Int := (List.range n).map fun i => ((numTo (bitB b) (i * w) (min w (p - i * w)) : Nat) : Int)

theorem numsTo_len (b : List Int) (n w p : Nat) : (numsTo b n w p).length = n := by simp [numsTo]
theorem numsTo_get {b : List Int} {n w p i : Nat} (h : i < n) : (numsTo b n w p).getD i 0 = ((numTo (bitB b) (i * w) (min w (p - i * w)) : Nat) : Int) := by
  rw [getD_lt' (by simpa [numsTo] using h)]
  simp [numsTo]

theorem numsTo_step {b : List Int} {n w p : Nat} (hw : 0 < w) (h : p / w < n) : (numsTo b n w p).set (p / w) (((numTo (bitB b) (p / w * w) (p % w) + bitB b p * 2 ^ (p % w) : Nat) : Int)) = numsTo b n w (p + 1) := by
  have hdm := Nat.div_add_mod p w
  have hm := Nat.mod_lt p hw
  rw [Nat.mul_comm] at hdm
  apply List.ext_getElem
  · simp [numsTo]
  · intro i h1 h2
    rw [List.getElem_set]
    simp only [numsTo, List.getElem_map, List.getElem_range]
    by_cases hi : p / w = i
    · subst hi
      rw [if_pos rfl, show min w (p + 1 - p / w * w) = p % w + 1 by omega, numTo, show p / w * w + p % w = p by omega]
    · rw [if_neg hi]
      congr 2
      rcases Nat.lt_or_ge i (p / w) with h3 | h3
      · have : i * w + w ≤ p / w * w := by
          have := Nat.mul_le_mul_right w (show i + 1 ≤ p / w from h3)
          rwa [Nat.add_mul, Nat.one_mul] at this
        omega
      · have : p / w * w + w ≤ i * w := by
          have := Nat.mul_le_mul_right w (show p / w + 1 ≤ i by omega)
          rwa [Nat.add_mul, Nat.one_mul] at this
        omega

theorem bitsL_nums {b : List Int} {n w : Nat} (hw : w ≤ 64) : Nums (bitsL b n w) := by
  intro x hx
  simp only [bitsL, List.mem_map] at hx
  obtain ⟨i, _, rfl⟩ := hx
  have h1 := numTo_lt (bitB_le b) (i * w) w
  have h2 : 2 ^ w ≤ 2 ^ 64 := Nat.pow_le_pow_right (by omega) hw
  omega

theorem bitsL_small {b : List Int} {n w : Nat} : widthL (bitsL b n w) ≤ w := by
  rw [widthL_le]
  intro x hx
  simp only [bitsL, List.mem_map] at hx
  obtain ⟨i, _, rfl⟩ := hx
  exact numTo_lt (bitB_le b) (i * w) w

/-- What taking numbers tells. -/
def takeB (b : List Int) (n w : Int) : List Int × Bool × Unit :=
  if 0 ≤ n ∧ n ≤ 1000 ∧ 0 ≤ w ∧ w ≤ 64 ∧ b.length = (n.toNat * w.toNat + 7) / 8 ∧ bitsB (bitsL b n.toNat w.toNat) w.toNat = b then (bitsL b n.toNat w.toNat, true, ()) else ([], false, ())

theorem f_bits_Take_eq {n : Nat} {b : List Int} {m w : Int} (hb : Bytes b) (hl : b.length < 1000000) (hn : 64001 < n) : f_bits_Take n (b, m, w, ()) = some (takeB b m w, ()) := by
  unfold f_bits_Take takeB
  dsimp only
  by_cases h1 : m < 0
  · rw [if_pos (by simpa using h1), if_neg (by omega)]
  rw [if_neg (by simpa using h1)]
  by_cases h2 : 1000 < m
  · rw [if_pos (by simpa using h2), if_neg (by omega)]
  rw [if_neg (by simpa using h2)]
  by_cases h3 : w < 0
  · rw [if_pos (by simpa using h3), if_neg (by omega)]
  rw [if_neg (by simpa using h3)]
  by_cases h4 : 64 < w
  · rw [if_pos (by simpa using h4), if_neg (by omega)]
  rw [if_neg (by simpa using h4)]
  obtain ⟨M, rfl⟩ : ∃ M : Nat, m = (M : Int) := ⟨_, (Int.toNat_of_nonneg (by omega)).symm⟩
  obtain ⟨W, rfl⟩ : ∃ W : Nat, w = (W : Int) := ⟨_, (Int.toNat_of_nonneg (by omega)).symm⟩
  simp only [Int.toNat_natCast]
  have hmul : M * W ≤ 1000 * 64 := Nat.mul_le_mul (by omega) (by omega)
  have hr := room_eq
  rw [show ((M : Int) * (W : Int)) = ((M * W : Nat) : Int) by push_cast; rfl, wrapI64 (by omega), f_bits_size_eq (by omega)]
  simp only [Option.bind_some]
  by_cases h5 : b.length = (M * W + 7) / 8
  rotate_left
  · rw [if_pos (by simp; omega), if_neg (by omega)]
  rw [if_neg (by simp; omega), if_pos (by refine ⟨by omega, by omega, ?_⟩; omega)]
  refine iter_run' (st := fun p => (numsTo b M W p, (p : Int))) (M * W) ?_ ?_ ?_ (by omega)
  · have : numsTo b M W 0 = List.replicate M 0 := by
      apply List.ext_getElem
      · simp [numsTo]
      · intro i q1 q2
        simp [numsTo, numTo]
    rw [this]; rfl
  · intro rec p hp
    have hW : 0 < W := by
      rcases Nat.eq_zero_or_pos W with h0 | h0
      · rw [h0] at hp; simp at hp
      · exact h0
    have hpW : p / W < M := (Nat.div_lt_iff_lt_mul hW).2 hp
    have hmW := Nat.mod_lt p hW
    dsimp only
    have e2 : ((p : Int)).tdiv (W : Int) = ((p / W : Nat) : Int) := tdiv_nat p W
    have e3 : ((p : Int)).tmod (W : Int) = ((p % W : Nat) : Int) := tmod_nat p W
    have e4 : ((p : Int)).tdiv (8 : Int) = ((p / 8 : Nat) : Int) := tdiv_nat p 8
    have e5 : ((p : Int)).tmod (8 : Int) = ((p % 8 : Nat) : Int) := tmod_nat p 8
    rw [if_pos (by simp; omega), if_neg (by omega), e2, e3, e4, e5, wrapI64 (x := p / W) (by omega), wrapI64 (x := p / 8) (by omega), atI_nat (by rw [numsTo_len]; exact hpW), atI_nat (by omega), if_neg (by omega), if_neg (by omega), if_neg (by omega), atI_nat (by rw [numsTo_len]; exact hpW)]
    simp only [Int.toNat_natCast]
    rw [wrap_succ (by omega)]
    congr 2
    rw [← numsTo_step hW hpW]
    congr 1
    obtain ⟨c, hc1, hc2, hc3⟩ := hb.get (i := p / 8) (by omega)
    have hbit : bitB b p = c / 2 ^ (p % 8) % 2 := by
      unfold bitB
      rw [hc1, Int.toNat_natCast]
    have h6 := shr_u8 c (p % 8) (by omega)
    rw [Int.toNat_natCast] at h6
    have h7 : bits .and .u8 ((c / 2 ^ (p % 8) : Nat) : Int) (1 : Int) = ((c / 2 ^ (p % 8) % 2 : Nat) : Int) := by
      have hq : c / 2 ^ (p % 8) ≤ c := Nat.div_le_self _ _
      have := bits_and8 (x := c / 2 ^ (p % 8)) (y := 1) (by omega) (by omega)
      rw [Nat.and_one_is_mod] at this
      exact this
    have h8 := shl_pow (c / 2 ^ (p % 8) % 2) (p % W) 64 (by omega)
    rw [Int.toNat_natCast] at h8
    have hp64 : 2 ^ (p % W) ≤ 2 ^ 63 := Nat.pow_le_pow_right (by omega) (by omega)
    have h9 : c / 2 ^ (p % 8) % 2 * 2 ^ (p % W) < 18446744073709551616 := by
      have : c / 2 ^ (p % 8) % 2 * 2 ^ (p % W) ≤ 1 * 2 ^ (p % W) := Nat.mul_le_mul_right _ (by omega)
      omega
    have hdm := Nat.div_add_mod p W
    rw [Nat.mul_comm] at hdm
    have h10 := numTo_lt (bitB_le b) (p / W * W) (p % W)
    rw [numsTo_get hpW, show min W (p - p / W * W) = p % W by omega, hc1, h6, h7, wrapU64 (x := c / 2 ^ (p % 8) % 2) (by omega), show IntKind.u64.bits = 64 from rfl, h8, wrapU64 h9, bits_or64 (by omega) h9, or_add h10, hbit]
  · intro rec
    dsimp only
    have hall : numsTo b M W (M * W) = bitsL b M W := by
      unfold numsTo bitsL
      apply List.map_congr_left
      intro i hi
      have hi' : i < M := by simpa using hi
      have : i * W + W ≤ M * W := by
        have := Nat.mul_le_mul_right W (show i + 1 ≤ M from hi')
        rwa [Nat.add_mul, Nat.one_mul] at this
      rw [show min W (M * W - i * W) = W by omega]
    rw [if_neg (by simp), hall, f_bits_Put_eq (bitsL_nums (by omega)) (by rw [bitsL_len]; omega) (by omega) (by rw [bitsL_len]; omega), if_pos ⟨by omega, bitsL_small⟩]
    simp only [Option.bind_some, f_bytes_Equal]
    by_cases h6 : bitsB (bitsL b M W) W = b
    · rw [if_neg (by simp [h6]), if_pos ⟨by omega, by omega, by omega, by omega, h5, h6⟩]
    · rw [if_pos (by simp [h6]), if_neg (fun h => h6 h.2.2.2.2.2)]

end Go.Rb.R4

namespace Go.Rb.R4
open Go.Rb

abbrev d0 : Vl := ((0:Int), (0:Int), [], ())

theorem f_value_May_eq (n : Nat) (v : Vl) : f_value_May n (v, ()) = some ((mayV v, ()), ()) := by
  obtain ⟨a, b, c, u⟩ := v
  unfold f_value_May mayV
  dsimp only
  by_cases h1 : a = 1
  · subst h1
    by_cases h2 : b < -32768
    · have : ¬ (-32768 ≤ b) := by omega
      simp [h2, this]
    · by_cases h3 : 32767 < b
      · have : ¬ (b ≤ 32767) := by omega
        simp [h2, h3, this]
      · have e1 : -32768 ≤ b := by omega
        have e2 : b ≤ 32767 := by omega
        simp [h2, h3, e1, e2]
  · by_cases h2 : a = 2
    · subst h2; simp
    · by_cases h3 : a = 0
      · subst h3
        by_cases h4 : b = 0 <;> simp [h4]
      · by_cases h4 : a = 3
        · subst h4
          by_cases h5 : b = 0
          · simp [h5]
          · by_cases h6 : b = 1 <;> simp [h5, h6]
        · by_cases h5 : a = 4
          · subst h5
            by_cases h6 : b = 0
            · have : ((c.length : Int) ≤ 20) ↔ c.length ≤ 20 := by omega
              simp [h6, this]
            · simp [h6]
          · simp [h1, h2, h3, h4, h5]

theorem f_dict_of_eq {n : Nat} {t : Int} {l : List Vl} (hn : l.length < n) (hc : l.length < 1000000) : f_dict_of n (t, l, ()) = some ((rightL t l, ()), ()) := by
  unfold f_dict_of rightL
  dsimp only
  by_cases h1 : t < 1
  · have : ¬ (1 ≤ t) := by omega
    simp [h1, this]
  by_cases h2 : 4 < t
  · have : ¬ (t ≤ 4) := by omega
    simp [h1, h2, this]
  rw [if_neg (by simpa using h1), if_neg (by simpa using h2), iter_allL l (rightV t) (some ((false, ()), ())) (some ((true, ()), ())) hn]
  · have e1 : 1 ≤ t := by omega
    have e2 : t ≤ 4 := by omega
    cases l.all (rightV t) <;> simp [e1, e2]
  · intro rec i hi
    rw [if_pos (by simp; omega), atI_nat hi, Int.toNat_natCast, getD_lt' hi, f_value_May_eq, wrap_succ (by omega)]
    simp only [Option.bind_some]
    unfold rightV
    by_cases h3 : l[i].1 = t
    · cases mayV l[i] <;> simp [h3]
    · simp [h3]
  · intro rec
    simp

theorem f_dict_one_eq {n : Nat} {b : List Int} {t : Int} {v : Vl} (h : rightV t v = true) (hv : okV v) (hb : b.length < 1000000) (hn : 10 ≤ n) : f_dict_one n (b, v, ()) = some ((b ++ oneV v, ()), ()) := by
  obtain ⟨h1, h2⟩ := rightV_spec h
  have hr := room_eq
  unfold f_dict_one oneV
  dsimp only
  by_cases h3 : v.1 = 3
  · rw [if_pos (by simpa using h3), if_pos (by simp; omega), if_pos h3]
    rw [wrap_u8 (by rcases h2 with h2 | h2 | h2 | h2 | h2 <;> omega) (by rcases h2 with h2 | h2 | h2 | h2 | h2 <;> omega)]
  · rw [if_neg (by simpa using h3), if_neg h3]
    by_cases h4 : v.1 = 4
    · have hl : v.2.2.1.length ≤ 20 := by omega
      rw [if_pos (by simpa using h4), if_pos (by simp; omega), if_pos (by simp; omega), if_pos h4, wrap_u8 (by omega) (by omega)]
      simp
    · have h5 := putN_le10 (zig_lt hv.2.1.1 hv.2.1.2)
      rw [if_neg (by simpa using h4), if_neg h4, f_num_Zig_eq hv.2.1.1 hv.2.1.2]
      simp only [Option.bind_some]
      rw [f_num_Put_eq (zig_lt hv.2.1.1 hv.2.1.2) hn]
      simp only [Option.bind_some]
      rw [if_pos (by omega)]

theorem f_value_Compare_eq {n : Nat} {t : Int} {x y : Vl} (ht : t ≠ 0) (hx : rightV t x = true) (hy : rightV t y = true) : f_value_Compare n (x, y, ()) = some ((cmpR t x y, ()), ()) := by
  have a := (rightV_spec hx).1
  have b := (rightV_spec hy).1
  unfold f_value_Compare f_value_rank f_cmp_Compare_int f_cmp_Compare_int64 f_cmp_isNaN_int f_cmp_isNaN_int64 f_strings_Compare f_bytealg_CompareString csF cmpR
  dsimp only
  rw [a, b]
  by_cases h4 : t = 4
  · subst h4
    simp
  · unfold cmpZ
    simp only [ht, h4, decide_false, Bool.false_eq_true, if_false, Option.bind_some, decide_true, Bool.not_true]
    by_cases h1 : x.2.1 < y.2.1
    · simp [h1]
    · by_cases h2 : y.2.1 < x.2.1 <;> simp [h1, h2]

theorem f_search_eq {n : Nat} {t : Int} {d : List Vl} {v : Vl} (ht : t ≠ 0) (hd : ∀ x, x ∈ d → rightV t x = true) (hr : Rising (ltV t) d) (hv : v ∈ d) (hl : d.length < 1000000) (hn : d.length + 1 < n) :
    f_slices_BinarySearchFunc_Lapi_Value_api_Value_api_Value n (d, v, (fun c d => (f_value_Compare n (c, d, ())).bind fun r => some r.1.1), ()) = some ((((posS d v : Nat) : Int), true, ()), ()) := by
  have hp := posS_lt hv
  have hg := posS_get hv
  unfold f_slices_BinarySearchFunc_Lapi_Value_api_Value_api_Value
  dsimp only
  refine (iter_rec (I := fun k (s : Int × Int) => ∃ i j : Nat, s = ((i : Int), (j : Int)) ∧ i ≤ posS d v ∧ posS d v ≤ j ∧ j ≤ d.length ∧ j - i ≤ k)
    (res := fun _ => some ((((posS d v : Nat) : Int), true, ()), ())) ?_ n d.length _ ⟨0, d.length, rfl, by omega, by omega, by omega, by omega⟩ (by omega))
  rintro k _ rec ⟨i, j, rfl, h1, h2, h3, h4⟩ hrec
  dsimp only
  by_cases h5 : i < j
  · have e1 : IntKind.i64.wrap ((IntKind.u64.wrap (IntKind.i64.wrap ((i : Int) + (j : Int)))).fdiv (2 ^ min (1:Int).toNat IntKind.u64.bits)) = (((i + j) / 2 : Nat) : Int) := by
      rw [show ((i : Int) + (j : Int)) = ((i + j : Nat) : Int) by omega, wrapI64 (by omega), wrapU64 (by omega)]
      have := shr_u64 (i + j) 1 (by omega)
      rw [show ((1 : Int)) = ((1 : Nat) : Int) from rfl, this, wrapI64 (by omega)]
    have hm : (i + j) / 2 < d.length := by omega
    rw [if_pos (by simp; omega), e1, atI_nat hm, Int.toNat_natCast, getD_lt' hm, f_value_Compare_eq ht (hd _ (List.getElem_mem hm)) (hd v hv)]
    simp only [Option.bind_some]
    have hless := posS_less (ltV_lin t) hd hr hv hm
    by_cases h6 : (i + j) / 2 < posS d v
    · have := cmpR_lt.2 (hless.2 h6)
      rw [if_pos (by simpa using this), wrap_succ (by omega)]
      exact hrec (j - ((i + j) / 2 + 1)) _ (by omega) ⟨_, _, rfl, by omega, by omega, by omega, by omega⟩
    · have : ¬ cmpR t d[(i + j) / 2] v < 0 := fun h => h6 (hless.1 (cmpR_lt.1 h))
      rw [if_neg (by simpa using this)]
      exact hrec ((i + j) / 2 - i) _ (by omega) ⟨_, _, rfl, by omega, by omega, by omega, by omega⟩
  · obtain rfl : i = posS d v := by omega
    rw [if_neg (by simp; omega), if_pos (by simp; omega), atI_nat hp, Int.toNat_natCast, getD_lt' hp, hg, f_value_Compare_eq ht (hd v hv) (hd v hv)]
    simp only [Option.bind_some]
    rw [(cmpR_eq (hd v hv) (hd v hv)).2 rfl]
    rfl

theorem f_dict_width_eq {n m : Nat} (hm : m < 1000000) (hn : 2 < n) : f_dict_width n ((m : Int), ()) = some ((((blen (m - 1) : Nat) : Int), ()), ()) := by
  unfold f_dict_width
  dsimp only
  have e : IntKind.u64.wrap (if (0:Int) ≤ (IntKind.i64.wrap ((m : Int) - (1:Int))) then (IntKind.i64.wrap ((m : Int) - (1:Int))) else (0:Int)) = ((m - 1 : Nat) : Int) := by
    rw [wrap_i64 (x := (m : Int) - 1) (by omega) (by omega)]
    split
    · rw [show ((m : Int) - 1) = ((m - 1 : Nat) : Int) by omega, wrapU64 (by omega)]
    · have : m = 0 := by omega
      subst this
      rfl
  rw [e, f_bits_Width_eq (by intro x hx; simp at hx; subst hx; omega) (by simp; omega) (by simp)]
  simp [widthL]

theorem f_dict_Put_eq {n : Nat} {t : Int} {l : List Vl} (hv : ∀ v, v ∈ l → okV v) (hl : l.length ≤ 1000) (hn : 2000 ≤ n) :
    f_dict_Put n (t, l, ()) = some (if rightL t l = true then (dictB t l, true, ()) else ([], false, ()), ()) := by
  unfold f_dict_Put
  dsimp only
  rw [f_dict_of_eq (by omega) (by omega)]
  simp only [Option.bind_some]
  cases h : rightL t l with
  | false => rfl
  | true =>
    obtain ⟨ht1, ht4, hr⟩ := rightL_all h
    have hR := dist_right h hv
    have hdl := dist_len (ltV t) l
    have hro := room_eq
    simp only [Bool.not_true, Bool.false_eq_true, if_false, if_true]
    unfold f_slices_Clone_Lapi_Value_api_Value f_slices_SortFunc_Lapi_Value_api_Value f_slices_Compact_Lapi_Value_api_Value sortF compF
    dsimp only
    simp only [Option.bind_some]
    have hcs := comp_sort (t := t) (by omega) (fun x hx => ⟨hr x hx, hv x hx⟩)
    have hcs' : compL (Ty.st (.pair tI (.pair tI (.pair .str .unit)))) (Sort.pdq (Go.Proofs.ltOf cfV) l.toArray 0 l.length (Lib.bitLen l.length) true true).toList = distV t l := hcs
    rw [hcs']
    obtain ⟨D, hD⟩ : ∃ D, distV t l = D := ⟨_, rfl⟩
    have hDl : D.length ≤ l.length := by rw [← hD]; exact hdl
    have hDr : ∀ v, v ∈ D → rightV t v = true ∧ okV v := by rw [← hD]; exact hR
    have hDri : Rising (ltV t) D := by rw [← hD]; exact dist_rising (ltV_lin t) hr
    have hDm : ∀ v, v ∈ l → v ∈ D := fun v hm => by rw [← hD]; exact (dist_mem (ltV_lin t) hr v).2 hm
    have hfl := flatMap_one_len hDr
    rw [hD, wrapU64 (by omega), f_num_Put_eq (by omega) (by omega)]
    simp only [Option.bind_some]
    have hp10 := putN_le10 (v := D.length) (by omega)
    refine iter_run' (st := fun i => (putN D.length ++ (D.take i).flatMap oneV, (i : Int))) D.length (by simp) ?_ ?_ (by omega)
    · intro rec i hi
      dsimp only
      have hlen := flatMap_one_len (d := D.take i) fun v hv => hDr v (List.mem_of_mem_take hv)
      have hti : (D.take i).length ≤ D.length := by simp; omega
      rw [if_pos (by simp; omega), atI_nat hi, Int.toNat_natCast, getD_lt' hi, f_dict_one_eq (hDr _ (List.getElem_mem hi)).1 (hDr _ (List.getElem_mem hi)).2 (by simp only [List.length_append]; omega) (by omega)]
      simp only [Option.bind_some]
      rw [wrap_succ (by omega), flatMap_take _ hi, List.append_assoc]
    · intro rec
      dsimp only
      rw [if_neg (by simp)]
      refine iter_run' (st := fun i => ((l.take i).map (fun v => ((posS D v : Nat) : Int)), (i : Int))) l.length (by simp) ?_ ?_ (by omega)
      · intro rec2 i hi
        dsimp only
        rw [if_pos (by simp; omega), atI_nat hi, Int.toNat_natCast, getD_lt' hi, f_search_eq (by omega) (fun x hx => (hDr x hx).1) hDri (hDm _ (List.getElem_mem hi)) (by omega) (by omega)]
        simp only [Option.bind_some]
        have := posS_lt (hDm _ (List.getElem_mem hi))
        rw [wrapU64 (by omega), if_pos (by simp; omega), wrap_succ (by omega), map_take _ hi]
      · intro rec2
        dsimp only
        rw [if_neg (by simp), f_dict_width_eq (by omega) (by omega)]
        simp only [Option.bind_some]
        have hpl : (l.take l.length).map (fun v => ((posS D v : Nat) : Int)) = placesV t l := by
          unfold placesV
          rw [hD, List.take_length]
        have hb10 : blen (D.length - 1) ≤ 10 := blen_small (by omega)
        have hsm := places_small h
        rw [hD] at hsm
        rw [hpl, f_bits_Put_eq (fun x hx => by have := places_lt h x hx; rw [hD] at this; omega) (by rw [places_len]; omega) (by omega) (by rw [places_len]; omega), if_pos ⟨by omega, widthL_le.2 fun x hx => (hsm x hx).2⟩]
        simp only [Option.bind_some]
        have hmul : l.length * blen (D.length - 1) ≤ 1000 * 10 := Nat.mul_le_mul hl hb10
        have ht : D.take D.length = D := List.take_length
        rw [ht, if_pos (by simp only [List.length_append, bitsB_len, places_len]; omega)]
        unfold dictB
        rw [hD, List.append_assoc]

end Go.Rb.R4

namespace Go.Rb.R4
open Go.Rb

def errD (msg : List Int) : UV := UV.node t_dict_wrap (.pair (.str msg) (.pair (UV.sent g_dict_errForm) .unit))

def FirstP (t : Int) (b : List Int) (y : (Vl × Int × UV × Unit) × Unit) : Prop :=
  match firstV t b with
  | some (v, k) => y = ((v, (k : Int), UV.nil, ()), ())
  | none => ∃ v msg, y = ((v, (0 : Int), errD msg, ()), ())

theorem f_dict_first_post {n : Nat} {t : Int} {b : List Int} (hb : Bytes b) (hl : b.length < 1000000) (hn : 11 ≤ n) : Gets (f_dict_first n (t, b, ())) (FirstP t b) := by
  unfold f_dict_first
  refine Gets.join (I := fun s => s = (t, (0:Int), ([] : List Int), ()) ∧ t = 4 ∧ b ≠ []) ?_ ?_
  · rintro _ ⟨rfl, rfl, hne⟩
    dsimp only
    cases b with
    | nil => exact absurd rfl hne
    | cons c l =>
      have hc := hb c (by simp)
      have e0 : (c :: l).getD ((0:Int)).toNat (0:Int) = c := rfl
      refine Gets.atI (by omega) (by simp) ?_
      rw [e0, wrap_i64 (x := c) (by omega) (by omega), wrap_i64 (by omega) (by omega)]
      have e1 : (1 + c).toNat = 1 + c.toNat := by omega
      by_cases h : 1 + c.toNat ≤ (c :: l).length
      · rw [if_neg (by simp at h ⊢; omega), if_pos (by simp at h ⊢; omega)]
        refine Gets.some ?_
        unfold FirstP firstV
        rw [if_neg (by simp)]
        dsimp only
        rw [if_neg (by decide), if_pos h, e1]
        dsimp only
        rw [show (1 + c) = ((1 + c.toNat : Nat) : Int) by omega]
        rfl
      · rw [if_pos (by simp at h ⊢; omega)]
        refine Gets.some ?_
        unfold FirstP firstV
        rw [if_neg (by simp)]
        dsimp only
        rw [if_neg (by decide), if_neg h]
        exact ⟨_, _, rfl⟩
  · intro J hJ
    dsimp only
    have two : (t = 3 ∨ t = 4) → Gets (if (decide ((b.length : Int) = (0:Int))) = true then (some (((t, (0:Int), ([] : List Int), ()), (0:Int), (UV.node t_dict_wrap (.pair (.str [110, 111, 32, 98, 121, 116, 101]) (.pair (UV.sent g_dict_errForm) .unit))), ()), ())) else (if (decide (t = (3:Int))) = true then (atI (0:Int) b.length (some (((t, (IntKind.i64.wrap (b.getD (0:Int).toNat (0:Int))), ([] : List Int), ()), (1:Int), UV.nil, ()), ()))) else (J (t, (0:Int), ([] : List Int), ())))) (FirstP t b) := by
      intro ht
      cases b with
      | nil =>
        rw [if_pos (by simp)]
        refine Gets.some ?_
        unfold FirstP firstV
        rw [if_neg (by omega)]
        exact ⟨_, _, rfl⟩
      | cons c l =>
        have hc := hb c (by simp)
        rw [if_neg (by simp; omega)]
        by_cases h3 : t = 3
        · rw [if_pos (by simpa using h3)]
          refine Gets.atI (by omega) (by simp) (Gets.some ?_)
          unfold FirstP firstV
          rw [if_neg (by omega)]
          dsimp only
          rw [if_pos h3, show (c :: l).getD ((0:Int)).toNat (0:Int) = c from rfl, wrap_i64 (by omega) (by omega)]
          rfl
        · rw [if_neg (by simpa using h3)]
          exact hJ _ ⟨rfl, by omega, by simp⟩
    by_cases h3 : t = 3
    · rw [if_neg (by simp [h3])]
      exact two (.inl h3)
    · rw [if_pos (by simp [h3])]
      by_cases h4 : t = 4
      · rw [if_neg (by simp [h4])]
        exact two (.inr h4)
      · rw [if_pos (by simp [h4]), f_num_Take_eq hb hl hn]
        simp only [Option.bind_some]
        have hfv : firstV t b = (match takeN b with | some (u, k) => some ((t, zag u, [], ()), k) | none => none) := by
          unfold firstV
          rw [if_pos ⟨h3, h4⟩]
          rfl
        unfold FirstP
        rw [hfv]
        cases htk : takeN b with
        | none =>
          dsimp only
          rw [if_pos (by simp)]
          exact Gets.some ⟨_, _, rfl⟩
        | some r =>
          obtain ⟨u, k⟩ := r
          dsimp only
          rw [if_neg (by simp), f_num_Zag_eq (takeN_some hb htk).1]
          exact Gets.some rfl

/-- What was taken is just what the bytes are of. -/
def Good (t m : Int) (b : List Int) (l : List Vl) : Prop := 0 ≤ m ∧ m ≤ 1000 ∧ (l.length : Int) = m ∧ rightL t l = true ∧ (∀ v, v ∈ l → okV v) ∧ dictB t l = b

def ReadP (t m : Int) (b : List Int) (y : (List Vl × UV × Unit) × Unit) : Prop := (∃ l, y = ((l, UV.nil, ()), ()) ∧ Good t m b l) ∨ ∃ msg, y = (([], errD msg, ()), ())

theorem Bytes.drop {b : List Int} (h : Bytes b) (k : Nat) : Bytes (b.drop k) := fun x hx => h x (List.mem_of_mem_drop hx)

theorem f_dict_read_post {n : Nat} {t m : Int} {b : List Int} (ht : -9223372036854775808 ≤ t ∧ t ≤ 9223372036854775807) (hb : Bytes b) (hl : b.length < 1000000) (hn : 70000 ≤ n) :
    Gets (f_dict_read n (t, m, b, ())) (ReadP t m b) := by
  have hro := room_eq
  have bad : ∀ msg, Gets (some ((([] : List Vl), errD msg, ()), ())) (ReadP t m b) := fun msg => Gets.some (.inr ⟨msg, rfl⟩)
  unfold f_dict_read
  dsimp only
  rw [f_num_Take_eq hb hl (by omega)]
  simp only [Option.bind_some]
  by_cases h1 : m < 0
  · rw [if_pos (by simpa using h1)]; exact bad _
  rw [if_neg (by simpa using h1)]
  by_cases h2 : 1000 < m
  · rw [if_pos (by simpa using h2)]; exact bad _
  rw [if_neg (by simpa using h2)]
  obtain ⟨M, rfl⟩ : ∃ M : Nat, m = (M : Int) := ⟨_, (Int.toNat_of_nonneg (by omega)).symm⟩
  cases htk : takeN b with
  | none =>
    dsimp only
    rw [if_pos (by simp)]; exact bad _
  | some r =>
    obtain ⟨u, k⟩ := r
    have hT := takeN_some hb htk
    dsimp only
    rw [if_neg (by simp), wrapU64 (by omega)]
    by_cases h3 : M < u
    · rw [if_pos (by simp; omega)]; exact bad _
    rw [if_neg (by simp; omega), if_pos (by omega)]
    refine Gets.iter (I := fun s : List Vl × List Int × List Vl × Int => ∃ (rest : List Int) (all : List Vl), s = ([], rest, all, (all.length : Int)) ∧ Bytes rest ∧ rest.length < 1000000 ∧ all.length ≤ u ∧ ∀ v, v ∈ all → okV v)
      (μ := fun s => u - s.2.2.1.length) ⟨_, [], rfl, ?_, ?_, by simp, by simp⟩ (by simp; omega) ?_
    · simp only [Int.toNat_natCast, List.take_length]; exact hb.drop _
    · simp only [Int.toNat_natCast, List.take_length, List.length_drop]; omega
    rintro rec _ ⟨rest, all, rfl, g1, g2, g3, g4⟩ hrec
    dsimp only
    by_cases h4 : all.length < u
    · rw [if_pos (by simp; omega)]
      refine Gets.bind (f_dict_first_post (n := n) (t := t) g1 g2 (by omega)) fun y hy => ?_
      unfold FirstP at hy
      cases hf : firstV t rest with
      | none =>
        rw [hf] at hy
        obtain ⟨v, msg, rfl⟩ := hy
        dsimp only
        rw [if_pos (by simp [errD])]; exact bad _
      | some r =>
        obtain ⟨v, k'⟩ := r
        rw [hf] at hy
        subst hy
        obtain ⟨q1, q2, q3, q4⟩ := firstV_ok ht g1 hf
        dsimp only
        rw [if_neg (by simp), if_pos (by simp; omega), if_pos (by omega)]
        refine hrec _ ⟨List.drop ((k' : Nat) : Int).toNat (List.take ((rest.length : Nat) : Int).toNat rest), all ++ [v], ?_, ?_, ?_, by simp; omega, ?_⟩ (by simp; omega)
        · rw [show IntKind.u64.wrap ((all.length : Int) + 1) = (((all ++ [v]).length : Nat) : Int) by simp; rw [wrap_u64 (by omega) (by omega)]]
        · simp only [Int.toNat_natCast, List.take_length]; exact g1.drop _
        · simp only [Int.toNat_natCast, List.take_length, List.length_drop]; omega
        · intro x hx
          rcases List.mem_append.1 hx with hx | hx
          · exact g4 x hx
          · simp at hx; subst hx; exact q1
    · rw [if_neg (by simp; omega), f_dict_width_eq (by omega) (by omega)]
      simp only [Option.bind_some]
      rw [f_bits_Take_eq g1 g2 (by omega)]
      simp only [Option.bind_some]
      have hal : all.length = u := by omega
      unfold takeB
      split
      · rename_i hok
        dsimp only
        rw [if_neg (by simp)]
        have hnum := bitsL_nums (b := rest) (n := ((M : Int)).toNat) (w := (((blen (all.length - 1) : Nat) : Int)).toNat) (by omega)
        have hplen := bitsL_len rest ((M : Int)).toNat (((blen (all.length - 1) : Nat) : Int)).toNat
        generalize bitsL rest ((M : Int)).toNat (((blen (all.length - 1) : Nat) : Int)).toNat = places at hnum hplen ⊢
        rw [Int.toNat_natCast] at hplen
        refine Gets.iter (I := fun s : List Vl × Int => s.2 = (s.1.length : Int) ∧ s.1.length ≤ places.length ∧ ∀ v, v ∈ s.1 → okV v) (μ := fun s => places.length - s.1.length) ⟨by simp, by simp, by simp⟩ (by simp; omega) ?_
        rintro rec2 ⟨l, i⟩ ⟨k1, k2, k3⟩ hrec2
        dsimp only at k1 k2 k3
        subst k1
        dsimp only
        by_cases h5 : l.length < places.length
        · have hx := hnum _ (List.getElem_mem h5)
          rw [if_pos (by simp; omega), atI_nat h5, Int.toNat_natCast, getD_lt' h5]
          obtain ⟨p, hp⟩ : ∃ p : Nat, places[l.length] = (p : Int) := ⟨_, (Int.toNat_of_nonneg hx.1).symm⟩
          rw [hp]
          by_cases h6 : u ≤ p
          · rw [if_pos (by simp; omega)]; exact bad _
          · have hpl : p < all.length := by omega
            rw [if_neg (by simp; omega), atI_nat hpl, Int.toNat_natCast, getD_lt' hpl, if_pos (by simp; omega), wrap_succ (by omega)]
            refine hrec2 _ ⟨by simp, by simp; omega, fun x hx => ?_⟩ (by simp; omega)
            rcases List.mem_append.1 hx with hx | hx
            · exact k3 x hx
            · simp at hx; subst hx; exact g4 _ (List.getElem_mem hpl)
        · rw [if_neg (by simp; omega)]
          
          rw [f_dict_Put_eq k3 (by omega) (by omega)]
          
          simp only [Option.bind_some]
          cases hright : rightL t l with
          | false =>
            rw [if_neg Bool.false_ne_true]
            dsimp only
            rw [if_pos (by simp)]; exact bad _
          | true =>
            rw [if_pos rfl]
            dsimp only
            rw [if_neg (by simp)]
            unfold f_bytes_Equal
            simp only [Option.bind_some]
            by_cases h7 : dictB t l = b
            · rw [if_neg (by simp [h7])]
              exact Gets.some (.inl ⟨l, rfl, by omega, by omega, by omega, hright, k3, h7⟩)
            · rw [if_pos (by simp [h7])]; exact bad _
      · dsimp only
        rw [if_pos (by simp)]; exact bad _

/-- Just those bytes are read. -/
theorem f_dict_read_back {n : Nat} {t : Int} {l : List Vl} (hv : ∀ v, v ∈ l → okV v) (hr : rightL t l = true) (hl : l.length ≤ 1000) (hn : 70000 ≤ n) :
    f_dict_read n (t, (l.length : Int), dictB t l, ()) = some ((l, UV.nil, ()), ()) := by
  have hro := room_eq
  obtain ⟨ht1, ht4, hrr⟩ := rightL_all hr
  have hb := dictB_in hr hv
  have hbl := dictB_len hr hv hl
  have hdl := dist_len (ltV t) l
  have hR := dist_right hr hv
  have hsm := places_small hr
  have hplt := places_lt hr
  have hback := places_back hr
  obtain ⟨b, hbd⟩ : ∃ b, dictB t l = b := ⟨_, rfl⟩
  rw [hbd] at hb hbl ⊢
  have hbd' := hbd
  unfold dictB at hbd'
  obtain ⟨D, hD⟩ : ∃ D, distV t l = D := ⟨_, rfl⟩
  rw [hD] at hbd' hR hsm hplt hback
  have hDl : D.length ≤ l.length := by rw [← hD]; exact hdl
  have htk : takeN b = some (D.length, (putN D.length).length) := by rw [← hbd']; exact takeN_put _ _ (by omega)
  have hdrop : b.drop (putN D.length).length = D.flatMap oneV ++ bitsB (placesV t l) (blen (D.length - 1)) := by rw [← hbd']; simp
  have hb10 : blen (D.length - 1) ≤ 10 := blen_small (by omega)
  have hmul : l.length * blen (D.length - 1) ≤ 1000 * 10 := Nat.mul_le_mul hl hb10
  have hkl := (takeN_some hb htk).2.1
  have hfl := flatMap_one_len hR
  have hbits : Bytes (bitsB (placesV t l) (blen (D.length - 1))) := bytesTo_in (bitL_le _ _)
  unfold f_dict_read
  dsimp only
  rw [f_num_Take_eq hb (by omega) (by omega), htk]
  simp only [Option.bind_some]
  rw [if_neg (by simp), if_neg (by simp; omega), if_neg (by simp), wrapU64 (by omega), if_neg (by simp; omega), if_pos (by omega)]
  refine iter_run' (st := fun i => (([] : List Vl), (D.drop i).flatMap oneV ++ bitsB (placesV t l) (blen (D.length - 1)), D.take i, (i : Int))) D.length ?_ ?_ ?_ (by omega)
  · simp only [Int.toNat_natCast, List.take_length, hdrop]; simp
  · intro rec i hi
    have hsub : ∀ v, v ∈ D.drop i → rightV t v = true ∧ okV v := fun v hm => hR v (List.mem_of_mem_drop hm)
    have hfl2 := flatMap_one_len hsub
    have hrest : Bytes ((D.drop i).flatMap oneV ++ bitsB (placesV t l) (blen (D.length - 1))) := by
      intro x hx
      rcases List.mem_append.1 hx with hx | hx
      · exact flatMap_one_in hsub x hx
      · exact hbits x hx
    have hlen : ((D.drop i).flatMap oneV ++ bitsB (placesV t l) (blen (D.length - 1))).length < 1000000 := by
      simp only [List.length_append, bitsB_len, places_len]
      simp only [List.length_drop] at hfl2
      omega
    have hdi : D.drop i = D[i] :: D.drop (i + 1) := List.drop_eq_getElem_cons hi
    have hRi := hR _ (List.getElem_mem hi)
    have hfst := firstV_one hRi.1 hRi.2 ((D.drop (i + 1)).flatMap oneV ++ bitsB (placesV t l) (blen (D.length - 1)))
    obtain ⟨y, hy1, hy2⟩ := f_dict_first_post (n := n) (t := t) hrest hlen (by omega)
    dsimp only
    rw [if_pos (by simp; omega), hy1]
    rw [hdi] at hy2 hlen ⊢
    rw [List.flatMap_cons, List.append_assoc] at hy2 hlen ⊢
    unfold FirstP at hy2
    rw [hfst] at hy2
    subst hy2
    simp only [Option.bind_some]
    rw [if_neg (by simp), if_pos (by simp; omega), if_pos (by refine ⟨by omega, ?_⟩; simp only [List.length_append]; omega), wrap_u64 (by omega) (by omega)]
    simp only [Int.toNat_natCast, List.take_length, List.drop_left, List.take_succ_eq_append_getElem hi]
    rfl
  · intro rec
    dsimp only
    rw [if_neg (by simp), List.drop_length, List.flatMap_nil, List.nil_append, List.take_length, f_dict_width_eq (by omega) (by omega)]
    simp only [Option.bind_some]
    rw [f_bits_Take_eq hbits (by rw [bitsB_len, places_len]; omega) (by omega)]
    simp only [Option.bind_some]
    have hbb : bitsL (bitsB (placesV t l) (blen (D.length - 1))) l.length (blen (D.length - 1)) = placesV t l := by
      have := bitsL_bitsB (l := placesV t l) (w := blen (D.length - 1)) hsm
      rwa [places_len] at this
    unfold takeB
    split
    rotate_left
    · rename_i hno
      exfalso
      apply hno
      simp only [Int.toNat_natCast, hbb]
      exact ⟨by omega, by omega, by omega, by omega, by rw [bitsB_len, places_len], trivial⟩
    simp only [Int.toNat_natCast, hbb]
    rw [if_neg (by simp)]
    refine iter_run' (st := fun i => (((placesV t l).take i).map (fun p => D.getD p.toNat d0), (i : Int))) (placesV t l).length (by simp) ?_ ?_ (by rw [places_len]; omega)
    · intro rec2 i hi
      have hx := hplt _ (List.getElem_mem hi)
      have hil : i < l.length := by rw [places_len] at hi; exact hi
      dsimp only
      obtain ⟨p, hp⟩ : ∃ p : Nat, (placesV t l)[i] = (p : Int) := ⟨_, (Int.toNat_of_nonneg hx.1).symm⟩
      have hpl : p < D.length := by rw [hp, Int.toNat_natCast] at hx; exact hx.2
      rw [if_pos (by simp; omega), atI_nat hi, Int.toNat_natCast, getD_lt' hi, hp, if_neg (by simp; omega), atI_nat hpl, Int.toNat_natCast, if_pos (by simp; omega), wrap_succ (by omega), map_take _ hi, hp, Int.toNat_natCast]
    · intro rec2
      dsimp only
      rw [if_neg (by simp), List.take_length, hback]
      
      rw [f_dict_Put_eq hv hl (by omega), if_pos hr]
      
      simp only [Option.bind_some]
      rw [if_neg (by simp), hbd]
      unfold f_bytes_Equal
      simp

/-- What taking tells. -/
theorem f_dict_Take_post {n : Nat} {t m : Int} {b : List Int} (ht : -9223372036854775808 ≤ t ∧ t ≤ 9223372036854775807) (hb : Bytes b) (hl : b.length < 1000000) (hn : 70000 ≤ n) :
    Gets (f_dict_Take n (t, m, b, ())) fun y => (∃ l, y = ((l, true, ()), ()) ∧ Good t m b l) ∨ (y = (([], false, ()), ()) ∧ ∀ l, ¬ Good t m b l) := by
  unfold f_dict_Take f_errors_Is
  dsimp only
  obtain ⟨y, h1, h2⟩ := f_dict_read_post (m := m) ht hb hl hn
  rw [h1]
  simp only [Option.bind_some]
  rcases h2 with ⟨l, rfl, hg⟩ | ⟨msg, rfl⟩
  · exact Gets.some (.inl ⟨l, rfl, hg⟩)
  · refine Gets.some (.inr ⟨rfl, fun l hg => ?_⟩)
    obtain ⟨g1, g2, g3, g4, g5, g6⟩ := hg
    have := f_dict_read_back (n := n) g5 g4 (by omega) hn
    rw [g6, g3, h1] at this
    simp [errD] at this

end Go.Rb.R4

namespace Go.Rb.R4
open Go.Rb

theorem eqVl (x y : Vl) : ((decide (x.1 = y.1)) && ((decide (x.2.1 = y.2.1)) && (decide (x.2.2.1 = y.2.2.1)))) = decide (x = y) := by
  obtain ⟨a, b, c, u⟩ := x
  obtain ⟨a', b', c', u'⟩ := y
  by_cases h1 : a = a' <;> by_cases h2 : b = b' <;> by_cases h3 : c = c' <;> simp [h1, h2, h3]

theorem f_plain_of_eq {n : Nat} {t : Int} {l : List Vl} (hn : l.length < n) (hc : l.length < 1000000) : f_plain_of n (t, l, ()) = some ((rightL t l, ()), ()) := by
  unfold f_plain_of rightL
  dsimp only
  by_cases h1 : t < 1
  · have : ¬ (1 ≤ t) := by omega
    simp [h1, this]
  by_cases h2 : 4 < t
  · have : ¬ (t ≤ 4) := by omega
    simp [h1, h2, this]
  rw [if_neg (by simpa using h1), if_neg (by simpa using h2), iter_allL l (rightV t) (some ((false, ()), ())) (some ((true, ()), ())) hn]
  · have e1 : 1 ≤ t := by omega
    have e2 : t ≤ 4 := by omega
    cases l.all (rightV t) <;> simp [e1, e2]
  · intro rec i hi
    rw [if_pos (by simp <;> omega), atI_nat hi, Int.toNat_natCast, getD_lt' hi, f_value_May_eq, wrap_succ (by omega)]
    simp only [Option.bind_some]
    unfold rightV
    by_cases h3 : l[i].1 = t
    · cases mayV l[i] <;> simp [h3]
    · simp [h3]
  · intro rec
    simp

theorem f_plain_one_eq {n : Nat} {b : List Int} {t : Int} {v : Vl} (h : rightV t v = true) (hv : okV v) (hb : b.length < 1000000) (hn : 10 ≤ n) : f_plain_one n (b, v, ()) = some ((b ++ oneV v, ()), ()) := by
  obtain ⟨h1, h2⟩ := rightV_spec h
  have hr := room_eq
  unfold f_plain_one oneV
  dsimp only
  by_cases h3 : v.1 = 3
  · rw [if_pos (by simpa using h3), if_pos (by simp <;> omega), if_pos h3]
    rw [wrap_u8 (by rcases h2 with h2 | h2 | h2 | h2 | h2 <;> omega) (by rcases h2 with h2 | h2 | h2 | h2 | h2 <;> omega)]
  · rw [if_neg (by simpa using h3), if_neg h3]
    by_cases h4 : v.1 = 4
    · have hl : v.2.2.1.length ≤ 20 := by omega
      rw [if_pos (by simpa using h4), if_pos (by simp <;> omega), if_pos (by simp <;> omega), if_pos h4, wrap_u8 (by omega) (by omega)]
      simp
    · have h5 := putN_le10 (zig_lt hv.2.1.1 hv.2.1.2)
      rw [if_neg (by simpa using h4), if_neg h4, f_num_Zig_eq hv.2.1.1 hv.2.1.2]
      simp only [Option.bind_some]
      rw [f_num_Put_eq (zig_lt hv.2.1.1 hv.2.1.2) hn]
      simp only [Option.bind_some]
      rw [if_pos (by omega)]

def errA (msg : List Int) : UV := UV.node t_plain_wrap (.pair (.str msg) (.pair (UV.sent g_plain_errForm) .unit))

def FirstPA (t : Int) (b : List Int) (y : (Vl × Int × UV × Unit) × Unit) : Prop :=
  match firstV t b with
  | some (v, k) => y = ((v, (k : Int), UV.nil, ()), ())
  | none => ∃ v msg, y = ((v, (0 : Int), errA msg, ()), ())

theorem f_plain_first_post {n : Nat} {t : Int} {b : List Int} (hb : Bytes b) (hl : b.length < 1000000) (hn : 11 ≤ n) : Gets (f_plain_first n (t, b, ())) (FirstPA t b) := by
  unfold f_plain_first
  refine Gets.join (I := fun s => s = (t, (0:Int), ([] : List Int), ()) ∧ t = 4 ∧ b ≠ []) ?_ ?_
  · rintro _ ⟨rfl, rfl, hne⟩
    dsimp only
    cases b with
    | nil => exact absurd rfl hne
    | cons c l =>
      have hc := hb c (by simp)
      have e0 : (c :: l).getD ((0:Int)).toNat (0:Int) = c := rfl
      refine Gets.atI (by omega) (by simp) ?_
      rw [e0, wrap_i64 (x := c) (by omega) (by omega), wrap_i64 (by omega) (by omega)]
      have e1 : (1 + c).toNat = 1 + c.toNat := by omega
      by_cases h : 1 + c.toNat ≤ (c :: l).length
      · rw [if_neg (by simp at h ⊢; omega), if_pos (by simp at h ⊢; omega)]
        refine Gets.some ?_
        unfold FirstPA firstV
        rw [if_neg (by simp)]
        dsimp only
        rw [if_neg (by decide), if_pos h, e1]
        dsimp only
        rw [show (1 + c) = ((1 + c.toNat : Nat) : Int) by omega]
        rfl
      · rw [if_pos (by simp at h ⊢; omega)]
        refine Gets.some ?_
        unfold FirstPA firstV
        rw [if_neg (by simp)]
        dsimp only
        rw [if_neg (by decide), if_neg h]
        exact ⟨_, _, rfl⟩
  · intro J hJ
    dsimp only
    have two : (t = 3 ∨ t = 4) → Gets (if (decide ((b.length : Int) = (0:Int))) = true then (some (((t, (0:Int), ([] : List Int), ()), (0:Int), (UV.node t_plain_wrap (.pair (.str [110, 111, 32, 98, 121, 116, 101]) (.pair (UV.sent g_plain_errForm) .unit))), ()), ())) else (if (decide (t = (3:Int))) = true then (atI (0:Int) b.length (some (((t, (IntKind.i64.wrap (b.getD (0:Int).toNat (0:Int))), ([] : List Int), ()), (1:Int), UV.nil, ()), ()))) else (J (t, (0:Int), ([] : List Int), ())))) (FirstPA t b) := by
      intro ht
      cases b with
      | nil =>
        rw [if_pos (by simp)]
        refine Gets.some ?_
        unfold FirstPA firstV
        rw [if_neg (by omega)]
        exact ⟨_, _, rfl⟩
      | cons c l =>
        have hc := hb c (by simp)
        rw [if_neg (by simp <;> omega)]
        by_cases h3 : t = 3
        · rw [if_pos (by simpa using h3)]
          refine Gets.atI (by omega) (by simp) (Gets.some ?_)
          unfold FirstPA firstV
          rw [if_neg (by omega)]
          dsimp only
          rw [if_pos h3, show (c :: l).getD ((0:Int)).toNat (0:Int) = c from rfl, wrap_i64 (by omega) (by omega)]
          rfl
        · rw [if_neg (by simpa using h3)]
          exact hJ _ ⟨rfl, by omega, by simp⟩
    by_cases h3 : t = 3
    · rw [if_neg (by simp [h3])]
      exact two (.inl h3)
    · rw [if_pos (by simp [h3])]
      by_cases h4 : t = 4
      · rw [if_neg (by simp [h4])]
        exact two (.inr h4)
      · rw [if_pos (by simp [h4]), f_num_Take_eq hb hl hn]
        simp only [Option.bind_some]
        have hfv : firstV t b = (match takeN b with | some (u, k) => some ((t, zag u, [], ()), k) | none => none) := by
          unfold firstV
          rw [if_pos ⟨h3, h4⟩]
          rfl
        unfold FirstPA
        rw [hfv]
        cases htk : takeN b with
        | none =>
          dsimp only
          rw [if_pos (by simp)]
          exact Gets.some ⟨_, _, rfl⟩
        | some r =>
          obtain ⟨u, k⟩ := r
          dsimp only
          rw [if_neg (by simp), f_num_Zag_eq (takeN_some hb htk).1]
          exact Gets.some rfl

theorem f_rle_of_eq {n : Nat} {t : Int} {l : List Vl} (hn : l.length < n) (hc : l.length < 1000000) : f_rle_of n (t, l, ()) = some ((rightL t l, ()), ()) := by
  unfold f_rle_of rightL
  dsimp only
  by_cases h1 : t < 1
  · have : ¬ (1 ≤ t) := by omega
    simp [h1, this]
  by_cases h2 : 4 < t
  · have : ¬ (t ≤ 4) := by omega
    simp [h1, h2, this]
  rw [if_neg (by simpa using h1), if_neg (by simpa using h2), iter_allL l (rightV t) (some ((false, ()), ())) (some ((true, ()), ())) hn]
  · have e1 : 1 ≤ t := by omega
    have e2 : t ≤ 4 := by omega
    cases l.all (rightV t) <;> simp [e1, e2]
  · intro rec i hi
    rw [if_pos (by simp <;> omega), atI_nat hi, Int.toNat_natCast, getD_lt' hi, f_value_May_eq, wrap_succ (by omega)]
    simp only [Option.bind_some]
    unfold rightV
    by_cases h3 : l[i].1 = t
    · cases mayV l[i] <;> simp [h3]
    · simp [h3]
  · intro rec
    simp

theorem f_rle_one_eq {n : Nat} {b : List Int} {t : Int} {v : Vl} (h : rightV t v = true) (hv : okV v) (hb : b.length < 1000000) (hn : 10 ≤ n) : f_rle_one n (b, v, ()) = some ((b ++ oneV v, ()), ()) := by
  obtain ⟨h1, h2⟩ := rightV_spec h
  have hr := room_eq
  unfold f_rle_one oneV
  dsimp only
  by_cases h3 : v.1 = 3
  · rw [if_pos (by simpa using h3), if_pos (by simp <;> omega), if_pos h3]
    rw [wrap_u8 (by rcases h2 with h2 | h2 | h2 | h2 | h2 <;> omega) (by rcases h2 with h2 | h2 | h2 | h2 | h2 <;> omega)]
  · rw [if_neg (by simpa using h3), if_neg h3]
    by_cases h4 : v.1 = 4
    · have hl : v.2.2.1.length ≤ 20 := by omega
      rw [if_pos (by simpa using h4), if_pos (by simp <;> omega), if_pos (by simp <;> omega), if_pos h4, wrap_u8 (by omega) (by omega)]
      simp
    · have h5 := putN_le10 (zig_lt hv.2.1.1 hv.2.1.2)
      rw [if_neg (by simpa using h4), if_neg h4, f_num_Zig_eq hv.2.1.1 hv.2.1.2]
      simp only [Option.bind_some]
      rw [f_num_Put_eq (zig_lt hv.2.1.1 hv.2.1.2) hn]
      simp only [Option.bind_some]
      rw [if_pos (by omega)]

def errB (msg : List Int) : UV := UV.node t_rle_wrap (.pair (.str msg) (.pair (UV.sent g_rle_errForm) .unit))

def FirstPB (t : Int) (b : List Int) (y : (Vl × Int × UV × Unit) × Unit) : Prop :=
  match firstV t b with
  | some (v, k) => y = ((v, (k : Int), UV.nil, ()), ())
  | none => ∃ v msg, y = ((v, (0 : Int), errB msg, ()), ())

theorem f_rle_first_post {n : Nat} {t : Int} {b : List Int} (hb : Bytes b) (hl : b.length < 1000000) (hn : 11 ≤ n) : Gets (f_rle_first n (t, b, ())) (FirstPB t b) := by
  unfold f_rle_first
  refine Gets.join (I := fun s => s = (t, (0:Int), ([] : List Int), ()) ∧ t = 4 ∧ b ≠ []) ?_ ?_
  · rintro _ ⟨rfl, rfl, hne⟩
    dsimp only
    cases b with
    | nil => exact absurd rfl hne
    | cons c l =>
      have hc := hb c (by simp)
      have e0 : (c :: l).getD ((0:Int)).toNat (0:Int) = c := rfl
      refine Gets.atI (by omega) (by simp) ?_
      rw [e0, wrap_i64 (x := c) (by omega) (by omega), wrap_i64 (by omega) (by omega)]
      have e1 : (1 + c).toNat = 1 + c.toNat := by omega
      by_cases h : 1 + c.toNat ≤ (c :: l).length
      · rw [if_neg (by simp at h ⊢; omega), if_pos (by simp at h ⊢; omega)]
        refine Gets.some ?_
        unfold FirstPB firstV
        rw [if_neg (by simp)]
        dsimp only
        rw [if_neg (by decide), if_pos h, e1]
        dsimp only
        rw [show (1 + c) = ((1 + c.toNat : Nat) : Int) by omega]
        rfl
      · rw [if_pos (by simp at h ⊢; omega)]
        refine Gets.some ?_
        unfold FirstPB firstV
        rw [if_neg (by simp)]
        dsimp only
        rw [if_neg (by decide), if_neg h]
        exact ⟨_, _, rfl⟩
  · intro J hJ
    dsimp only
    have two : (t = 3 ∨ t = 4) → Gets (if (decide ((b.length : Int) = (0:Int))) = true then (some (((t, (0:Int), ([] : List Int), ()), (0:Int), (UV.node t_rle_wrap (.pair (.str [110, 111, 32, 98, 121, 116, 101]) (.pair (UV.sent g_rle_errForm) .unit))), ()), ())) else (if (decide (t = (3:Int))) = true then (atI (0:Int) b.length (some (((t, (IntKind.i64.wrap (b.getD (0:Int).toNat (0:Int))), ([] : List Int), ()), (1:Int), UV.nil, ()), ()))) else (J (t, (0:Int), ([] : List Int), ())))) (FirstPB t b) := by
      intro ht
      cases b with
      | nil =>
        rw [if_pos (by simp)]
        refine Gets.some ?_
        unfold FirstPB firstV
        rw [if_neg (by omega)]
        exact ⟨_, _, rfl⟩
      | cons c l =>
        have hc := hb c (by simp)
        rw [if_neg (by simp <;> omega)]
        by_cases h3 : t = 3
        · rw [if_pos (by simpa using h3)]
          refine Gets.atI (by omega) (by simp) (Gets.some ?_)
          unfold FirstPB firstV
          rw [if_neg (by omega)]
          dsimp only
          rw [if_pos h3, show (c :: l).getD ((0:Int)).toNat (0:Int) = c from rfl, wrap_i64 (by omega) (by omega)]
          rfl
        · rw [if_neg (by simpa using h3)]
          exact hJ _ ⟨rfl, by omega, by simp⟩
    by_cases h3 : t = 3
    · rw [if_neg (by simp [h3])]
      exact two (.inl h3)
    · rw [if_pos (by simp [h3])]
      by_cases h4 : t = 4
      · rw [if_neg (by simp [h4])]
        exact two (.inr h4)
      · rw [if_pos (by simp [h4]), f_num_Take_eq hb hl hn]
        simp only [Option.bind_some]
        have hfv : firstV t b = (match takeN b with | some (u, k) => some ((t, zag u, [], ()), k) | none => none) := by
          unfold firstV
          rw [if_pos ⟨h3, h4⟩]
          rfl
        unfold FirstPB
        rw [hfv]
        cases htk : takeN b with
        | none =>
          dsimp only
          rw [if_pos (by simp)]
          exact Gets.some ⟨_, _, rfl⟩
        | some r =>
          obtain ⟨u, k⟩ := r
          dsimp only
          rw [if_neg (by simp), f_num_Zag_eq (takeN_some hb htk).1]
          exact Gets.some rfl

theorem f_plain_Put_eq {n : Nat} {t : Int} {l : List Vl} (hv : ∀ v, v ∈ l → okV v) (hl : l.length ≤ 1000) (hn : 2000 ≤ n) :
    f_plain_Put n (t, l, ()) = some (if rightL t l = true then (l.flatMap oneV, true, ()) else ([], false, ()), ()) := by
  have hro := room_eq
  unfold f_plain_Put
  dsimp only
  rw [f_plain_of_eq (by omega) (by omega)]
  simp only [Option.bind_some]
  cases h : rightL t l with
  | false => rfl
  | true =>
    have hb := rightL_both h hv
    simp only [Bool.not_true, Bool.false_eq_true, if_false, if_true]
    refine iter_run' (st := fun i => ((l.take i).flatMap oneV, (i : Int))) l.length (by simp) ?_ ?_ (by omega)
    · intro rec i hi
      have h2 := flatMap_one_len (d := l.take i) fun v hv => hb v (List.mem_of_mem_take hv)
      have h3 : (l.take i).length ≤ l.length := by simp <;> omega
      dsimp only
      rw [if_pos (by simp <;> omega), atI_nat hi, Int.toNat_natCast, getD_lt' hi, f_plain_one_eq (hb _ (List.getElem_mem hi)).1 (hb _ (List.getElem_mem hi)).2 (by omega) (by omega)]
      simp only [Option.bind_some]
      rw [wrap_succ (by omega), flatMap_take _ hi]
    · intro rec
      dsimp only
      rw [if_neg (by simp), List.take_length]

theorem f_rle_Put_eq {n : Nat} {t : Int} {l : List Vl} (hv : ∀ v, v ∈ l → okV v) (hl : l.length ≤ 1000) (hn : 2000 ≤ n) :
    f_rle_Put n (t, l, ()) = some (if rightL t l = true then (rleB l, true, ()) else ([], false, ()), ()) := by
  have hro := room_eq
  unfold f_rle_Put
  dsimp only
  rw [f_rle_of_eq (by omega) (by omega)]
  simp only [Option.bind_some]
  cases h : rightL t l with
  | false => rfl
  | true =>
    have hb := rightL_both h hv
    simp only [Bool.not_true, Bool.false_eq_true, if_false, if_true]
    refine (iter_rec (I := fun k (s : List Vl × List Int) => s.1.length ≤ k ∧ k ≤ 1000 ∧ (∀ v, v ∈ s.1 → rightV t v = true ∧ okV v) ∧ s.2.length + 31 * k ≤ 40000) (res := fun s => some ((s.2 ++ rleB s.1, true, ()), ())) ?_ n 1000 _ ⟨hl, by omega, hb, by simp⟩ (by omega)).trans (by simp)
    rintro k ⟨r, acc⟩ rec ⟨h1, h2, h3, h4⟩ hrec
    dsimp only at h1 h3 h4 ⊢
    cases r with
    | nil => rw [if_neg (by simp)]; simp [rleB_nil]
    | cons v r =>
      simp only [List.length_cons] at h1
      have hrn := runN_le v r
      rw [if_pos (by simp <;> omega)]
      refine join_intro (I := fun s q => s = ((1 + runN v r : Nat) : Int) ∧ q = some ((acc ++ rleB (v :: r), true, ()), ())) ?_ ?_
      · rintro _ _ ⟨rfl, rfl⟩
        have hp := putN_le10 (v := 1 + runN v r) (by omega)
        rw [wrapU64 (by omega), f_num_Put_eq (by omega) (by omega)]
        simp only [Option.bind_some]
        have h5 := oneV_len (h3 v (by simp)).1 (h3 v (by simp)).2
        rw [if_pos (by omega), atI_pos (by omega) (by simp <;> omega), show (v :: r).getD ((0:Int)).toNat ((0:Int), (0:Int), [], ()) = v from rfl, f_rle_one_eq (h3 v (by simp)).1 (h3 v (by simp)).2 (by simp <;> omega) (by omega)]
        simp only [Option.bind_some]
        rw [if_pos (by simp <;> omega)]
        simp only [Int.toNat_natCast, List.take_length]
        have hd : (v :: r).drop (1 + runN v r) = r.drop (runN v r) := by rw [Nat.add_comm, List.drop_succ_cons]
        rw [hd, hrec (k - 1) _ (by omega) ⟨by simp <;> omega, by omega, fun x hx => h3 x (List.mem_cons_of_mem _ (List.mem_of_mem_drop hx)), by simp <;> omega⟩, rleB_cons]
        simp
      · intro J hJ
        refine iter_run' (st := fun i => ((1 + i : Nat) : Int)) (runN v r) rfl ?_ ?_ (by omega)
        · intro rec2 i hi
          have hir : i < r.length := by omega
          have e0 : (v :: r).getD (((1 + i : Nat) : Int)).toNat ((0:Int), (0:Int), [], ()) = v := by
            rw [Int.toNat_natCast, Nat.add_comm, List.getD_cons_succ]
            exact runN_all v hi
          rw [if_pos (by simp <;> omega), atI_nat (by simp <;> omega), atI_pos (by omega) (by simp <;> omega), e0, show (v :: r).getD ((0:Int)).toNat ((0:Int), (0:Int), [], ()) = v from rfl, eqVl, if_pos (by simp), wrap_succ (by omega)]
          congr 2
        · intro rec2
          by_cases hend : runN v r < r.length
          · have e0 : (v :: r).getD (((1 + runN v r : Nat) : Int)).toNat ((0:Int), (0:Int), [], ()) = r[runN v r] := by
              rw [Int.toNat_natCast, Nat.add_comm, List.getD_cons_succ, getD_lt' hend]
            rw [if_pos (by simp <;> omega), atI_nat (by simp <;> omega), atI_pos (by omega) (by simp <;> omega), e0, show (v :: r).getD ((0:Int)).toNat ((0:Int), (0:Int), [], ()) = v from rfl, eqVl, if_neg (by simpa using run_end v hend)]
            exact hJ _ _ ⟨rfl, rfl⟩
          · rw [if_neg (by simp <;> omega)]
            exact hJ _ _ ⟨rfl, rfl⟩

theorem f_pack_numbers_eq {n : Nat} {t : Int} {l : List Vl} (hn : l.length < n) (hc : l.length < 1000000) : f_pack_numbers n (t, l, ()) = some ((decide (t ≤ 3) && rightL t l, ()), ()) := by
  unfold f_pack_numbers rightL
  dsimp only
  by_cases h1 : t < 1
  · have : ¬ (1 ≤ t) := by omega
    simp [h1, this]
  by_cases h2 : 3 < t
  · have : ¬ (t ≤ 3) := by omega
    simp [h1, h2, this]
  rw [if_neg (by simpa using h1), if_neg (by simpa using h2), iter_allL l (rightV t) (some ((false, ()), ())) (some ((true, ()), ())) hn]
  · have e1 : 1 ≤ t := by omega
    have e2 : t ≤ 4 := by omega
    have e3 : t ≤ 3 := by omega
    cases l.all (rightV t) <;> simp [e1, e2, e3]
  · intro rec i hi
    rw [if_pos (by simp <;> omega), atI_nat hi, Int.toNat_natCast, getD_lt' hi, f_value_May_eq, wrap_succ (by omega)]
    simp only [Option.bind_some]
    unfold rightV
    by_cases h3 : l[i].1 = t
    · cases mayV l[i] <;> simp [h3]
    · simp [h3]
  · intro rec
    simp

theorem above_code {x m : Int} (hx : -9223372036854775808 ≤ x ∧ x ≤ 9223372036854775807) (hm : -9223372036854775808 ≤ m ∧ m ≤ 9223372036854775807) (h : m ≤ x) : IntKind.u64.wrap ((IntKind.u64.wrap x) - (IntKind.u64.wrap m)) = x - m := by
  rw [wrap_mod64, wrap_mod64, wrap_mod64]
  omega

theorem f_pack_Put_eq {n : Nat} {t : Int} {l : List Vl} (hv : ∀ v, v ∈ l → okV v) (hl : l.length ≤ 1000) (hn : 2000 ≤ n) :
    f_pack_Put n (t, l, ()) = some (if t ≤ 3 ∧ rightL t l = true then (packB l, true, ()) else ([], false, ()), ()) := by
  have hro := room_eq
  unfold f_pack_Put
  dsimp only
  rw [f_pack_numbers_eq (by omega) (by omega)]
  simp only [Option.bind_some]
  by_cases h : t ≤ 3 ∧ rightL t l = true
  rotate_left
  · rw [if_neg h, if_pos]
    simp only [Bool.not_eq_true', Bool.and_eq_false_iff, decide_eq_false_iff_not]
    rcases Classical.em (t ≤ 3) with h1 | h1
    · exact .inr (by simpa using fun h2 => h ⟨h1, h2⟩)
    · exact .inl h1
  rw [if_pos h, if_neg (by simp [h.1, h.2])]
  cases l with
  | nil => rfl
  | cons v r =>
    obtain ⟨l, hlr⟩ : ∃ l, v :: r = l := ⟨_, rfl⟩
    have hne : l ≠ [] := by rw [← hlr]; simp
    have h0 : 0 < l.length := by rw [← hlr]; simp
    have hz : (l.getD ((0:Int)).toNat ((0:Int), (0:Int), [], ())) = v := by rw [← hlr]; rfl
    have hL : leastV l = l.foldl (fun m x => if m ≤ x.2.1 then m else x.2.1) v.2.1 := by rw [← hlr]; rfl
    have hlr2 := least_range hv
    have hw64 := width_above hv
    rw [hlr] at hlr2 hw64 hv hl h ⊢
    rw [if_neg (by simp <;> omega), atI_pos (by omega) (by omega), hz]
    refine iter_run' (st := fun i => ((l.take i).foldl (fun m x => if m ≤ x.2.1 then m else x.2.1) v.2.1, (i : Int))) l.length (by simp) ?_ ?_ (by omega)
    · intro rec i hi
      dsimp only
      rw [if_pos (by simp <;> omega), atI_nat hi, Int.toNat_natCast, getD_lt' hi, wrap_succ (by omega), List.take_succ_eq_append_getElem hi, List.foldl_append]
      rfl
    · intro rec
      dsimp only
      rw [if_neg (by simp), List.take_length, ← hL]
      refine iter_run' (st := fun i => ((l.take i).map (fun v => v.2.1 - leastV l), (i : Int))) l.length (by simp) ?_ ?_ (by omega)
      · intro rec2 i hi
        have hm := List.getElem_mem hi
        dsimp only
        rw [if_pos (by simp <;> omega), atI_nat hi, Int.toNat_natCast, getD_lt' hi, above_code (hv _ hm).2.1 hlr2 (least_le hm), if_pos (by simp <;> omega), wrap_succ (by omega), map_take _ hi]
      · intro rec2
        dsimp only
        have habove : (l.take l.length).map (fun v => v.2.1 - leastV l) = aboveV l := by rw [List.take_length]; rfl
        have hnum : Nums (aboveV l) := above_range hv
        rw [if_neg (by simp), habove, f_bits_Width_eq hnum (by rw [above_len]; omega) (by rw [above_len]; omega)]
        simp only [Option.bind_some]
        rw [f_bits_Put_eq hnum (by rw [above_len]; omega) (by omega) (by rw [above_len]; omega), if_pos ⟨hw64, Nat.le_refl _⟩]
        simp only [Option.bind_some]
        rw [f_num_Zig_eq hlr2.1 hlr2.2]
        simp only [Option.bind_some]
        have hzl := zig_lt hlr2.1 hlr2.2
        have hp := putN_le10 hzl
        rw [f_num_Put_eq hzl (by omega)]
        simp only [Option.bind_some]
        have hmul : l.length * widthL (aboveV l) ≤ l.length * 64 := Nat.mul_le_mul_left _ hw64
        rw [if_pos (by simp <;> omega), if_pos (by simp only [List.length_append, List.length_singleton, bitsB_len, above_len]; omega), wrapU8 (by omega), packB_cons hne]
        simp

theorem step_code {last x : Int} (hl : -9223372036854775808 ≤ last ∧ last ≤ 9223372036854775807) : IntKind.i64.wrap (IntKind.u64.wrap ((IntKind.u64.wrap x) - (IntKind.u64.wrap last))) = stepZ last x := by
  unfold stepZ
  rw [wrapI64_mod, wrapI64_mod, wrap_mod64, wrap_mod64, wrap_mod64]
  omega

theorem i64_u64 {x : Int} (hx : -9223372036854775808 ≤ x ∧ x ≤ 9223372036854775807) : IntKind.i64.wrap (IntKind.u64.wrap x) = x := by
  rw [wrapI64_mod, wrap_mod64]
  omega

theorem f_delta_Put_eq {n : Nat} {t : Int} {l : List Vl} (hv : ∀ v, v ∈ l → okV v) (hl : l.length ≤ 1000) (hn : 2000 ≤ n) :
    f_delta_Put n (t, l, ()) = some (if t ≤ 2 ∧ rightL t l = true then (deltaB 0 l, true, ()) else ([], false, ()), ()) := by
  have hro := room_eq
  have hR : t = 1 ∨ t = 2 → (rightL t l = l.all (rightV t)) := by
    intro h
    unfold rightL
    have e1 : 1 ≤ t := by omega
    have e2 : t ≤ 4 := by omega
    simp [e1, e2]
  have hmain : t = 1 ∨ t = 2 → iterF (fun rec4 (s3 : List Int × Int × Int) => (if (decide (s3.2.2 < (l.length : Int))) = true then (atI s3.2.2 l.length (if (!decide ((l.getD s3.2.2.toNat ((0:Int), (0:Int), [], ())).1 = t)) = true then (some (([], false, ()), ())) else ((f_value_May n ((l.getD s3.2.2.toNat ((0:Int), (0:Int), [], ())), ())).bind fun (y5 : (Bool × Unit) × (Unit)) => (if (!y5.1.1) = true then (some (([], false, ()), ())) else ((f_num_Zig n ((IntKind.i64.wrap (IntKind.u64.wrap ((IntKind.u64.wrap (((l.getD s3.2.2.toNat ((0:Int), (0:Int), [], ())).2).1)) - s3.2.1))), ())).bind fun (y6 : (Int × Unit) × (Unit)) => ((f_num_Put n (y6.1.1, ())).bind fun (y7 : (List Int × Unit) × (Unit)) => (if (s3.1.length + y7.1.1.length) * 1 ≤ room then (rec4 ((s3.1 ++ y7.1.1), (IntKind.u64.wrap (((l.getD s3.2.2.toNat ((0:Int), (0:Int), [], ())).2).1)), (IntKind.i64.wrap (s3.2.2 + (1:Int))))) else none))))))) else (some ((s3.1, true, ()), ())))) n ([], (0:Int), (0:Int)) = some (if t ≤ 2 ∧ rightL t l = true then (deltaB 0 l, true, ()) else ([], false, ()), ()) := by
    intro ht
    refine (iter_rec (I := fun k (s : List Int × Int × Int) => ∃ (i : Nat) (last : Int), s.2 = (IntKind.u64.wrap last, (i : Int)) ∧ i + k = l.length ∧ (-9223372036854775808 ≤ last ∧ last ≤ 9223372036854775807) ∧ s.1.length + 10 * k ≤ 20000)
      (res := fun s => some (if (l.drop s.2.2.toNat).all (rightV t) = true then (s.1 ++ deltaB (IntKind.i64.wrap s.2.1) (l.drop s.2.2.toNat), true, ()) else ([], false, ()), ())) ?_ n l.length _ ⟨0, 0, rfl, by omega, by omega, by simp <;> omega⟩ (by omega)).trans ?_
    · rintro k ⟨acc, q⟩ rec ⟨i, last, rfl, h1, h2, h3⟩ hrec
      dsimp only at h3 ⊢
      rw [i64_u64 h2, Int.toNat_natCast]
      cases k with
      | zero =>
        rw [if_neg (by simp <;> omega), List.drop_eq_nil_iff.2 (by omega)]
        simp [deltaB]
      | succ k =>
        have hi : i < l.length := by omega
        have hm := List.getElem_mem hi
        rw [if_pos (by simp <;> omega), atI_nat hi, getD_lt' hi, List.drop_eq_getElem_cons hi, List.all_cons]
        by_cases h4 : l[i].1 = t
        rotate_left
        · rw [if_pos (by simpa using h4)]
          have : rightV t l[i] = false := by unfold rightV; simp [h4]
          rw [this]; simp
        rw [if_neg (by simpa using h4), f_value_May_eq]
        simp only [Option.bind_some]
        cases h5 : mayV l[i] with
        | false =>
          have : rightV t l[i] = false := by unfold rightV; simp [h5]
          rw [if_pos (by simp), this]; simp
        | true =>
          have h6 : rightV t l[i] = true := by unfold rightV; simp [h4, h5]
          have h7 := stepZ_range last l[i].2.1
          have h8 := putN_le10 (zig_step_lt last l[i].2.1)
          rw [if_neg (by simp), step_code h2, f_num_Zig_eq h7.1 h7.2]
          simp only [Option.bind_some]
          rw [f_num_Put_eq (zig_step_lt last l[i].2.1) (by omega)]
          simp only [Option.bind_some]
          rw [if_pos (by omega), wrap_succ (by omega), hrec k _ (by omega) ⟨i + 1, l[i].2.1, rfl, by omega, (hv _ hm).2.1, by simp <;> omega⟩, h6]
          dsimp only
          rw [i64_u64 (hv _ hm).2.1, Int.toNat_natCast]
          simp only [Bool.true_and, deltaB, List.append_assoc]
    · dsimp only
      rw [hR ht, show IntKind.i64.wrap 0 = 0 by decide]
      have e2 : t ≤ 2 := by omega
      rw [show Int.toNat 0 = 0 from rfl, List.drop_zero]
      by_cases hh : l.all (rightV t) = true
      · rw [if_pos hh, if_pos ⟨e2, hh⟩]; rfl
      · rw [if_neg hh, if_neg fun h => hh h.2]
  unfold f_delta_Put joinF
  dsimp only
  by_cases h1 : t = 1
  · rw [if_neg (by simpa using h1)]
    exact hmain (.inl h1)
  · rw [if_pos (by simpa using h1)]
    by_cases h2 : t = 2
    · rw [if_neg (by simpa using h2)]
      exact hmain (.inr h2)
    · rw [if_pos (by simpa using h2), if_neg]
      rintro ⟨h3, h4⟩
      have := (rightL_all h4).1
      omega

end Go.Rb.R4

namespace Go.Rb.R4
open Go.Rb

/-! ### Library -/

theorem f_IndexFunc_post {n : Nat} {l : List Vl} {p : Vl → Option Bool} {q : Vl → Bool} (hp : ∀ v, v ∈ l → p v = some (q v)) (hl : l.length < 100000) (hn : l.length < n) :
    Gets (f_slices_IndexFunc_Lapi_Value_api_Value n (l, p, ())) fun y => (y = (((-1 : Int), ()), ()) ∧ ∀ v, v ∈ l → q v = false) ∨ ∃ i, ∃ (hi : i < l.length), y = (((i : Int), ()), ()) ∧ q l[i] = true ∧ ∀ v, v ∈ l.take i → q v = false := by
  unfold f_slices_IndexFunc_Lapi_Value_api_Value
  dsimp only
  refine Gets.iter (I := fun s : Int => ∃ i : Nat, s = (i : Int) ∧ i ≤ l.length ∧ ∀ v, v ∈ l.take i → q v = false) (μ := fun s => l.length - s.toNat) ⟨0, rfl, by omega, by simp⟩ (by simp <;> omega) ?_
  rintro rec _ ⟨i, rfl, hi, hq⟩ hrec
  by_cases h : i < l.length
  · rw [if_pos (by simp <;> omega), atI_nat h, Int.toNat_natCast, getD_lt' h, hp _ (List.getElem_mem h)]
    simp only [Option.bind_some]
    by_cases hqi : q l[i] = true
    · rw [if_pos hqi]
      exact Gets.some (.inr ⟨i, h, rfl, hqi, hq⟩)
    · rw [if_neg hqi, wrap_succ (by omega)]
      refine hrec _ ⟨i + 1, rfl, by omega, fun v hv => ?_⟩ (by simp <;> omega)
      rw [List.take_succ_eq_append_getElem h] at hv
      rcases List.mem_append.1 hv with hv | hv
      · exact hq v hv
      · simp at hv; subst hv; simpa using hqi
  · rw [if_neg (by simp <;> omega)]
    refine Gets.some (.inl ⟨rfl, fun v hv => hq v ?_⟩)
    rwa [List.take_of_length_le (by omega)]

theorem f_ContainsFunc_eq {n : Nat} {l : List Vl} {p : Vl → Option Bool} {q : Vl → Bool} (hp : ∀ v, v ∈ l → p v = some (q v)) (hl : l.length < 100000) (hn : l.length < n) :
    f_slices_ContainsFunc_Lapi_Value_api_Value n (l, p, ()) = some ((l.any q, ()), ()) := by
  obtain ⟨y, h1, h2⟩ := f_IndexFunc_post hp hl hn
  unfold f_slices_ContainsFunc_Lapi_Value_api_Value
  dsimp only
  rw [h1]
  simp only [Option.bind_some]
  rcases h2 with ⟨rfl, h⟩ | ⟨i, hi, rfl, h, _⟩
  · have : l.any q = false := by rw [List.any_eq_false]; intro x hx; simp [h x hx]
    rw [this]; rfl
  · have : l.any q = true := List.any_eq_true.2 ⟨_, List.getElem_mem hi, h⟩
    rw [this]
    simp

theorem f_DeleteFunc_eq {n : Nat} {l : List Vl} {p : Vl → Option Bool} {q : Vl → Bool} (hp : ∀ v, v ∈ l → p v = some (q v)) (hl : l.length < 100000) (hn : l.length < n) :
    f_slices_DeleteFunc_Lapi_Value_api_Value n (l, p, ()) = some ((l.filter (fun v => !q v), ()), ()) := by
  obtain ⟨y, h1, h2⟩ := f_IndexFunc_post hp hl hn
  refine gets_eq' ?_
  unfold f_slices_DeleteFunc_Lapi_Value_api_Value
  dsimp only
  rw [h1]
  simp only [Option.bind_some]
  rcases h2 with ⟨rfl, h⟩ | ⟨i, hi, rfl, h, hno⟩
  · rw [if_pos (by simp)]
    have : l.filter (fun v => !q v) = l := List.filter_eq_self.2 fun x hx => by simp [h x hx]
    rw [this]
    exact Gets.some rfl
  · rw [if_neg (by simp <;> omega), wrap_succ (by omega)]
    refine Gets.iter (I := fun s : List Vl × Int × Int => ∃ (m : List Vl) (i j : Nat), s = (m, (i : Int), (j : Int)) ∧ m.length = l.length ∧ i < j ∧ j ≤ l.length ∧ m.take i = (l.take j).filter (fun v => !q v) ∧ m.drop j = l.drop j)
      (μ := fun s => l.length - s.2.2.toNat) ⟨l, i, i + 1, rfl, rfl, by omega, by omega, ?_, rfl⟩ (by simp <;> omega) ?_
    · rw [List.take_succ_eq_append_getElem hi, List.filter_append]
      have e1 : (l.take i).filter (fun v => !q v) = l.take i := List.filter_eq_self.2 fun x hx => by simp [hno x hx]
      rw [e1]; simp [h]
    · rintro rec _ ⟨m, i, j, rfl, g1, g2, g3, g4, g5⟩ hrec
      dsimp only
      by_cases hj : j < l.length
      · have hjm : j < m.length := by omega
        have hmj : m[j] = l[j] := by
          have e1 := List.drop_eq_getElem_cons hjm
          have e2 := List.drop_eq_getElem_cons hj
          rw [g5, e2] at e1
          exact (List.cons.inj e1).1.symm
        have hd1 : m.drop (j + 1) = l.drop (j + 1) := by
          have := congrArg List.tail g5
          simpa using this
        rw [if_pos (by simp <;> omega), atI_nat hjm, Int.toNat_natCast, getD_lt' hjm, hmj, hp _ (List.getElem_mem hj)]
        simp only [Option.bind_some]
        rw [wrap_succ (i := j) (by omega)]
        by_cases hq : q l[j] = true
        · rw [if_neg (by simp [hq])]
          refine hrec _ ⟨m, i, j + 1, rfl, g1, by omega, by omega, ?_, hd1⟩ (by simp <;> omega)
          rw [g4, List.take_succ_eq_append_getElem hj, List.filter_append]
          simp [hq]
        · rw [if_pos (by simpa using hq), atI_nat (by omega), Int.toNat_natCast, wrap_succ (i := i) (by omega)]
          refine hrec _ ⟨m.set i l[j], i + 1, j + 1, rfl, by simpa using g1, by omega, by omega, ?_, ?_⟩ (by simp <;> omega)
          · rw [List.take_succ_eq_append_getElem (by simp <;> omega), List.getElem_set_self, List.take_set_of_le (Nat.le_refl _), g4, List.take_succ_eq_append_getElem hj, List.filter_append]
            have : q l[j] = false := by simpa using hq
            simp [this]
          · rw [List.drop_set_of_lt (by omega)]; exact hd1
      · obtain rfl : j = l.length := by omega
        have hlm : (m.take i).length = i := by simp <;> omega
        rw [if_neg (by simp <;> omega), if_pos (by omega), if_pos (by omega)]
        simp only [Int.toNat_natCast]
        rw [if_pos (by simp <;> omega)]
        refine Gets.some ?_
        rw [List.take_left' hlm, g4, List.take_length]
  where
  gets_eq' {R : Type} {o : Option R} {r : R} (h : Gets o fun y => y = r) : o = some r := by
    obtain ⟨y, h1, rfl⟩ := h
    exact h1

set_option maxRecDepth 100000 in
theorem mul_one_tab : ∀ m : Fin 1001, f_math_bits_Mul64 0 ((1:Int), ((m.1 : Nat) : Int), ()) = some (((0:Int), ((m.1 : Nat) : Int), ()), ()) := by decide +kernel

theorem f_Repeat_eq {n m : Nat} {v : Vl} (hm : m ≤ 1000) (hn : 1001 < n) : f_slices_Repeat_Lapi_Value_api_Value n ([v], (m : Int), ()) = some ((List.replicate m v, ()), ()) := by
  have hro := room_eq
  have hmul : f_math_bits_Mul n ((IntKind.u64.wrap (([v] : List Vl).length : Int)), (IntKind.u64.wrap (m : Int)), ()) = some (((0:Int), (m : Int), ()), ()) := by
    have h1 := mul_one_tab ⟨m, by omega⟩
    unfold f_math_bits_Mul
    rw [wrapU64 (x := m) (by omega), show IntKind.u64.wrap (([v] : List Vl).length : Int) = 1 by rfl]
    have h2 : f_math_bits_Mul64 n ((1:Int), (m : Int), ()) = f_math_bits_Mul64 0 ((1:Int), (m : Int), ()) := rfl
    dsimp only
    rw [h2, h1]
    rfl
  unfold f_slices_Repeat_Lapi_Value_api_Value
  dsimp only
  rw [if_neg (by simp <;> omega), hmul]
  simp only [Option.bind_some]
  rw [if_neg (by simp), if_neg (by simp <;> omega), wrapI64 (by omega), if_pos (by omega)]
  simp only [Int.toNat_natCast, List.length_replicate]
  rw [if_pos (by omega)]
  refine iter_done (I := fun k (s : List Vl × Int) => ∃ i : Nat, s = (List.replicate i v ++ List.replicate (m - i) d0, (i : Int)) ∧ i ≤ m ∧ m - i ≤ k ∧ (0 < m → 0 < i)) (r := some ((List.replicate m v, ()), ())) ?_ n 1000 _ ?_ (by omega)
  · rintro k _ rec ⟨i, rfl, h1, h2, h3⟩ hrec
    dsimp only
    have hlen : (List.replicate i v ++ List.replicate (m - i) d0).length = m := by simp <;> omega
    by_cases hi : i < m
    · rw [if_pos (by rw [hlen]; simp <;> omega), if_pos (by rw [hlen]; omega), if_pos (by rw [hlen]; omega), if_pos (by rw [hlen]; omega), hlen]
      simp only [Int.toNat_natCast]
      have e1 : (List.replicate i v ++ List.replicate (m - i) d0).take i = List.replicate i v := List.take_left' (by simp)
      have e0 : ((0:Int)).toNat = 0 := rfl
      rw [e1, e0, List.drop_zero, List.length_replicate, wrap_i64 (by omega) (by omega)]
      refine hrec (m - (i + min (m - i) i)) _ (by omega) ⟨i + min (m - i) i, ?_, by omega, by omega, by omega⟩
      have e2 : (List.replicate i v).take (m - i) = List.replicate (min (m - i) i) v := List.take_replicate
      have e3 : (List.replicate i v ++ List.replicate (m - i) d0).drop (i + min (m - i) i) = List.replicate (m - (i + min (m - i) i)) d0 := by
        rw [← List.drop_drop, List.drop_left' (by simp), List.drop_replicate]
        congr 1; omega
      rw [e2, e3, ← List.append_assoc, List.replicate_append_replicate]
      congr 1
    · obtain rfl : i = m := by omega
      rw [if_neg (by rw [hlen]; simp)]
      simp
  · refine ⟨min m 1, ?_, by omega, by omega, by omega⟩
    have e0 : ((0:Int)).toNat = 0 := rfl
    simp only [e0, List.take_zero, List.nil_append, Nat.sub_zero, List.length_singleton, Nat.zero_add, List.drop_replicate]
    cases m with
    | zero => rfl
    | succ m => simp [List.replicate_succ]
  where
  iter_done {σ R : Type} {f : (σ → Option R) → σ → Option R} {r : Option R} (I : Nat → σ → Prop) (h : ∀ k s rec, I k s → (∀ j s', j < k → I j s' → rec s' = r) → f rec s = r) (n k : Nat) (s : σ) (hi : I k s) (hk : k < n) : iterF f n s = r :=
    iter_rec I (fun _ => r) h n k s hi hk

/-! ### Which ones are nothing -/

theorem null_bit {l : List Bool} {i : Nat} (hi : i < l.length) : bitL (l.map b2i) 1 i = if l[i] = true then 1 else 0 := by
  unfold bitL
  rw [Nat.div_one, Nat.mod_one, getD_lt' (by simpa using hi), List.getElem_map]
  cases l[i] <;> rfl

theorem f_nulls_Put_eq {n : Nat} {l : List Bool} (hl : l.length < 100000) (hn : l.length < n) : f_nulls_Put n (l, ()) = some ((nullB l, ()), ()) := by
  have hro := room_eq
  have hb := bitL_le (l.map b2i) 1
  unfold f_nulls_Put
  dsimp only
  rw [show ((l.length : Int) + 7) = ((l.length + 7 : Nat) : Int) by omega, wrapI64 (by omega), show ((8 : Int)) = ((8 : Nat) : Int) from rfl, tdiv_nat, wrapI64 (by omega), if_pos (by refine ⟨by omega, by omega, ?_⟩; omega)]
  refine iter_run' (st := fun i => (bytesTo (bitL (l.map b2i) 1) ((l.length + 7) / 8) i, (i : Int))) l.length (by rw [bytesTo_zero, Int.toNat_natCast]; rfl) ?_ ?_ hn
  · intro rec i hi
    dsimp only
    have hlt : i / 8 < (l.length + 7) / 8 := by omega
    have hbit := null_bit hi
    have hstep := bytesTo_step (bit := bitL (l.map b2i) 1) hlt
    have hsm := byteTo_small hb i
    rw [if_pos (by simp <;> omega), atI_nat hi, Int.toNat_natCast, getD_lt' hi, show ((i : Int)).tdiv (((8:Nat) : Int)) = ((i / 8 : Nat) : Int) from tdiv_nat i 8, show ((i : Int)).tmod (((8:Nat) : Int)) = ((i % 8 : Nat) : Int) from tmod_nat i 8, wrapI64 (x := i / 8) (by omega), wrap_succ (by omega)]
    by_cases hx : l[i] = true
    · rw [if_pos hx] at hbit ⊢
      have hp8 : 2 ^ (i % 8) ≤ 2 ^ 7 := Nat.pow_le_pow_right (by omega) (by omega)
      have h4 := shl_pow 1 (i % 8) 8 (by omega)
      rw [Int.toNat_natCast] at h4
      rw [atI_nat (by rw [bytesTo_len]; exact hlt), if_neg (by omega), atI_nat (by rw [bytesTo_len]; exact hlt)]
      simp only [Int.toNat_natCast]
      rw [bytesTo_get hlt, show IntKind.u8.bits = 8 from rfl, show ((1 : Int)) = ((1 : Nat) : Int) from rfl, h4, wrapU8 (by omega), bits_or8 (byteTo_lt hb _ _) (by omega), or_add hsm, ← hstep, hbit]
    · rw [if_neg hx] at hbit ⊢
      rw [← hstep, hbit, Nat.zero_mul, Nat.add_zero]
      congr 2
      refine (List.ext_getElem (by simp) fun j h1 h2 => ?_)
      rw [List.getElem_set]
      split
      · rename_i hj
        subst hj
        have := bytesTo_get (bit := bitL (l.map b2i) 1) (p := i) hlt
        rw [getD_lt' (by rw [bytesTo_len]; exact hlt)] at this
        exact this
      · rfl
  · intro rec
    dsimp only
    rw [if_neg (by simp)]
    unfold nullB bitsB
    simp

/-- The bits as they are read. -/
def nullL (b : List Int) (m : Nat) : List Bool := (List.range m).map fun i => decide (bitB b i = 1)

theorem nullL_len (b : List Int) (m : Nat) : (nullL b m).length = m := by simp [nullL]

theorem nullL_back (l : List Bool) : nullL (nullB l) l.length = l := by
  refine List.ext_getElem (by simp [nullL]) fun i h1 h2 => ?_
  simp only [nullL, List.getElem_map, List.getElem_range]
  have h3 : bitB (nullB l) i = bitL (l.map b2i) 1 i := by
    unfold nullB bitsB
    refine bitB_bytesTo (bitL_le _ _) (by simp <;> omega) (by simp <;> omega)
  rw [h3, null_bit h2]
  cases l[i] <;> rfl

/-- What taking which ones are nothing tells. -/
def takeNulls (b : List Int) (m : Int) : List Bool × Bool × Unit :=
  if 0 ≤ m ∧ m ≤ 1000 ∧ b.length = (m.toNat + 7) / 8 ∧ nullB (nullL b m.toNat) = b then (nullL b m.toNat, true, ()) else ([], false, ())

theorem f_nulls_Take_eq {n : Nat} {b : List Int} {m : Int} (hb : Bytes b) (hl : b.length < 1000000) (hn : 2000 < n) : f_nulls_Take n (b, m, ()) = some (takeNulls b m, ()) := by
  have hro := room_eq
  have fail : ∀ msg : List Int, ((some ((([] : List Bool), (UV.node t_nulls_wrap (.pair (.str msg) (.pair (UV.sent g_nulls_errForm) .unit))), ()), ()) : Option ((List Bool × UV × Unit) × Unit)).bind fun (y1 : (List Bool × UV × Unit) × (Unit)) => ((f_errors_Is n (y1.1.2.1, (UV.sent g_nulls_errForm), ())).bind fun (y2 : (Bool × Unit) × (Unit)) => (some ((y1.1.1, (!y2.1.1), ()), ())))) = some (([], false, ()), ()) := fun msg => rfl
  unfold f_nulls_Take f_nulls_read takeNulls
  dsimp only
  by_cases h1 : m < 0
  · rw [if_pos (by simpa using h1), if_neg (by omega)]; exact fail _
  rw [if_neg (by simpa using h1)]
  by_cases h2 : 1000 < m
  · rw [if_pos (by simpa using h2), if_neg (by omega)]; exact fail _
  rw [if_neg (by simpa using h2)]
  obtain ⟨M, rfl⟩ : ∃ M : Nat, m = (M : Int) := ⟨_, (Int.toNat_of_nonneg (by omega)).symm⟩
  simp only [Int.toNat_natCast]
  rw [show ((M : Int) + 7) = ((M + 7 : Nat) : Int) by omega, wrapI64 (by omega), show ((8 : Int)) = ((8 : Nat) : Int) from rfl, tdiv_nat, wrapI64 (by omega)]
  by_cases h3 : b.length = (M + 7) / 8
  rotate_left
  · rw [if_pos (by simp <;> omega), if_neg (by omega)]; exact fail _
  rw [if_neg (by simp <;> omega), if_pos (by omega)]
  simp only [List.length_replicate]
  have hloop := iter_run' (R := (List Bool × UV × Unit) × Unit) (st := fun i => ((nullL b M).take i ++ List.replicate (M - i) false, (i : Int))) (s0 := (List.replicate M false, (0:Int))) M (by simp)
    (f := fun rec2 (s1 : List Bool × Int) => (if (decide (s1.2 < (M : Int))) = true then (atI (IntKind.i64.wrap (s1.2.tdiv ((8:Nat):Int))) b.length (if (s1.2.tmod ((8:Nat):Int)) < 0 then none else (atI s1.2 s1.1.length (rec2 ((s1.1.set s1.2.toNat (decide ((bits .and .u8 ((b.getD (IntKind.i64.wrap (s1.2.tdiv ((8:Nat):Int))).toNat (0:Int)).fdiv (2 ^ min (s1.2.tmod ((8:Nat):Int)).toNat IntKind.u8.bits)) (1:Int)) = (1:Int)))), (IntKind.i64.wrap (s1.2 + (1:Int)))))))) else ((f_nulls_Put n (s1.1, ())).bind fun (y3 : (List Int × Unit) × (Unit)) => ((f_bytes_Equal n (y3.1.1, b, ())).bind fun (y4 : (Bool × Unit) × (Unit)) => (if (!y4.1.1) = true then (some (([], (UV.node t_nulls_wrap (.pair (.str [98, 101, 104, 105, 110, 100, 32, 116, 104, 101, 32, 108, 97, 115, 116]) (.pair (UV.sent g_nulls_errForm) .unit))), ()), ())) else (some ((s1.1, UV.nil, ()), ())))))))
    (r := if nullB (nullL b M) = b then some ((nullL b M, UV.nil, ()), ()) else some (([], (UV.node t_nulls_wrap (.pair (.str [98, 101, 104, 105, 110, 100, 32, 116, 104, 101, 32, 108, 97, 115, 116]) (.pair (UV.sent g_nulls_errForm) .unit))), ()), ())) ?_ ?_ (n := n) (by omega)
  · rw [hloop]
    by_cases h4 : nullB (nullL b M) = b
    · rw [if_pos h4, if_pos ⟨by omega, by omega, h3, h4⟩]
      rfl
    · rw [if_neg h4, if_neg (fun h => h4 h.2.2.2)]
      exact fail _
  · intro rec i hi
    dsimp only
    obtain ⟨c, hc1, hc2, hc3⟩ := hb.get (i := i / 8) (by omega)
    have hset : ((nullL b M).take i ++ List.replicate (M - i) false).set i (decide (bitB b i = 1)) = (nullL b M).take (i + 1) ++ List.replicate (M - (i + 1)) false := by
      have hti : ((nullL b M).take i).length = i := by rw [List.length_take, nullL_len]; omega
      have h0 : List.set ((nullL b M).take i ++ List.replicate (M - i) false) i (decide (bitB b i = 1)) = (nullL b M).take i ++ (List.replicate (M - i) false).set 0 (decide (bitB b i = 1)) := by
        rw [List.set_append_right _ _ (by omega), hti, Nat.sub_self]
      rw [h0, List.take_succ_eq_append_getElem (by rw [nullL_len]; exact hi), show M - i = (M - (i + 1)) + 1 by omega, List.replicate_succ, List.set_cons_zero]
      simp [nullL]
    have hbit : bitB b i = c / 2 ^ (i % 8) % 2 := by
      unfold bitB
      rw [hc1, Int.toNat_natCast]
    have h6 := shr_u8 c (i % 8) (by omega)
    rw [Int.toNat_natCast] at h6
    have h7 : bits .and .u8 ((c / 2 ^ (i % 8) : Nat) : Int) (1 : Int) = ((c / 2 ^ (i % 8) % 2 : Nat) : Int) := by
      have hq : c / 2 ^ (i % 8) ≤ c := Nat.div_le_self _ _
      have := bits_and8 (x := c / 2 ^ (i % 8)) (y := 1) (by omega) (by omega)
      rw [Nat.and_one_is_mod] at this
      exact this
    have hdec : decide (((c / 2 ^ (i % 8) % 2 : Nat) : Int) = 1) = decide (bitB b i = 1) := by
      rw [hbit]
      by_cases h : c / 2 ^ (i % 8) % 2 = 1
      · simp [h]
      · have : ¬ (((c / 2 ^ (i % 8) % 2 : Nat) : Int) = 1) := by omega
        simp only [h, this, decide_false]
    rw [if_pos (by simp <;> omega), show ((i : Int)).tdiv (((8:Nat) : Int)) = ((i / 8 : Nat) : Int) from tdiv_nat i 8, show ((i : Int)).tmod (((8:Nat) : Int)) = ((i % 8 : Nat) : Int) from tmod_nat i 8, wrapI64 (x := i / 8) (by omega), atI_nat (by omega), if_neg (by omega),
      atI_nat (by simp only [List.length_append, List.length_take, nullL_len, List.length_replicate]; omega), wrap_succ (by omega)]
    simp only [Int.toNat_natCast]
    simp only [hc1, h6, h7]
    rw [hdec, hset]
  · intro rec
    dsimp only
    rw [if_neg (by simp), Nat.sub_self, List.replicate_zero, List.append_nil, List.take_of_length_le (by rw [nullL_len]; omega), f_nulls_Put_eq (by rw [nullL_len]; omega) (by rw [nullL_len]; omega)]
    simp only [Option.bind_some, f_bytes_Equal]
    by_cases h4 : nullB (nullL b M) = b
    · rw [if_pos h4, if_neg (by simp [h4])]
    · rw [if_neg h4, if_pos (by simp [h4])]

theorem f_nulls_Count_eq {n : Nat} {l : List Bool} (hl : l.length < 100000) (hn : l.length < n) : f_nulls_Count n (l, ()) = some ((((l.countP (fun b => b) : Nat) : Int), ()), ()) := by
  unfold f_nulls_Count
  dsimp only
  refine iter_run' (st := fun i => ((((l.take i).countP (fun b => b) : Nat) : Int), (i : Int))) l.length (by simp) ?_ ?_ hn
  · intro rec i hi
    have hc := List.countP_le_length (p := fun b : Bool => b) (l := l.take i)
    have hti : (l.take i).length ≤ l.length := by simp <;> omega
    have hsuc : (l.take (i + 1)).countP (fun b => b) = (l.take i).countP (fun b => b) + (if l[i] = true then 1 else 0) := by
      rw [List.take_succ_eq_append_getElem hi, List.countP_append, List.countP_singleton]
    dsimp only
    rw [if_pos (by simp <;> omega), atI_nat hi, Int.toNat_natCast, getD_lt' hi, wrap_succ (i := i) (by omega), hsuc]
    by_cases hx : l[i] = true
    · rw [if_pos hx, if_pos hx, wrap_succ (by omega)]
    · rw [if_neg hx, if_neg hx]
      simp only [Nat.add_zero]
  · intro rec
    dsimp only
    rw [if_neg (by simp), List.take_length]

end Go.Rb.R4
