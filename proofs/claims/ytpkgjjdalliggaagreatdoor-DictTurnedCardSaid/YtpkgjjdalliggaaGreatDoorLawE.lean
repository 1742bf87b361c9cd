/- Plain laws: values that a law plays with. Own work. -/
import Derived.Test.YtpkgjjdalliggaaGreatDoorLawD
set_option linter.unusedVariables false
set_option linter.unusedSimpArgs false
namespace Go.Rb.R3
open Go.Rb

theorem f_dict_Take_back {n : Nat} {t : Int} {l : List Vl} (hv : ∀ v, v ∈ l → okV v) (hr : rightL t l = true) (hl : l.length ≤ 1000) (hn : 70000 ≤ n) :
    f_dict_Take n (t, (l.length : Int), dictB t l, ()) = some ((l, true, ()), ()) := by
  unfold f_dict_Take
  rw [f_dict_read_back hv hr hl hn]
  rfl

theorem f_dict_Take_none {n : Nat} {t m : Int} {b : List Int} (ht : -9223372036854775808 ≤ t ∧ t ≤ 9223372036854775807) (hb : Bytes b) (hl : b.length < 1000000) (hn : 70000 ≤ n) (h : ∀ l, ¬ Good t m b l) :
    f_dict_Take n (t, m, b, ()) = some (([], false, ()), ()) := by
  obtain ⟨y, h1, h2⟩ := f_dict_Take_post (m := m) ht hb hl hn
  rcases h2 with ⟨l, _, hg⟩ | ⟨rfl, _⟩
  · exact absurd hg (h l)
  · exact h1

theorem nine {v : Int} (h : 0 ≤ v ∧ v < 9) : v = 0 ∨ v = 1 ∨ v = 2 ∨ v = 3 ∨ v = 4 ∨ v = 5 ∨ v = 6 ∨ v = 7 ∨ v = 8 := by omega

theorem picks_Num_post {n : Nat} {b : List Int} {at' : Int} (hb : Bytes b) (hl : b.length ≤ 60) (ha : 0 ≤ at' ∧ at' ≤ b.length) :
    Gets (f_play_Picks_Num n ((b, at', ()), (9:Int), ())) fun y => ∃ v a, y = ((v, ()), ((b, a, ()), ())) ∧ (0 ≤ v ∧ v < 9) ∧ 0 ≤ a ∧ a ≤ b.length := by
  unfold f_play_Picks_Num
  dsimp only
  by_cases h : (b.length : Int) ≤ at'
  · rw [if_pos (by simpa using h)]
    exact Gets.some ⟨_, _, rfl, by omega, ha⟩
  · rw [if_neg (by simpa using h), wrap_i64 (x := at' + 1) (by omega) (by omega), wrap_i64 (x := at' + 1 - 1) (by omega) (by omega), show at' + 1 - 1 = at' by omega]
    refine Gets.atI (by omega) (by omega) ?_
    rw [if_neg (by decide)]
    have hx : b.getD at'.toNat 0 ∈ b := by
      rw [getD_lt' (show at'.toNat < b.length by omega)]
      exact List.getElem_mem _
    have h2 := hb _ hx
    rw [wrap_i64 (by omega) (by omega)]
    refine Gets.some ⟨_, _, rfl, ⟨?_, ?_⟩, by omega, by omega⟩
    · exact Int.tmod_nonneg _ h2.1
    · exact Int.tmod_lt_of_pos _ (by omega)

theorem picks_Value_post {n : Nat} {b : List Int} {at' k : Int} (hb : Bytes b) (hl : b.length ≤ 60) (ha : 0 ≤ at' ∧ at' ≤ b.length) (hk : 1 ≤ k ∧ k ≤ 4) :
    Gets (f_play_Picks_Value n ((b, at', ()), k, ())) fun y => ∃ v a, y = ((v, ()), ((b, a, ()), ())) ∧ (v.1 = 0 ∨ (v.1 ≠ 0 ∧ rightV k v = true ∧ okV v)) ∧ 0 ≤ a ∧ a ≤ b.length := by
  unfold f_play_Picks_Value
  refine Gets.bind (picks_Num_post hb hl ha) ?_
  rintro _ ⟨v, a, rfl, hv, ha2⟩
  refine Gets.join (I := fun s => s = ((b, a, ()), 0, 0, [], ())) ?_ ?_
  · rintro _ rfl
    dsimp only
    by_cases h1 : k = 1
    · subst h1
      rw [if_pos (by simp)]
      rcases nine hv with rfl | rfl | rfl | rfl | rfl | rfl | rfl | rfl | rfl <;>
        exact Gets.atI (by decide) (by decide) (Gets.some ⟨_, _, rfl, .inr ⟨by decide, by decide, by unfold okV; decide⟩, ha2⟩)
    rw [if_neg (by simpa using h1)]
    by_cases h2 : k = 2
    · subst h2
      rw [if_pos (by simp)]
      rcases nine hv with rfl | rfl | rfl | rfl | rfl | rfl | rfl | rfl | rfl <;>
        exact Gets.atI (by decide) (by decide) (Gets.some ⟨_, _, rfl, .inr ⟨by decide, by decide, by unfold okV; decide⟩, ha2⟩)
    rw [if_neg (by simpa using h2)]
    by_cases h3 : k = 3
    · subst h3
      rw [if_pos (by simp)]
      rcases nine hv with rfl | rfl | rfl | rfl | rfl | rfl | rfl | rfl | rfl <;>
        exact Gets.some ⟨_, _, rfl, .inr ⟨by decide, by decide, by unfold okV; decide⟩, ha2⟩
    rw [if_neg (by simpa using h3)]
    obtain rfl : k = 4 := by omega
    rcases nine hv with rfl | rfl | rfl | rfl | rfl | rfl | rfl | rfl | rfl <;>
      exact Gets.atI (by decide) (by decide) (Gets.some ⟨_, _, rfl, .inr ⟨by decide, by decide, by unfold okV; decide⟩, ha2⟩)
  · intro J hJ
    dsimp only
    by_cases h0 : v = 0
    · rw [if_pos (by simpa using h0)]
      unfold f_play_Picks_Over
      simp only [Option.bind_some]
      cases hd : (!decide ((b.length : Int) ≤ a)) with
      | true =>
        rw [if_pos rfl]
        exact Gets.some ⟨_, _, rfl, .inl rfl, ha2⟩
      | false =>
        rw [if_neg Bool.false_ne_true]
        exact hJ _ rfl
    · rw [if_neg (by simpa using h0)]
      exact hJ _ rfl

theorem some_post {n : Nat} {b : List Int} {k : Int} (hb : Bytes b) (hl : b.length ≤ 60) (hk : 1 ≤ k ∧ k ≤ 4) (hn : 100 ≤ n) :
    Gets (f_law7_some n (b, k, (30:Int), ())) fun y => ∃ l : List Vl, y = ((l, ()), ()) ∧ l.length ≤ 30 ∧ rightL k l = true ∧ ∀ v, v ∈ l → okV v := by
  have hro := room_eq
  unfold f_law7_some f_play_Made
  simp only [Option.bind_some]
  refine Gets.iter (I := fun s => ∃ a l i, s = ((b, a, ()), l, i) ∧ (0 ≤ a ∧ a ≤ b.length) ∧ 0 ≤ i ∧ i ≤ 30 ∧ (l.length : Int) ≤ i ∧ ∀ v : Vl, v ∈ l → rightV k v = true ∧ okV v)
    (μ := fun s => 30 - s.2.2.toNat) ⟨_, _, _, rfl, by omega, by omega, by omega, by simp, by simp⟩ (by simp; omega) ?_
  rintro rec _ ⟨a, l, i, rfl, h1, h2, h3, h4, h5⟩ hrec
  dsimp only
  by_cases hi : i < 30
  · rw [if_pos (by simpa using hi), wrap_i64 (x := i + 1) (by omega) (by omega)]
    refine Gets.bind (picks_Value_post hb hl h1 hk) ?_
    rintro _ ⟨v, a2, rfl, hv, ha2⟩
    dsimp only
    rcases hv with hv | ⟨hv0, hv1, hv2⟩
    · rw [if_neg (by simp [hv])]
      exact hrec _ ⟨_, _, _, rfl, ha2, by omega, by omega, by omega, h5⟩ (by simp; omega)
    · rw [if_pos (by simp [hv0]), if_pos (by simp; omega)]
      refine hrec _ ⟨_, _, _, rfl, ha2, by omega, by omega, by simp; omega, ?_⟩ (by simp; omega)
      intro x hx
      rcases List.mem_append.1 hx with hx | hx
      · exact h5 x hx
      · simp only [List.mem_singleton] at hx; subst hx; exact ⟨hv1, hv2⟩
  · rw [if_neg (by simpa using hi)]
    refine Gets.some ⟨_, rfl, by omega, ?_, fun v hv => (h5 v hv).2⟩
    unfold rightL
    simp only [Bool.and_eq_true, decide_eq_true_eq, List.all_eq_true]
    exact ⟨hk, fun v hv => (h5 v hv).1⟩

theorem SameValues_self {n : Nat} {l : List Vl} (hl : l.length ≤ 1000) (hn : 2000 ≤ n) : f_ref1_SameValues n (l, l, ()) = some ((true, ()), ()) := by
  unfold f_ref1_SameValues
  dsimp only
  rw [if_neg (by simp)]
  refine iter_run' (st := fun i => (i : Int)) l.length rfl ?_ ?_ (by omega)
  · intro rec i hi
    rw [if_pos (by simp; omega), atI_nat hi, atI_nat hi, if_neg (by simp), wrap_succ (by omega)]
  · intro rec
    rw [if_neg (by simp)]

theorem begun_true : f_law7_begun 70000 () = some ((true, ()), ()) := by decide +kernel

end Go.Rb.R3

namespace Go.Rb.R3
open Go.Rb

theorem gets_eq {R : Type} {o : Option R} {r : R} (h : Gets o fun y => y = r) : o = some r := by
  obtain ⟨y, h1, rfl⟩ := h
  exact h1

def isT (t : Int) : Bool := decide (1 ≤ t) && decide (t ≤ 4)

theorem isT_iff {t : Int} : isT t = true ↔ 1 ≤ t ∧ t ≤ 4 := by simp [isT]

theorem ref_isType_eq (n : Nat) (t : Int) : f_ref1_isType n (t, ()) = some ((isT t, ()), ()) := by
  unfold f_ref1_isType isT
  dsimp only
  by_cases h : 1 ≤ t <;> simp [h]

theorem ref_May_eq (n : Nat) (v : Vl) : f_ref1_May n (v, ()) = some ((mayV v, ()), ()) := by
  obtain ⟨a, b, c, u⟩ := v
  unfold f_ref1_May mayV
  dsimp only
  by_cases h1 : a = 1
  · subst h1
    by_cases h2 : -32768 ≤ b
    · by_cases h3 : b ≤ 32767 <;> simp [h2, h3]
    · simp [h2]
  · by_cases h2 : a = 2
    · subst h2; simp
    · by_cases h3 : a = 0
      · subst h3
        by_cases h4 : b = 0 <;> simp [h4]
      · by_cases h4 : a = 3
        · subst h4
          by_cases h5 : b = 0
          · simp [h5]
          · by_cases h6 : b = 1 <;> simp [h5, h6]
        · by_cases h5 : a = 4
          · subst h5
            by_cases h6 : b = 0
            · have : ((c.length : Int) ≤ 20) ↔ c.length ≤ 20 := by omega
              simp [h6, this]
            · simp [h6]
          · simp [h1, h2, h3, h4, h5]

theorem ref_PutNum_eq {n v : Nat} (hv : v < 18446744073709551616) (hn : 10 ≤ n) : f_ref1_PutNum n ((v : Int), ()) = some ((putN v, ()), ()) := by
  unfold f_ref1_PutNum
  refine (iter_rec (I := fun k (s : Int × List Int) => ∃ v : Nat, s.1 = (v : Int) ∧ v < 128 ^ (k + 1) ∧ v < 18446744073709551616 ∧ s.2.length + k ≤ 1000)
    (res := fun s => some ((s.2 ++ putN s.1.toNat, ()), ())) ?_ n 9 _ ⟨v, rfl, by omega, hv, by simp⟩ (by omega)).trans (by simp)
  rintro k ⟨a, acc⟩ rec ⟨v, rfl, h1, h2, h3⟩ hrec
  dsimp only at h3
  have hr := room_eq
  dsimp only
  by_cases h : v < 128
  · rw [if_neg (by simp; omega), if_pos (by simp; omega)]
    rw [Int.toNat_natCast, putN_small h, wrapU8 (by omega)]
  · obtain ⟨k, rfl⟩ : ∃ k', k = k' + 1 := ⟨k - 1, by
      rcases Nat.eq_zero_or_pos k with h0 | h0
      · subst h0; omega
      · omega⟩
    rw [if_pos (by simp; omega), if_pos (by simp; omega)]
    have e1 : IntKind.u8.wrap ((IntKind.u8.wrap ((v : Int).tmod (128:Int))) + (128:Int)) = ((v % 128 + 128 : Nat) : Int) := by
      rw [show (v : Int).tmod (128:Int) = ((v % 128 : Nat) : Int) from tmod_nat v 128, wrapU8 (by omega), show (((v % 128 : Nat) : Int) + 128) = ((v % 128 + 128 : Nat) : Int) by omega, wrapU8 (by omega)]
    have e2 : IntKind.u64.wrap ((v : Int).tdiv (128:Int)) = ((v / 128 : Nat) : Int) := by
      rw [show (v : Int).tdiv (128:Int) = ((v / 128 : Nat) : Int) from tdiv_nat v 128, wrapU64 (by omega)]
    rw [e1, e2]
    rw [hrec k _ (by omega) ⟨v / 128, rfl, by rw [Nat.pow_succ] at h1; omega, by omega, by simp; omega⟩]
    simp only [Int.toNat_natCast]
    rw [putN_big (v := v) (by omega)]
    simp

theorem ref_Zig_eq {v : Int} (h1 : -9223372036854775808 ≤ v) (h2 : v ≤ 9223372036854775807) (n : Nat) : f_ref1_Zig n (v, ()) = some ((((zig v : Nat) : Int), ()), ()) := by
  unfold f_ref1_Zig zig
  dsimp only
  by_cases h : v < 0
  · rw [if_pos (by simpa using h), if_neg (by omega), wrap_i64 (x := v + 1) (by omega) (by omega), wrap_i64 (x := 0 - (v + 1)) (by omega) (by omega)]
    simp only [wrap_mod64]
    congr 3
    omega
  · rw [if_neg (by simpa using h), if_pos (by omega)]
    simp only [wrap_mod64]
    congr 3
    omega

theorem ref_Zag_eq {u : Nat} (h : u < 18446744073709551616) (n : Nat) : f_ref1_Zag n ((u : Int), ()) = some ((zag u, ()), ()) := by
  unfold f_ref1_Zag zag
  dsimp only
  rw [show ((u : Int)).tmod (2:Int) = ((u % 2 : Nat) : Int) from tmod_nat u 2, show ((u : Int)).tdiv (2:Int) = ((u / 2 : Nat) : Int) from tdiv_nat u 2, wrapU64 (by omega), wrapI64 (by omega)]
  by_cases h1 : u % 2 = 0
  · rw [if_neg (by simp; omega), if_pos h1]
  · rw [if_pos (by simp; omega), if_neg h1, wrap_i64 (x := 0 - ((u / 2 : Nat) : Int)) (by omega) (by omega), wrap_i64 (by omega) (by omega)]
    congr 3
    omega

/-- The number that bytes have, each of 7 bits. -/
def hornN : List Int → Nat
  | [] => 0
  | x :: l => x.toNat % 128 + 128 * hornN l

theorem hornN_put : ∀ v, hornN (putN v) = v := by
  intro v
  induction v using Nat.strongRecOn with
  | ind v ih =>
    by_cases h : v < 128
    · rw [putN_small h]; simp [hornN]; omega
    · rw [putN_big (by omega)]
      simp only [hornN, Int.toNat_natCast]
      rw [ih (v / 128) (by omega)]
      omega

theorem putN_shape : ∀ (v i : Nat) (hi : i < (putN v).length), (i + 1 < (putN v).length → 128 ≤ (putN v)[i]) ∧ (i + 1 = (putN v).length → (putN v)[i] < 128) := by
  intro v
  induction v using Nat.strongRecOn with
  | ind v ih =>
    intro i hi
    by_cases h : v < 128
    · have e := putN_small h
      rw [List.getElem_of_eq e]
      have hl : (putN v).length = 1 := by rw [e]; rfl
      have : i = 0 := by omega
      subst this
      simp
      omega
    · have e := putN_big (show 128 ≤ v by omega)
      rw [List.getElem_of_eq e]
      have hl : (putN v).length = (putN (v / 128)).length + 1 := by rw [e]; rfl
      have h1 := putN_len (v / 128)
      cases i with
      | zero =>
        simp only [List.getElem_cons_zero]
        omega
      | succ i =>
        simp only [List.getElem_cons_succ]
        have := ih (v / 128) (by omega) i (by omega)
        exact ⟨fun h => this.1 (by omega), fun h => this.2 (by omega)⟩

theorem takeN_shape {b : List Int} (hb : Bytes b) {v k : Nat} (h : takeN b = some (v, k)) : 1 ≤ k ∧ k ≤ 10 ∧ k ≤ b.length ∧ b.take k = putN v ∧ v < 18446744073709551616 ∧ ∀ i (hi : i < b.length), (i + 1 < k → 128 ≤ b[i]) ∧ (i + 1 = k → b[i] < 128) := by
  obtain ⟨h1, h2, h3⟩ := takeN_some hb h
  obtain ⟨h4, _⟩ := takeN_bytes hb h
  have h5 := putN_len v
  have h6 := putN_le10 h1
  refine ⟨by omega, by omega, h2, h3, h1, fun i hi => ?_⟩
  have key : ∀ (hik : i < k), b[i] = (putN v)[i]'(by omega) := by
    intro hik
    rw [← List.getElem_of_eq h3 (by rw [List.length_take]; omega), List.getElem_take]
  exact ⟨fun hk => by rw [key (by omega)]; exact (putN_shape v i (by omega)).1 (by omega), fun hk => by rw [key (by omega)]; exact (putN_shape v i (by omega)).2 (by omega)⟩

theorem ref_TakeNum_eq {n : Nat} {b : List Int} (hb : Bytes b) (hl : b.length < 1000000) (hn : 13 ≤ n) :
    f_ref1_TakeNum n (b, ()) = some (match takeN b with | some (v, k) => ((v : Int), (k : Int), true, ()) | none => (0, 0, false, ()), ()) := by
  apply gets_eq
  unfold f_ref1_TakeNum
  dsimp only
  refine Gets.iter (I := fun s : Int => ∃ i : Nat, s = ((i + 1 : Nat) : Int) ∧ i ≤ 10 ∧ i ≤ b.length ∧ ∀ j (hj : j < b.length), j < i → 128 ≤ b[j]) (μ := fun s => 12 - s.toNat) ⟨0, rfl, by omega, by omega, by omega⟩ (by simp; omega) ?_
  rintro rec _ ⟨i, rfl, hi1, hi2, hall⟩ hrec
  have stop : (10 ≤ i ∨ b.length ≤ i) → takeN b = none := by
    intro h
    cases htk : takeN b with
    | none => rfl
    | some r =>
      obtain ⟨v, k⟩ := r
      obtain ⟨g1, g2, g3, _, _, g4⟩ := takeN_shape hb htk
      have h1 := (g4 (k - 1) (by omega)).2 (by omega)
      have h2 := hall (k - 1) (by omega) (by omega)
      omega
  by_cases h10 : i < 10
  rotate_left
  · rw [if_neg (by simp; omega), stop (by omega)]
    exact Gets.some rfl
  rw [if_pos (by simp; omega)]
  by_cases hlen : i < b.length
  rotate_left
  · rw [if_neg (by simp; omega), stop (by omega)]
    exact Gets.some rfl
  have e0 : IntKind.i64.wrap (((i + 1 : Nat) : Int) - (1:Int)) = (i : Int) := by rw [show (((i + 1 : Nat) : Int) - (1:Int)) = (i : Int) by omega, wrapI64 (by omega)]
  obtain ⟨c, hc1, hc2, hc3⟩ := hb.get (i := i) hlen
  rw [if_pos (by simp; omega), e0, atI_nat hlen, Int.toNat_natCast, hc1]
  by_cases hc : 128 ≤ c
  · rw [if_pos (by simp; omega), wrap_succ (by omega)]
    refine hrec _ ⟨i + 1, rfl, by omega, by omega, fun j hj hji => ?_⟩ (by simp; omega)
    rcases Nat.lt_or_ge j i with h | h
    · exact hall j hj h
    · obtain rfl : j = i := by omega
      omega
  rw [if_neg (by simp; omega)]
  have hHlt : hornN (b.take (i + 1)) % 18446744073709551616 < 18446744073709551616 := Nat.mod_lt _ (by omega)
  have fin : ∀ s4 : Int × Int, s4 = (((hornN (b.take (i + 1)) % 18446744073709551616 : Nat) : Int), (-1 : Int)) → Gets ((f_ref1_PutNum n (s4.1, ())).bind fun (y5 : (List Int × Unit) × (Unit)) => (if 0 ≤ ((i + 1 : Nat) : Int) ∧ ((i + 1 : Nat) : Int) ≤ (b.length : Int) then (if (!decide (y5.1.1 = ((b.take ((i + 1 : Nat) : Int).toNat).drop (0:Int).toNat))) = true then (some (((0:Int), (0:Int), false, ()), ())) else (some ((s4.1, ((i + 1 : Nat) : Int), true, ()), ()))) else none)) (fun y => y = (match takeN b with | some (v, k) => ((v : Int), (k : Int), true, ()) | none => (0, 0, false, ()), ())) := by
    rintro _ rfl
    dsimp only
    rw [ref_PutNum_eq hHlt (by omega)]
    simp only [Option.bind_some]
    rw [if_pos (by omega), Int.toNat_natCast]
    by_cases heq : putN (hornN (b.take (i + 1)) % 18446744073709551616) = b.take (i + 1)
    · rw [if_neg (by simp [heq])]
      have e : takeN b = some (hornN (b.take (i + 1)) % 18446744073709551616, i + 1) := by
        have h1 := takeN_put (hornN (b.take (i + 1)) % 18446744073709551616) (b.drop (i + 1)) hHlt
        rw [heq, List.take_append_drop, List.length_take, Nat.min_eq_left (by omega)] at h1
        exact h1
      rw [e]
      exact Gets.some rfl
    · rw [if_pos (by simpa using heq)]
      have e : takeN b = none := by
        cases htk : takeN b with
        | none => rfl
        | some r =>
          obtain ⟨v, k⟩ := r
          obtain ⟨g1, g2, g3, g5, g6, g4⟩ := takeN_shape hb htk
          have hk : k = i + 1 := by
            rcases Nat.lt_trichotomy k (i + 1) with h | h | h
            · have h1 := (g4 (k - 1) (by omega)).2 (by omega)
              have h2 := hall (k - 1) (by omega) (by omega)
              omega
            · exact h
            · have h1 := (g4 i (by omega)).1 h
              omega
          subst hk
          exact absurd (by rw [g5, hornN_put, Nat.mod_eq_of_lt g6]) heq
      rw [e]
      exact Gets.some rfl
  refine Gets.iter (I := fun s : Int × Int => ∃ j : Nat, j ≤ i + 1 ∧ s = (((hornN ((b.take (i + 1)).drop j) % 18446744073709551616 : Nat) : Int), (j : Int) - 1)) (μ := fun s => (s.2 + 1).toNat) ⟨i + 1, by omega, ?_⟩ (by simp; omega) ?_
  · have : (b.take (i + 1)).drop (i + 1) = [] := by rw [List.drop_eq_nil_iff]; simp; omega
    rw [this]
    simp [hornN]
  · rintro rec2 _ ⟨j, hj, rfl⟩ hrec2
    dsimp only
    cases j with
    | zero =>
      rw [if_neg (by simp)]
      exact fin (((hornN ((b.take (i + 1)).drop 0) % 18446744073709551616 : Nat) : Int), ((0 : Nat) : Int) - 1) (by simp)
    | succ j =>
      have hjl : j < (b.take (i + 1)).length := by simp; omega
      obtain ⟨d, hd1, hd2, hd3⟩ := hb.get (i := j) (by omega)
      have hcons : (b.take (i + 1)).drop j = (d : Int) :: (b.take (i + 1)).drop (j + 1) := by
        rw [List.drop_eq_getElem_cons hjl, List.getElem_take, hd3]
      have ej : (((j + 1 : Nat) : Int) - 1) = (j : Int) := by omega
      rw [ej, if_pos (by simp), atI_nat (by omega), Int.toNat_natCast, hd1]
      refine hrec2 _ ⟨j, by omega, ?_⟩ (by dsimp only; rw [wrap_i64 (x := (j : Int) - 1) (by omega) (by omega)]; omega)
      rw [hcons]
      simp only [hornN, Int.toNat_natCast]
      rw [wrap_i64 (x := (j : Int) - 1) (by omega) (by omega), show ((d : Int)).tmod (128:Int) = ((d % 128 : Nat) : Int) from tmod_nat d 128]
      simp only [wrap_mod64]
      congr 1
      omega

theorem ref_width_eq {n v : Nat} (hv : v < 18446744073709551616) (hn : 64 < n) : f_ref1_width n ((v : Int), ()) = some ((((blen v : Nat) : Int), ()), ()) := by
  unfold f_ref1_width
  refine (iter_rec (I := fun k (s : Int × Int) => ∃ v m : Nat, s = ((v : Int), (m : Int)) ∧ v < 2 ^ k ∧ v < 18446744073709551616 ∧ m + k ≤ 1000)
    (res := fun s => some ((s.2 + ((blen s.1.toNat : Nat) : Int), ()), ())) ?_ n 64 _ ⟨v, 0, rfl, by omega, hv, by omega⟩ (by omega)).trans (by simp)
  rintro k _ rec ⟨v, m, rfl, h1, h2, h3⟩ hrec
  dsimp only
  by_cases h : v = 0
  · subst h
    rw [if_neg (by simp)]
    simp [blen_zero]
  · obtain ⟨k, rfl⟩ : ∃ k', k = k' + 1 := ⟨k - 1, by
      rcases Nat.eq_zero_or_pos k with h0 | h0
      · subst h0; simp at h1; omega
      · omega⟩
    rw [if_pos (by simp; omega), show ((v : Int)).tdiv (2:Int) = ((v / 2 : Nat) : Int) from tdiv_nat v 2, wrapU64 (by omega), wrap_succ (by omega)]
    rw [hrec k _ (by omega) ⟨v / 2, m + 1, rfl, by rw [Nat.pow_succ] at h1; omega, by omega, by omega⟩]
    simp only [Int.toNat_natCast]
    rw [blen_pos (v := v) (by omega)]
    congr 3
    omega

theorem ref_Width_eq {n : Nat} {l : List Int} (hl : Nums l) (hn : l.length < n) (hn2 : 64 < n) (hc : l.length < 1000000) : f_ref1_Width n (l, ()) = some ((((widthL l : Nat) : Int), ()), ()) := by
  unfold f_ref1_Width
  dsimp only
  refine iter_run' (st := fun i => (((widthL (l.take i) : Nat) : Int), (i : Int))) l.length (by simp [widthL]) ?_ ?_ hn
  · intro rec i hi
    have hx := hl _ (List.getElem_mem hi)
    dsimp only
    rw [if_pos (by simp; omega), atI_nat hi, Int.toNat_natCast, getD_lt' hi]
    obtain ⟨v, hv⟩ : ∃ v : Nat, l[i] = (v : Int) := ⟨_, (Int.toNat_of_nonneg hx.1).symm⟩
    rw [hv, ref_width_eq (by omega) hn2]
    simp only [Option.bind_some]
    rw [wrap_succ (by omega)]
    congr 2
    rw [List.take_succ_eq_append_getElem hi]
    unfold widthL
    rw [List.foldl_append]
    simp only [List.foldl_cons, List.foldl_nil, hv, Int.toNat_natCast]
    split <;> omega
  · intro rec
    simp

theorem size_code {m : Nat} (h : m < 1000000000) : IntKind.i64.wrap ((IntKind.i64.wrap ((m : Int) + (7:Int))).tdiv (8:Int)) = (((m + 7) / 8 : Nat) : Int) := by
  rw [show ((m : Int) + 7) = ((m + 7 : Nat) : Int) by omega, wrapI64 (by omega), show ((8 : Int)) = ((8 : Nat) : Int) from rfl, tdiv_nat, wrapI64 (by omega)]

theorem ref_PutBits_eq {n : Nat} {l : List Int} {w : Nat} (hl : Nums l) (hn : l.length < n) (hnw : 64 < n) (hc : l.length < 100000) :
    f_ref1_PutBits n (l, (w : Int), ()) = some (if w ≤ 64 ∧ widthL l ≤ w then (bitsB l w, true, ()) else ([], false, ()), ()) := by
  unfold f_ref1_PutBits
  dsimp only
  rw [if_neg (by simp)]
  by_cases hw : w ≤ 64
  rotate_left
  · rw [if_pos (by simp; omega), if_neg (by omega)]
  rw [if_neg (by simp; omega), ref_Width_eq hl hn hnw (by omega)]
  simp only [Option.bind_some]
  by_cases hwl : widthL l ≤ w
  rotate_left
  · rw [if_pos (by simp; omega), if_neg (by omega)]
  rw [if_neg (by simp; omega), if_pos (c := w ≤ 64 ∧ widthL l ≤ w) ⟨hw, hwl⟩]
  have hmul : l.length * w ≤ l.length * 64 := Nat.mul_le_mul_left _ hw
  have hr := room_eq
  rw [show ((l.length : Int) * (w : Int)) = ((l.length * w : Nat) : Int) by push_cast; rfl, wrapI64 (x := l.length * w) (by omega), size_code (by omega)]
  rw [if_pos (by refine ⟨by omega, by omega, ?_⟩; omega)]
  have hb := bitL_le l w
  refine iter_run' (st := fun i => (bytesTo (bitL l w) ((l.length * w + 7) / 8) (i * w), (i : Int))) l.length (by rw [Nat.zero_mul, bytesTo_zero, Int.toNat_natCast]; rfl) ?_ ?_ hn
  · intro rec i hi
    have hiw : i * w + w ≤ l.length * w := by
      have := Nat.mul_le_mul_right w (show i + 1 ≤ l.length from hi)
      rwa [Nat.add_mul, Nat.one_mul] at this
    have hx := hl _ (List.getElem_mem hi)
    obtain ⟨v, hv⟩ : ∃ v : Nat, l[i] = (v : Int) := ⟨_, (Int.toNat_of_nonneg hx.1).symm⟩
    dsimp only
    rw [if_pos (by simp; omega), atI_nat hi, Int.toNat_natCast, getD_lt' hi, hv]
    refine iter_run' (st := fun k => (bytesTo (bitL l w) ((l.length * w + 7) / 8) (i * w + k), ((v / 2 ^ k : Nat) : Int), (k : Int))) w (by simp) ?_ ?_ (by omega)
    · intro rec2 k hk
      dsimp only
      rw [if_pos (by simp; omega)]
      have e1 : IntKind.i64.wrap ((IntKind.i64.wrap ((i : Int) * (w : Int))) + (k : Int)) = ((i * w + k : Nat) : Int) := by
        rw [show ((i : Int) * (w : Int)) = ((i * w : Nat) : Int) by push_cast; rfl, wrapI64 (by omega), show (((i * w : Nat) : Int) + (k : Int)) = ((i * w + k : Nat) : Int) by omega, wrapI64 (by omega)]
      have e2 : (((i * w + k : Nat) : Int)).tdiv (8 : Int) = (((i * w + k) / 8 : Nat) : Int) := by
        rw [show ((8 : Int)) = ((8 : Nat) : Int) from rfl, tdiv_nat]
      have e3 : (((i * w + k : Nat) : Int)).tmod (8 : Int) = (((i * w + k) % 8 : Nat) : Int) := by
        rw [show ((8 : Int)) = ((8 : Nat) : Int) from rfl, tmod_nat]
      have hlt : (i * w + k) / 8 < (l.length * w + 7) / 8 := by omega
      rw [e1, e2, e3, wrapI64 (x := (i * w + k) / 8) (by omega), atI_nat (by rw [bytesTo_len]; exact hlt), if_neg (by omega), atI_nat (by rw [bytesTo_len]; exact hlt)]
      simp only [Int.toNat_natCast]
      rw [wrap_succ (by omega)]
      have hv2 : v / 2 ^ k ≤ v := Nat.div_le_self _ _
      have e4 : IntKind.u64.wrap (((v / 2 ^ k : Nat) : Int).tdiv (2:Int)) = ((v / 2 ^ (k + 1) : Nat) : Int) := by
        rw [show (((v / 2 ^ k : Nat) : Int)).tdiv (2:Int) = ((v / 2 ^ k / 2 : Nat) : Int) from tdiv_nat _ 2, wrapU64 (by omega), Nat.div_div_eq_div_mul, Nat.pow_succ]
      rw [e4]
      congr 2
      rw [show i * w + (k + 1) = i * w + k + 1 by omega, ← bytesTo_step hlt]
      congr 1
      have hsm := byteTo_small hb (i * w + k)
      have hp8 : 2 ^ ((i * w + k) % 8) ≤ 2 ^ 7 := Nat.pow_le_pow_right (by omega) (by omega)
      have hbit : bitL l w (i * w + k) = v / 2 ^ k % 2 := by
        unfold bitL
        rw [mul_add_div hk, mul_add_mod hk, getD_lt' hi, hv, Int.toNat_natCast]
      have h3 : (((v / 2 ^ k : Nat) : Int)).tmod (2:Int) = ((v / 2 ^ k % 2 : Nat) : Int) := tmod_nat _ 2
      have h4 := shl_pow (v / 2 ^ k % 2) ((i * w + k) % 8) 8 (by omega)
      rw [Int.toNat_natCast] at h4
      have h5 : v / 2 ^ k % 2 * 2 ^ ((i * w + k) % 8) ≤ 1 * 2 ^ ((i * w + k) % 8) := Nat.mul_le_mul_right _ (by omega)
      rw [bytesTo_get hlt, h3, wrapU8 (x := v / 2 ^ k % 2) (by omega), show IntKind.u8.bits = 8 from rfl, h4, wrapU8 (x := v / 2 ^ k % 2 * 2 ^ ((i * w + k) % 8)) (by omega), hbit]
      rw [show (((byteTo (bitL l w) (i * w + k) ((i * w + k) / 8) : Nat) : Int) + ((v / 2 ^ k % 2 * 2 ^ ((i * w + k) % 8) : Nat) : Int)) = ((byteTo (bitL l w) (i * w + k) ((i * w + k) / 8) + v / 2 ^ k % 2 * 2 ^ ((i * w + k) % 8) : Nat) : Int) by push_cast; rfl, wrapU8 (by omega)]
    · intro rec2
      dsimp only
      rw [if_neg (by simp), wrap_succ (by omega), show i * w + w = (i + 1) * w by rw [Nat.add_mul, Nat.one_mul]]
  · intro rec
    dsimp only
    rw [if_neg (by simp)]
    rfl

/-- n numbers of w bits: those ahead of i are read; of the i-th the bits from j on. -/
def numsUp (b : List Int) (n w i j : Nat) : List Int := (List.range n).map fun k => if k < i then ((numTo (bitB b) (k * w) w : Nat) : Int) else if k = i then ((numTo (bitB b) (k * w + j) (w - j) : Nat) : Int) else 0

theorem ref_TakeBits_eq {n : Nat} {b : List Int} {m w : Int} (hb : Bytes b) (hl : b.length < 1000000) (hn : 64001 < n) : f_ref1_TakeBits n (b, m, w, ()) = some (takeB b m w, ()) := by
  unfold f_ref1_TakeBits takeB
  dsimp only
  by_cases h1 : m < 0
  · rw [if_pos (by simpa using h1), if_neg (by omega)]
  rw [if_neg (by simpa using h1)]
  by_cases h2 : 1000 < m
  · rw [if_pos (by simpa using h2), if_neg (by omega)]
  rw [if_neg (by simpa using h2)]
  by_cases h3 : w < 0
  · rw [if_pos (by simpa using h3), if_neg (by omega)]
  rw [if_neg (by simpa using h3)]
  by_cases h4 : 64 < w
  · rw [if_pos (by simpa using h4), if_neg (by omega)]
  rw [if_neg (by simpa using h4)]
  obtain ⟨M, rfl⟩ : ∃ M : Nat, m = (M : Int) := ⟨_, (Int.toNat_of_nonneg (by omega)).symm⟩
  obtain ⟨W, rfl⟩ : ∃ W : Nat, w = (W : Int) := ⟨_, (Int.toNat_of_nonneg (by omega)).symm⟩
  simp only [Int.toNat_natCast]
  have hmul : M * W ≤ 1000 * 64 := Nat.mul_le_mul (by omega) (by omega)
  have hr := room_eq
  rw [show ((M : Int) * (W : Int)) = ((M * W : Nat) : Int) by push_cast; rfl, wrapI64 (x := M * W) (by omega), size_code (by omega)]
  by_cases h5 : b.length = (M * W + 7) / 8
  rotate_left
  · rw [if_pos (by simp; omega), if_neg (by omega)]
  rw [if_neg (by simp; omega), if_pos (c := 0 ≤ (M : Int) ∧ (M : Int) ≤ (M : Int) ∧ (M : Int) * 8 ≤ (room : Int)) (by omega)]
  refine iter_run' (st := fun i => (numsUp b M W i W, (i : Int))) M ?_ ?_ ?_ (by omega)
  · have : numsUp b M W 0 W = List.replicate M 0 := by
      apply List.ext_getElem
      · simp [numsUp]
      · intro i q1 q2
        simp [numsUp, numTo]
    rw [this]; rfl
  · intro rec i hi
    have hiw : i * W + W ≤ M * W := by
      have := Nat.mul_le_mul_right W (show i + 1 ≤ M from hi)
      rwa [Nat.add_mul, Nat.one_mul] at this
    have hnlen : ∀ i j, (numsUp b M W i j).length = M := by intro i j; simp [numsUp]
    dsimp only
    rw [if_pos (by simp; omega)]
    refine iter_run' (st := fun t => (numsUp b M W i (W - t), ((W - t : Nat) : Int) - 1)) W ?_ ?_ ?_ (by omega)
    · rw [Nat.sub_zero, wrap_i64 (by omega) (by omega)]
    · intro rec2 t ht
      obtain ⟨j, hj⟩ : ∃ j, W - t = j + 1 := ⟨W - t - 1, by omega⟩
      have hj2 : W - (t + 1) = j := by omega
      dsimp only
      rw [hj, hj2, show (((j + 1 : Nat) : Int) - 1) = (j : Int) by omega, if_pos (by simp)]
      have e1 : IntKind.i64.wrap ((IntKind.i64.wrap ((i : Int) * (W : Int))) + (j : Int)) = ((i * W + j : Nat) : Int) := by
        rw [show ((i : Int) * (W : Int)) = ((i * W : Nat) : Int) by push_cast; rfl, wrapI64 (by omega), show (((i * W : Nat) : Int) + (j : Int)) = ((i * W + j : Nat) : Int) by omega, wrapI64 (by omega)]
      have e4 : (((i * W + j : Nat) : Int)).tdiv (8 : Int) = (((i * W + j) / 8 : Nat) : Int) := tdiv_nat _ 8
      have e5 : (((i * W + j : Nat) : Int)).tmod (8 : Int) = (((i * W + j) % 8 : Nat) : Int) := tmod_nat _ 8
      rw [e1, e4, e5, wrapI64 (x := (i * W + j) / 8) (by omega), atI_nat (by rw [hnlen]; exact hi), atI_nat (by omega), if_neg (by omega), atI_nat (by rw [hnlen]; exact hi)]
      simp only [Int.toNat_natCast]
      rw [wrap_i64 (x := (j : Int) - 1) (by omega) (by omega)]
      congr 2
      obtain ⟨c, hc1, hc2, hc3⟩ := hb.get (i := (i * W + j) / 8) (by omega)
      have hbit : bitB b (i * W + j) = c / 2 ^ ((i * W + j) % 8) % 2 := by
        unfold bitB
        rw [hc1, Int.toNat_natCast]
      have h6 := shr_u8 c ((i * W + j) % 8) (by omega)
      rw [Int.toNat_natCast] at h6
      have h7 : (((c / 2 ^ ((i * W + j) % 8) : Nat) : Int)).tmod (2:Int) = ((c / 2 ^ ((i * W + j) % 8) % 2 : Nat) : Int) := tmod_nat _ 2
      have hget : (numsUp b M W i (j + 1)).getD i 0 = ((numTo (bitB b) (i * W + (j + 1)) (W - (j + 1)) : Nat) : Int) := by
        rw [getD_lt' (by rw [hnlen]; exact hi)]
        simp [numsUp]
      have hlt := numTo_lt (bitB_le b) (i * W + (j + 1)) (W - (j + 1))
      have hp : 2 ^ (W - (j + 1)) ≤ 2 ^ 63 := Nat.pow_le_pow_right (by omega) (by omega)
      rw [hget, hc1, h6, h7, ← hbit, wrapU64 (x := bitB b (i * W + j)) (by have := bitB_le b (i * W + j); omega), show ((2:Int) * ((numTo (bitB b) (i * W + (j + 1)) (W - (j + 1)) : Nat) : Int)) = ((2 * numTo (bitB b) (i * W + (j + 1)) (W - (j + 1)) : Nat) : Int) by push_cast; rfl, wrapU64 (by omega)]
      have hlow := numTo_low (bitB b) (i * W + j) (W - (j + 1))
      rw [show W - (j + 1) + 1 = W - j by omega] at hlow
      have hble := bitB_le b (i * W + j)
      rw [show (((2 * numTo (bitB b) (i * W + (j + 1)) (W - (j + 1)) : Nat) : Int) + ((bitB b (i * W + j) : Nat) : Int)) = ((numTo (bitB b) (i * W + j) (W - j) : Nat) : Int) by rw [hlow, show i * W + (j + 1) = i * W + j + 1 by omega]; push_cast; omega, wrapU64 (by rw [hlow, show i * W + j + 1 = i * W + (j + 1) by omega]; omega)]
      apply List.ext_getElem
      · simp [numsUp]
      · intro k q1 q2
        rw [List.getElem_set]
        simp only [numsUp, List.getElem_map, List.getElem_range]
        by_cases hk : i = k
        · subst hk
          rw [if_pos rfl, if_neg (by omega), if_pos rfl]
        · rw [if_neg hk]
          by_cases hk2 : k < i
          · rw [if_pos hk2, if_pos hk2]
          · rw [if_neg hk2, if_neg hk2, if_neg (by omega), if_neg (by omega)]
    · intro rec2
      dsimp only
      rw [if_neg (by simp), wrap_succ (by omega)]
      congr 2
      apply List.ext_getElem
      · simp [numsUp]
      · intro k q1 q2
        simp only [numsUp, List.getElem_map, List.getElem_range, Nat.sub_self]
        by_cases hk : k < i
        · rw [if_pos hk, if_pos (by omega)]
        · rw [if_neg hk]
          by_cases hk2 : k = i
          · subst hk2
            rw [if_pos rfl, if_pos (by omega)]
            simp
          · rw [if_neg hk2, if_neg (by omega)]
            by_cases hk3 : k = i + 1
            · rw [if_pos hk3]; simp [numTo]
            · rw [if_neg hk3]
  · intro rec
    dsimp only
    have hall : numsUp b M W M W = bitsL b M W := by
      unfold numsUp bitsL
      apply List.map_congr_left
      intro i hi
      have hi' : i < M := by simpa using hi
      rw [if_pos hi']
    rw [if_neg (by simp), hall, ref_PutBits_eq (bitsL_nums (by omega)) (by rw [bitsL_len]; omega) (by omega) (by rw [bitsL_len]; omega), if_pos ⟨by omega, bitsL_small⟩]
    simp only [Option.bind_some]
    by_cases h6 : bitsB (bitsL b M W) W = b
    · rw [if_neg (by simp [h6]), if_pos ⟨by omega, by omega, by omega, by omega, h5, h6⟩]
    · rw [if_pos (by simp [h6]), if_neg (fun h => h6 h.2.2.2.2.2)]

end Go.Rb.R3

namespace Go.Rb.R3
open Go.Rb

theorem ref_Fits_eq (n : Nat) (t : Int) (v : Vl) : f_ref1_Fits n (t, v, ()) = some ((mayV v && (isT t && (decide (v.1 = 0) || decide (v.1 = t))), ()), ()) := by
  unfold f_ref1_Fits
  dsimp only
  rw [ref_May_eq, ref_isType_eq]
  simp only [Option.bind_some]
  cases mayV v <;> cases isT t <;> by_cases h : v.1 = 0 <;> simp [h]

theorem ref_right_eq {n : Nat} {t : Int} {l : List Vl} (hn : l.length < n) (hc : l.length < 1000000) : f_ref1_right n (t, l, ()) = some ((rightL t l, ()), ()) := by
  unfold f_ref1_right
  dsimp only
  rw [iter_allL l (fun v => isT t && rightV t v) (some ((false, ()), ())) (some ((isT t, ()), ())) hn]
  · unfold rightL
    cases h : isT t with
    | true =>
      have h1 : (decide (1 ≤ t) && decide (t ≤ 4)) = true := h
      rw [h1]
      simp only [Bool.true_and]
      cases hh : l.all (rightV t) with
      | true => rw [if_pos (by simp)]
      | false => rw [if_neg (by simp)]
    | false =>
      have h1 : (decide (1 ≤ t) && decide (t ≤ 4)) = false := h
      rw [h1]
      simp
  · intro rec i hi
    rw [if_pos (by simp; omega), atI_nat hi, Int.toNat_natCast, getD_lt' hi, ref_Fits_eq, wrap_succ (by omega)]
    simp only [Option.bind_some]
    rw [atI_nat hi]
    unfold rightV
    cases mayV l[i] <;> cases isT t <;> by_cases h3 : l[i].1 = t <;> by_cases h4 : l[i].1 = 0 <;> simp [h3, h4] <;> intro h5 <;> omega
  · intro rec
    rw [if_neg (by simp), ref_isType_eq]
    rfl

theorem ref_one_eq {n : Nat} {t : Int} {v : Vl} (h : rightV t v = true) (hv : okV v) (hn : 10 ≤ n) : f_ref1_one n (v, ()) = some ((oneV v, ()), ()) := by
  obtain ⟨h1, h2⟩ := rightV_spec h
  have hr := room_eq
  unfold f_ref1_one oneV
  dsimp only
  by_cases h3 : v.1 = 3
  · rw [if_pos (by simpa using h3), if_pos h3]
    rw [wrap_u8 (by rcases h2 with h2 | h2 | h2 | h2 | h2 <;> omega) (by rcases h2 with h2 | h2 | h2 | h2 | h2 <;> omega)]
  · rw [if_neg (by simpa using h3), if_neg h3]
    by_cases h4 : v.1 = 4
    · have hl : v.2.2.1.length ≤ 20 := by omega
      rw [if_pos (by simpa using h4), if_pos (by simp; omega), if_pos h4, wrap_u8 (by omega) (by omega)]
      rfl
    · rw [if_neg (by simpa using h4), if_neg h4, ref_Zig_eq hv.2.1.1 hv.2.1.2]
      simp only [Option.bind_some]
      rw [ref_PutNum_eq (zig_lt hv.2.1.1 hv.2.1.2) hn]
      simp only [Option.bind_some]

theorem ref_Compare_eq {n : Nat} {t : Int} {x y : Vl} (ht : t ≠ 0) (hx : rightV t x = true) (hy : rightV t y = true) : ∃ c, f_ref1_Compare n (x, y, ()) = some ((c, ()), ()) ∧ (c < 0 ↔ ltV t x y = true) ∧ (c = 0 ↔ x = y) := by
  have a := (rightV_spec hx).1
  have b := (rightV_spec hy).1
  have hl := ltV_lin t
  unfold f_ref1_Compare f_ref1_class
  dsimp only
  rw [a, b]
  have e : ∀ z : Int, decide (z < z) = false := fun z => by simp
  by_cases h4 : t = 4
  · subst h4
    have l1 : ltV 4 x y = strLess x.2.2.1 y.2.2.1 := by simp [ltV]
    have l2 : ltV 4 y x = strLess y.2.2.1 x.2.2.1 := by simp [ltV]
    have hne : x = y ↔ (strLess x.2.2.1 y.2.2.1 = false ∧ strLess y.2.2.1 x.2.2.1 = false) := by
      rw [← l1, ← l2]
      constructor
      · rintro rfl; exact ⟨hl.irrefl _ hx, hl.irrefl _ hx⟩
      · rintro ⟨h1, h2⟩
        rcases hl.total x y hx hy with h | h | h
        · rw [h1] at h; cases h
        · exact h
        · rw [h2] at h; cases h
    have has : strLess x.2.2.1 y.2.2.1 = true → strLess y.2.2.1 x.2.2.1 = false := by
      rw [← l1, ← l2]; exact hl.asymm hx hy
    rw [l1]
    cases h1 : strLess x.2.2.1 y.2.2.1 with
    | true =>
      have h2 := has h1
      refine ⟨-1, by simp [h1, h2], by simp, ?_⟩
      rw [hne, h1]; simp
    | false =>
      cases h2 : strLess y.2.2.1 x.2.2.1 with
      | true =>
        refine ⟨1, by simp [h1, h2], by simp, ?_⟩
        rw [hne, h1, h2]; simp
      | false =>
        refine ⟨0, by simp [h1, h2], by simp, ?_⟩
        rw [hne, h1, h2]; simp
  · have l1 : ltV t x y = decide (x.2.1 < y.2.1) := by simp [ltV, h4]
    have l2 : ltV t y x = decide (y.2.1 < x.2.1) := by simp [ltV, h4]
    have hne : x = y ↔ x.2.1 = y.2.1 := by
      constructor
      · rintro rfl; rfl
      · intro h; exact right_eq hx hy (by rw [if_neg h4]; exact h)
    rw [l1]
    rcases Int.lt_trichotomy x.2.1 y.2.1 with h | h | h
    · have h2 : ¬ y.2.1 < x.2.1 := by omega
      refine ⟨-1, by simp [ht, h4, h], by simp [h], ?_⟩
      rw [hne]; simp; omega
    · have h2 : ¬ y.2.1 < x.2.1 := by omega
      have h3 : ¬ x.2.1 < y.2.1 := by omega
      refine ⟨0, by simp [ht, h4, h2, h3], by simp [h3], ?_⟩
      rw [hne]; simp [h]
    · have h2 : ¬ x.2.1 < y.2.1 := by omega
      refine ⟨1, by simp [ht, h4, h, h2], by simp [h2], ?_⟩
      rw [hne]; simp; omega

theorem insS_at {α : Type} [DecidableEq α] {lt : α → α → Bool} {S : α → Prop} (h : LinO lt S) {v : α} (hv : S v) : ∀ (k : Nat) (d : List α), (∀ x, x ∈ d → S x) → (∀ j (hj : j < d.length), j < k → lt d[j] v = true) → k ≤ d.length →
    (∀ hk : k < d.length, lt d[k] v = false) → insS lt v d = if d[k]? = some v then d else d.take k ++ v :: d.drop k
  | 0, [], _, _, _, _ => by simp [insS]
  | k + 1, [], _, _, hk, _ => by simp at hk
  | 0, x :: d, hS, _, _, hn => by
    have h1 : lt x v = false := hn (by simp)
    have hx := hS x (by simp)
    unfold insS
    rw [if_neg (by rw [h1]; simp)]
    rcases h.total x v hx hv with h2 | h2 | h2
    · rw [h1] at h2; cases h2
    · subst h2
      rw [h1, if_neg (by simp)]
      simp
    · rw [if_pos h2]
      have : x ≠ v := by rintro rfl; rw [h.irrefl x hx] at h2; cases h2
      simp [this]
  | k + 1, x :: d, hS, hlt, hk, hn => by
    have h1 : lt x v = true := hlt 0 (by simp) (by omega)
    have hd := fun y hy => hS y (List.mem_cons_of_mem _ hy)
    unfold insS
    rw [if_pos h1, insS_at h hv k d hd (fun j hj hjk => by have := hlt (j + 1) (by simpa using hj) (by omega); simpa using this) (by simpa using hk) (fun hk' => by have := hn (by simpa using hk'); simpa using this)]
    simp only [List.getElem?_cons_succ]
    split <;> simp

theorem ref_values_eq {n : Nat} {t : Int} {l : List Vl} (ht : t ≠ 0) (hr : ∀ v, v ∈ l → rightV t v = true) (hl : l.length < 100000) (hn : l.length + 1 < n) :
    f_ref1_values n (l, ()) = some ((distV t l, ()), ()) := by
  have hro := room_eq
  have hS : ∀ i, ∀ x, x ∈ distV t (l.take i) → rightV t x = true := fun i x hx => hr x (List.mem_of_mem_take ((dist_mem (ltV_lin t) (fun y hy => hr y (List.mem_of_mem_take hy)) x).1 hx))
  unfold f_ref1_values
  dsimp only
  refine iter_run' (st := fun i => (distV t (l.take i), (i : Int))) l.length (by simp [distV, distS]) ?_ ?_ (by omega)
  · intro rec i hi
    have hv := hr _ (List.getElem_mem hi)
    have hstep : distV t (l.take (i + 1)) = insS (ltV t) l[i] (distV t (l.take i)) := by
      rw [List.take_succ_eq_append_getElem hi]
      unfold distV distS
      rw [List.foldl_append]
      rfl
    have hdl : (distV t (l.take i)).length ≤ (l.take i).length := dist_len (ltV t) (l.take i)
    rw [List.length_take] at hdl
    dsimp only
    rw [if_pos (by simp; omega), hstep]
    obtain ⟨d, hd⟩ : ∃ d, distV t (l.take i) = d := ⟨_, rfl⟩
    have hSd := hS i
    rw [hd] at hSd hdl ⊢
    have hdl2 : d.length ≤ i := by omega
    refine join_intro (I := fun s q => ∃ k : Nat, s = (k : Int) ∧ k ≤ d.length ∧ (∀ j (hj : j < d.length), j < k → ltV t d[j] l[i] = true) ∧ (∀ hk : k < d.length, ltV t d[k] l[i] = false) ∧ q = rec (insS (ltV t) l[i] d, ((i + 1 : Nat) : Int))) ?_ ?_
    · rintro _ _ ⟨k, rfl, hk, h1, h2, rfl⟩
      rw [insS_at (ltV_lin t) hv k d hSd h1 hk h2]
      have ins : (if 0 ≤ (k : Int) ∧ (k : Int) ≤ (d.length : Int) then (if (([] : List Vl).length + ((d.take (k : Int).toNat).drop (0:Int).toNat).length) * 32 ≤ room then (atI (i : Int) l.length (if ((([] : List Vl) ++ ((d.take (k : Int).toNat).drop (0:Int).toNat)).length + ([(l.getD (i : Int).toNat ((0:Int), (0:Int), [], ()))] : List Vl).length) * 32 ≤ room then (if 0 ≤ (k : Int) ∧ (k : Int) ≤ (d.length : Int) then (if (((([] : List Vl) ++ ((d.take (k : Int).toNat).drop (0:Int).toNat)) ++ ([(l.getD (i : Int).toNat ((0:Int), (0:Int), [], ()))] : List Vl)).length + ((d.take (d.length : Int).toNat).drop (k : Int).toNat).length) * 32 ≤ room then (rec ((((([] : List Vl) ++ ((d.take (k : Int).toNat).drop (0:Int).toNat)) ++ ([(l.getD (i : Int).toNat ((0:Int), (0:Int), [], ()))] : List Vl)) ++ ((d.take (d.length : Int).toNat).drop (k : Int).toNat)), (IntKind.i64.wrap ((i : Int) + (1:Int))))) else none) else none) else none)) else none) else none) = rec (d.take k ++ l[i] :: d.drop k, ((i + 1 : Nat) : Int)) := by
        simp only [Int.toNat_natCast]
        rw [if_pos ⟨by omega, by omega⟩, if_pos (by simp; omega), atI_nat hi, getD_lt' hi, if_pos (by simp; omega), if_pos ⟨by omega, by omega⟩, if_pos (by simp; omega), wrap_succ (by omega)]
        simp
      by_cases hke : k = d.length
      · subst hke
        rw [if_pos (by simp), ins, if_neg (by simp)]
      · have hk' : k < d.length := by omega
        obtain ⟨c, hc, _, hc0⟩ := ref_Compare_eq (n := n) ht (hSd _ (List.getElem_mem hk')) hv
        rw [if_neg (by simp; omega), atI_nat hk', atI_nat hi, Int.toNat_natCast, Int.toNat_natCast, getD_lt' hk', getD_lt' hi, hc]
        simp only [Option.bind_some]
        by_cases hc1 : c = 0
        · rw [if_neg (by simp [hc1]), if_pos (by rw [List.getElem?_eq_getElem hk', hc0.1 hc1]), wrap_succ (by omega)]
        · rw [if_pos (by simp [hc1]), if_neg (c := d[k]? = some l[i]) (by rw [List.getElem?_eq_getElem hk']; intro h; exact hc1 (hc0.2 (Option.some.inj h)))]
          simp only [Int.toNat_natCast, getD_lt' hi] at ins ⊢
          exact ins
    · intro J hJ
      refine (iter_rec (I := fun m (s : Int) => ∃ k : Nat, s = (k : Int) ∧ k ≤ d.length ∧ d.length - k ≤ m ∧ ∀ j (hj : j < d.length), j < k → ltV t d[j] l[i] = true)
        (res := fun _ => rec (insS (ltV t) l[i] d, ((i + 1 : Nat) : Int))) ?_ n d.length _ ⟨0, rfl, by omega, by omega, by omega⟩ (by omega))
      rintro m _ rec2 ⟨k, rfl, hk, hm, h1⟩ hrec2
      by_cases hk' : k < d.length
      · obtain ⟨c, hc, hcl, _⟩ := ref_Compare_eq (n := n) ht (hSd _ (List.getElem_mem hk')) hv
        rw [if_pos (by simp; omega), atI_nat hk', atI_nat hi, Int.toNat_natCast, Int.toNat_natCast, getD_lt' hk', getD_lt' hi, hc]
        simp only [Option.bind_some]
        by_cases hc0 : c < 0
        · rw [if_pos (by simpa using hc0), wrap_succ (by omega)]
          refine hrec2 (d.length - (k + 1)) _ (by omega) ⟨k + 1, rfl, by omega, by omega, fun j hj hjk => ?_⟩
          rcases Nat.lt_or_ge j k with h | h
          · exact h1 j hj h
          · obtain rfl : j = k := by omega
            exact hcl.1 hc0
        · rw [if_neg (by simpa using hc0)]
          refine hJ _ _ ⟨k, rfl, hk, h1, fun _ => ?_, rfl⟩
          cases hb : ltV t d[k] l[i] with
          | false => rfl
          | true => exact absurd (hcl.2 hb) hc0
      · rw [if_neg (by simp; omega)]
        exact hJ _ _ ⟨k, rfl, hk, h1, fun h => absurd h hk', rfl⟩
  · intro rec
    dsimp only
    rw [if_neg (by simp), List.take_length]

end Go.Rb.R3

namespace Go.Rb.R3
open Go.Rb

theorem eqV_dec (x y : Vl) : ((decide (x.1 = y.1)) && ((decide (x.2.1 = y.2.1)) && (decide (x.2.2.1 = y.2.2.1)))) = decide (x = y) := by
  obtain ⟨a, b, c, u⟩ := x
  obtain ⟨a', b', c', u'⟩ := y
  by_cases h1 : a = a' <;> by_cases h2 : b = b' <;> by_cases h3 : c = c' <;> simp [h1, h2, h3]

theorem least_code {m : Nat} (hm : m < 1000000) : IntKind.u64.wrap (IntKind.i64.wrap ((if (1:Int) ≤ (m : Int) then (m : Int) else (1:Int)) - (1:Int))) = ((m - 1 : Nat) : Int) := by
  have e : (if (1:Int) ≤ (m : Int) then (m : Int) else (1:Int)) - (1:Int) = ((m - 1 : Nat) : Int) := by split <;> omega
  rw [e, wrapI64 (by omega), wrapU64 (by omega)]

theorem ref_dict_eq {n : Nat} {t : Int} {l : List Vl} (hv : ∀ v, v ∈ l → okV v) (hr : rightL t l = true) (hl : l.length ≤ 1000) (hn : 2000 ≤ n) :
    f_ref1_dict n (l, ()) = some ((dictB t l, ()), ()) := by
  have hro := room_eq
  obtain ⟨ht1, ht4, hrr⟩ := rightL_all hr
  have hR := dist_right hr hv
  have hmem := fun v => dist_mem (ltV_lin t) hrr v
  have hris := dist_rising (ltV_lin t) hrr
  have hsm := places_small hr
  have hdl : (distV t l).length ≤ l.length := dist_len (ltV t) l
  unfold f_ref1_dict dictB
  dsimp only
  rw [ref_values_eq (by omega) hrr (by omega) (by omega)]
  simp only [Option.bind_some]
  have hplen := places_len (t := t) l
  have hpl : ∀ i (hi : i < l.length), (placesV t l)[i]'(by rw [hplen]; exact hi) = ((posS (distV t l) l[i] : Nat) : Int) := by
    intro i hi
    simp [placesV]
  obtain ⟨pl, hpd⟩ : ∃ pl, placesV t l = pl := ⟨_, rfl⟩
  simp only [hpd] at hsm hpl hplen ⊢
  obtain ⟨D, hD⟩ : ∃ D, distV t l = D := ⟨_, rfl⟩
  have hris' : Rising (ltV t) D := by rw [← hD]; exact hris
  have hmem' : ∀ v, v ∈ D ↔ v ∈ l := by rw [← hD]; exact hmem
  rw [hD] at hR hsm hdl ⊢
  simp only [hD] at hpl
  have hb10 : blen (D.length - 1) ≤ 10 := blen_small (by omega)
  have hfl := flatMap_one_len hR
  have hput := putN_le10 (v := D.length) (by omega)
  rw [wrapU64 (by omega), ref_PutNum_eq (by omega) (by omega)]
  simp only [Option.bind_some]
  refine iter_run' (st := fun i => (putN D.length ++ (D.take i).flatMap oneV, (i : Int))) D.length (by simp) ?_ ?_ (by omega)
  · intro rec i hi
    have hRi := hR _ (List.getElem_mem hi)
    have h1 := oneV_len hRi.1 hRi.2
    have h2 : ((D.take i).flatMap oneV).length ≤ 21 * i := by
      have := flatMap_one_len (d := D.take i) fun v hv => hR v (List.mem_of_mem_take hv)
      rw [List.length_take, Nat.min_eq_left (by omega)] at this
      exact this
    dsimp only
    rw [if_pos (by simp; omega), atI_nat hi, Int.toNat_natCast, getD_lt' hi, ref_one_eq hRi.1 hRi.2 (by omega)]
    simp only [Option.bind_some]
    rw [if_pos (by simp only [List.length_append]; omega), wrap_succ (by omega), flatMap_take _ hi, List.append_assoc]
  · intro rec
    dsimp only
    rw [if_neg (by simp), List.take_length]
    refine iter_run' (st := fun i => (pl.take i, (i : Int))) l.length (by simp) ?_ ?_ (by omega)
    · intro rec2 i hi
      have hpi : i < pl.length := by omega
      have hin : l[i] ∈ D := (hmem' _).2 (List.getElem_mem hi)
      have hp := posS_lt hin
      dsimp only
      rw [if_pos (by simp; omega)]
      refine iter_run' (st := fun k => (pl.take i ++ (if posS D l[i] < k then [((posS D l[i] : Nat) : Int)] else []), (k : Int))) D.length (by simp) ?_ ?_ (by omega)
      · intro rec3 k hk
        have hiff := posS_iff (ltV_lin t) (fun x hx => (hR x hx).1) hris' hin hk
        dsimp only
        rw [if_pos (by simp; omega), atI_nat hk, atI_nat hi, Int.toNat_natCast, Int.toNat_natCast, getD_lt' hk, getD_lt' hi, eqV_dec]
        by_cases he : k = posS D l[i]
        · rw [if_pos (by simpa using hiff.2 he), if_neg (c := posS D l[i] < k) (by omega), if_pos (by simp; omega), wrapU64 (by omega), wrap_succ (by omega), if_pos (c := posS D l[i] < k + 1) (by omega)]
          simp [he]
        · rw [if_neg (by simpa using fun h => he (hiff.1 h)), wrap_succ (by omega)]
          congr 2
          congr 1
          by_cases h : posS D l[i] < k
          · rw [if_pos h, if_pos (by omega)]
          · rw [if_neg h, if_neg (by omega)]
      · intro rec3
        dsimp only
        rw [if_neg (by simp), if_pos hp, wrap_succ (by omega), List.take_succ_eq_append_getElem hpi, hpl i hi]
    · intro rec2
      dsimp only
      have hnum : Nums pl := fun x hx => by
        have h1 := hsm x hx
        have h2 : 2 ^ blen (D.length - 1) ≤ 2 ^ 10 := Nat.pow_le_pow_right (by omega) hb10
        omega
      have htake : pl.take l.length = pl := by rw [← hplen, List.take_length]
      rw [if_neg (by simp), least_code (by omega), ref_width_eq (by omega) (by omega)]
      simp only [Option.bind_some]
      rw [htake, ref_PutBits_eq hnum (by omega) (by omega) (by omega), if_pos ⟨by omega, widthL_le.2 fun x hx => (hsm x hx).2⟩]
      simp only [Option.bind_some]
      have hmul : l.length * blen (D.length - 1) ≤ 1000 * 10 := Nat.mul_le_mul hl hb10
      rw [if_pos (by simp only [List.length_append, bitsB_len, hplen]; omega), List.append_assoc]

theorem ref_Encode3_eq {n : Nat} {t : Int} {l : List Vl} (hv : ∀ v, v ∈ l → okV v) (hl : l.length ≤ 1000) (hn : 2000 ≤ n) :
    f_ref1_Encode n ((3:Int), t, l, ()) = some (if rightL t l = true then (dictB t l, true, ()) else ([], false, ()), ()) := by
  unfold f_ref1_Encode joinF
  dsimp only
  rw [ref_right_eq (by omega) (by omega)]
  simp only [Option.bind_some]
  cases hr : rightL t l with
  | false => simp
  | true =>
    simp only [Bool.not_true, Bool.false_eq_true, if_false, if_true]
    rw [if_neg (by simp), if_neg (by simp), if_neg (by simp), if_neg (by simp), if_pos (by simp), ref_dict_eq hv hr hl hn]
    rfl

def OneP (t : Int) (b : List Int) (y : (Vl × Int × Bool × Unit) × Unit) : Prop :=
  match firstV t b with
  | some (v, k) => y = ((v, (k : Int), mayV v, ()), ())
  | none => ∃ v k, y = ((v, k, false, ()), ())

theorem ref_takeOne_post {n : Nat} {t : Int} {b : List Int} (ht : 1 ≤ t ∧ t ≤ 4) (hb : Bytes b) (hl : b.length < 1000000) (hn : 13 ≤ n) : Gets (f_ref1_takeOne n (t, b, ())) (OneP t b) := by
  have hT : isT t = true := isT_iff.2 ht
  unfold f_ref1_takeOne
  dsimp only
  cases b with
  | nil =>
    rw [if_pos (by simp)]
    refine Gets.some ?_
    unfold OneP firstV
    split
    · rename_i h
      split at h
      · exact absurd h (by simp [takeN])
      · exact absurd h (by simp)
    · exact ⟨_, _, rfl⟩
  | cons c r =>
    have hc := hb c (by simp)
    have e0 : (c :: r).getD ((0:Int)).toNat (0:Int) = c := rfl
    have fin : ∀ (v : Vl) (k : Int), Gets ((f_ref1_May n (v, ())).bind fun (y1 : (Bool × Unit) × (Unit)) => (if y1.1.1 = true then ((f_ref1_isType n (t, ())).bind fun (y2 : (Bool × Unit) × (Unit)) => (some ((v, k, y2.1.1, ()), ()))) else (some ((v, k, false, ()), ())))) (fun y => y = ((v, k, mayV v, ()), ())) := by
      intro v k
      rw [ref_May_eq, ref_isType_eq]
      simp only [Option.bind_some]
      rw [hT]
      cases mayV v with
      | true => exact Gets.some rfl
      | false => exact Gets.some rfl
    rw [if_neg (by simp; omega)]
    by_cases h3 : t = 3
    · rw [if_pos (by simpa using h3)]
      refine Gets.atI (by omega) (by simp) ?_
      rw [e0, wrap_i64 (x := c) (by omega) (by omega)]
      refine (fin _ _).mono fun y hy => ?_
      unfold OneP firstV
      rw [if_neg (by omega)]
      dsimp only
      rw [if_pos h3]
      exact hy
    · rw [if_neg (by simpa using h3)]
      by_cases h4 : t = 4
      · rw [if_pos (by simpa using h4)]
        refine Gets.atI (by omega) (by simp) ?_
        rw [e0, wrap_i64 (x := c) (by omega) (by omega), wrap_i64 (x := 1 + c) (by omega) (by omega)]
        have e1 : (1 + c).toNat = 1 + c.toNat := by omega
        by_cases h : 1 + c.toNat ≤ (c :: r).length
        · rw [if_neg (by simp at h ⊢; omega), if_pos (by simp at h ⊢; omega)]
          refine (fin _ _).mono fun y hy => ?_
          unfold OneP firstV
          rw [if_neg (by omega)]
          dsimp only
          rw [if_neg h3, if_pos h, ← e1]
          dsimp only
          rw [hy, show (1 + c) = (((1 + c).toNat : Nat) : Int) by omega]
          rfl
        · rw [if_pos (by simp at h ⊢; omega)]
          refine Gets.some ?_
          unfold OneP firstV
          rw [if_neg (by omega)]
          dsimp only
          rw [if_neg h3, if_neg h]
          exact ⟨_, _, rfl⟩
      · rw [if_neg (by simpa using h4), ref_TakeNum_eq hb hl hn]
        simp only [Option.bind_some]
        have hfv : firstV t (c :: r) = (match takeN (c :: r) with | some (u, k) => some ((t, zag u, [], ()), k) | none => none) := by
          unfold firstV
          rw [if_pos ⟨h3, h4⟩]
          rfl
        unfold OneP
        rw [hfv]
        cases htk : takeN (c :: r) with
        | none =>
          dsimp only
          rw [if_pos (by simp)]
          exact Gets.some ⟨_, _, rfl⟩
        | some q =>
          obtain ⟨u, k⟩ := q
          dsimp only
          rw [if_neg (by simp), ref_Zag_eq (takeN_some hb htk).1]
          simp only [Option.bind_some]
          exact fin _ _

def RefP (t m : Int) (b : List Int) (y : (List Vl × Bool × Unit) × Unit) : Prop := (∃ l, y = ((l, true, ()), ()) ∧ (∀ v, v ∈ l → okV v) ∧ l.length ≤ 1000) ∨ y = (([], false, ()), ())

theorem ref_readDict_post {n : Nat} {t m : Int} {b : List Int} (ht : 1 ≤ t ∧ t ≤ 4) (hm : 0 ≤ m ∧ m ≤ 1000) (hb : Bytes b) (hl : b.length < 1000000) (hn : 70000 ≤ n) :
    Gets (f_ref1_readDict n (t, m, b, ())) (RefP t m b) := by
  have hro := room_eq
  have bad : Gets (some ((([] : List Vl), false, ()), ())) (RefP t m b) := Gets.some (.inr rfl)
  unfold f_ref1_readDict
  dsimp only
  rw [ref_TakeNum_eq hb hl (by omega)]
  simp only [Option.bind_some]
  obtain ⟨M, rfl⟩ : ∃ M : Nat, m = (M : Int) := ⟨_, (Int.toNat_of_nonneg (by omega)).symm⟩
  cases htk : takeN b with
  | none =>
    dsimp only
    rw [if_pos (by simp)]; exact bad
  | some r =>
    obtain ⟨u, k⟩ := r
    have hT := takeN_some hb htk
    dsimp only
    rw [if_neg (by simp), wrapU64 (by omega)]
    by_cases h3 : M < u
    · rw [if_pos (by simp; omega)]; exact bad
    rw [if_neg (by simp; omega), if_pos (by omega)]
    refine Gets.iter (I := fun s : List Int × List Vl × Int => ∃ (rest : List Int) (all : List Vl), s = (rest, all, (all.length : Int)) ∧ Bytes rest ∧ rest.length < 1000000 ∧ all.length ≤ u ∧ ∀ v, v ∈ all → okV v)
      (μ := fun s => u - s.2.1.length) ⟨_, [], rfl, ?_, ?_, by simp, by simp⟩ (by simp; omega) ?_
    · simp only [Int.toNat_natCast, List.take_length]; exact hb.drop _
    · simp only [Int.toNat_natCast, List.take_length, List.length_drop]; omega
    rintro rec _ ⟨rest, all, rfl, g1, g2, g3, g4⟩ hrec
    dsimp only
    by_cases h4 : all.length < u
    · rw [if_pos (by simp; omega)]
      refine Gets.bind (ref_takeOne_post (n := n) ht g1 g2 (by omega)) fun y hy => ?_
      unfold OneP at hy
      cases hf : firstV t rest with
      | none =>
        rw [hf] at hy
        obtain ⟨v, k, rfl⟩ := hy
        dsimp only
        rw [if_pos (by simp)]; exact bad
      | some r =>
        obtain ⟨v, k'⟩ := r
        rw [hf] at hy
        subst hy
        obtain ⟨q1, q2, q3, q4⟩ := firstV_ok (by omega) g1 hf
        dsimp only
        cases hmay : mayV v with
        | false => rw [if_pos (by simp)]; exact bad
        | true =>
          rw [if_neg (by simp), if_pos (by simp; omega), if_pos (by omega)]
          refine hrec _ ⟨List.drop ((k' : Nat) : Int).toNat (List.take ((rest.length : Nat) : Int).toNat rest), all ++ [v], ?_, ?_, ?_, by simp; omega, ?_⟩ (by simp; omega)
          · rw [show IntKind.u64.wrap ((all.length : Int) + 1) = (((all ++ [v]).length : Nat) : Int) by simp; rw [wrap_u64 (by omega) (by omega)]]
          · simp only [Int.toNat_natCast, List.take_length]; exact g1.drop _
          · simp only [Int.toNat_natCast, List.take_length, List.length_drop]; omega
          · intro x hx
            rcases List.mem_append.1 hx with hx | hx
            · exact g4 x hx
            · simp at hx; subst hx; exact q1
    · rw [if_neg (by simp; omega), least_code (by omega), ref_width_eq (by omega) (by omega)]
      simp only [Option.bind_some]
      rw [ref_TakeBits_eq g1 g2 (by omega)]
      simp only [Option.bind_some]
      unfold takeB
      split
      · rename_i hok
        dsimp only
        rw [if_neg (by simp)]
        have hnum := bitsL_nums (b := rest) (n := ((M : Int)).toNat) (w := (((blen (all.length - 1) : Nat) : Int)).toNat) (by omega)
        have hplen := bitsL_len rest ((M : Int)).toNat (((blen (all.length - 1) : Nat) : Int)).toNat
        generalize bitsL rest ((M : Int)).toNat (((blen (all.length - 1) : Nat) : Int)).toNat = places at hnum hplen ⊢
        rw [Int.toNat_natCast] at hplen
        refine Gets.iter (I := fun s : List Vl × Int => s.2 = (s.1.length : Int) ∧ s.1.length ≤ M ∧ ∀ v, v ∈ s.1 → okV v) (μ := fun s => M - s.1.length) ⟨by simp, by simp, by simp⟩ (by simp; omega) ?_
        rintro rec2 ⟨l, i⟩ ⟨k1, k2, k3⟩ hrec2
        dsimp only at k1 k2 k3
        subst k1
        dsimp only
        by_cases h5 : l.length < M
        · have h5' : l.length < places.length := by omega
          have hx := hnum _ (List.getElem_mem h5')
          rw [if_pos (by simp; omega), atI_nat h5', Int.toNat_natCast, getD_lt' h5', wrapU64 (by omega)]
          obtain ⟨p, hp⟩ : ∃ p : Nat, places[l.length] = (p : Int) := ⟨_, (Int.toNat_of_nonneg hx.1).symm⟩
          rw [hp]
          by_cases h6 : all.length ≤ p
          · rw [if_pos (by simp; omega)]; exact bad
          · have hpl : p < all.length := by omega
            rw [if_neg (by simp; omega), atI_nat h5', atI_nat hpl, Int.toNat_natCast, getD_lt' hpl, if_pos (by simp; omega), wrap_succ (by omega)]
            refine hrec2 _ ⟨by simp, by simp; omega, fun x hx => ?_⟩ (by simp; omega)
            rcases List.mem_append.1 hx with hx | hx
            · exact k3 x hx
            · simp at hx; subst hx; exact g4 _ (List.getElem_mem hpl)
        · rw [if_neg (by simp; omega)]
          exact Gets.some (.inl ⟨l, rfl, k3, by omega⟩)
      · dsimp only
        rw [if_pos (by simp)]; exact bad

end Go.Rb.R3

namespace Go.Rb.R3
open Go.Rb

theorem ref_readDict_back {n : Nat} {t : Int} {l : List Vl} (hv : ∀ v, v ∈ l → okV v) (hr : rightL t l = true) (hl : l.length ≤ 1000) (hn : 70000 ≤ n) :
    f_ref1_readDict n (t, (l.length : Int), dictB t l, ()) = some ((l, true, ()), ()) := by
  have hro := room_eq
  obtain ⟨ht1, ht4, hrr⟩ := rightL_all hr
  have hb := dictB_in hr hv
  have hbl := dictB_len hr hv hl
  have hdl := dist_len (ltV t) l
  have hR := dist_right hr hv
  have hsm := places_small hr
  have hplt := places_lt hr
  have hback := places_back hr
  obtain ⟨b, hbd⟩ : ∃ b, dictB t l = b := ⟨_, rfl⟩
  rw [hbd] at hb hbl ⊢
  have hbd' := hbd
  unfold dictB at hbd'
  obtain ⟨D, hD⟩ : ∃ D, distV t l = D := ⟨_, rfl⟩
  rw [hD] at hbd' hR hsm hplt hback
  have hDl : D.length ≤ l.length := by rw [← hD]; exact hdl
  have htk : takeN b = some (D.length, (putN D.length).length) := by rw [← hbd']; exact takeN_put _ _ (by omega)
  have hdrop : b.drop (putN D.length).length = D.flatMap oneV ++ bitsB (placesV t l) (blen (D.length - 1)) := by rw [← hbd']; simp
  have hb10 : blen (D.length - 1) ≤ 10 := blen_small (by omega)
  have hmul : l.length * blen (D.length - 1) ≤ 1000 * 10 := Nat.mul_le_mul hl hb10
  have hkl := (takeN_some hb htk).2.1
  have hfl := flatMap_one_len hR
  have hbits : Bytes (bitsB (placesV t l) (blen (D.length - 1))) := bytesTo_in (bitL_le _ _)
  unfold f_ref1_readDict
  dsimp only
  rw [ref_TakeNum_eq hb (by omega) (by omega), htk]
  simp only [Option.bind_some]
  rw [if_neg (by simp), wrapU64 (by omega), if_neg (by simp; omega), if_pos (by omega)]
  refine iter_run' (st := fun i => ((D.drop i).flatMap oneV ++ bitsB (placesV t l) (blen (D.length - 1)), D.take i, (i : Int))) D.length ?_ ?_ ?_ (by omega)
  · simp only [Int.toNat_natCast, List.take_length, hdrop]; simp
  · intro rec i hi
    have hsub : ∀ v, v ∈ D.drop i → rightV t v = true ∧ okV v := fun v hm => hR v (List.mem_of_mem_drop hm)
    have hfl2 := flatMap_one_len hsub
    have hrest : Bytes ((D.drop i).flatMap oneV ++ bitsB (placesV t l) (blen (D.length - 1))) := by
      intro x hx
      rcases List.mem_append.1 hx with hx | hx
      · exact flatMap_one_in hsub x hx
      · exact hbits x hx
    have hlen : ((D.drop i).flatMap oneV ++ bitsB (placesV t l) (blen (D.length - 1))).length < 1000000 := by
      simp only [List.length_append, bitsB_len, places_len]
      simp only [List.length_drop] at hfl2
      omega
    have hdi : D.drop i = D[i] :: D.drop (i + 1) := List.drop_eq_getElem_cons hi
    have hRi := hR _ (List.getElem_mem hi)
    have hmay : mayV D[i] = true := by
      have := hRi.1
      unfold rightV at this
      simp only [Bool.and_eq_true] at this
      exact this.2
    have hfst := firstV_one hRi.1 hRi.2 ((D.drop (i + 1)).flatMap oneV ++ bitsB (placesV t l) (blen (D.length - 1)))
    obtain ⟨y, hy1, hy2⟩ := ref_takeOne_post (n := n) (t := t) ⟨ht1, ht4⟩ hrest hlen (by omega)
    dsimp only
    rw [if_pos (by simp; omega), hy1]
    rw [hdi] at hy2 hlen ⊢
    rw [List.flatMap_cons, List.append_assoc] at hy2 hlen ⊢
    unfold OneP at hy2
    rw [hfst] at hy2
    subst hy2
    simp only [Option.bind_some]
    rw [if_neg (by simp [hmay]), if_pos (by simp; omega), if_pos (by refine ⟨by omega, ?_⟩; simp only [List.length_append]; omega), wrap_u64 (by omega) (by omega)]
    simp only [Int.toNat_natCast, List.take_length, List.drop_left, List.take_succ_eq_append_getElem hi]
    rfl
  · intro rec
    dsimp only
    rw [if_neg (by simp), List.drop_length, List.flatMap_nil, List.nil_append, List.take_length, least_code (by omega), ref_width_eq (by omega) (by omega)]
    simp only [Option.bind_some]
    rw [ref_TakeBits_eq hbits (by rw [bitsB_len, places_len]; omega) (by omega)]
    simp only [Option.bind_some]
    have hbb : bitsL (bitsB (placesV t l) (blen (D.length - 1))) l.length (blen (D.length - 1)) = placesV t l := by
      have := bitsL_bitsB (l := placesV t l) (w := blen (D.length - 1)) hsm
      rwa [places_len] at this
    unfold takeB
    split
    rotate_left
    · rename_i hno
      exfalso
      apply hno
      simp only [Int.toNat_natCast, hbb]
      exact ⟨by omega, by omega, by omega, by omega, by rw [bitsB_len, places_len], trivial⟩
    simp only [Int.toNat_natCast, hbb]
    rw [if_neg (by simp)]
    refine iter_run' (st := fun i => (((placesV t l).take i).map (fun p => D.getD p.toNat d0), (i : Int))) (placesV t l).length (by simp) ?_ ?_ (by rw [places_len]; omega)
    · intro rec2 i hi
      have hx := hplt _ (List.getElem_mem hi)
      have hil : i < l.length := by rw [places_len] at hi; exact hi
      dsimp only
      obtain ⟨p, hp⟩ : ∃ p : Nat, (placesV t l)[i] = (p : Int) := ⟨_, (Int.toNat_of_nonneg hx.1).symm⟩
      have hpl : p < D.length := by rw [hp, Int.toNat_natCast] at hx; exact hx.2
      rw [if_pos (by simp; omega), atI_nat hi, Int.toNat_natCast, getD_lt' hi, hp, wrapU64 (by omega), if_neg (by simp; omega), atI_nat hi, atI_nat hpl, Int.toNat_natCast, if_pos (by simp; omega), wrap_succ (by omega), map_take _ hi, hp, Int.toNat_natCast]
    · intro rec2
      dsimp only
      rw [if_neg (by rw [places_len]; simp), List.take_length, hback]

theorem ref_read3_post {n : Nat} {t m : Int} {b : List Int} (ht : 1 ≤ t ∧ t ≤ 4) (hm : 0 ≤ m ∧ m ≤ 1000) (hb : Bytes b) (hl : b.length < 1000000) (hn : 70000 ≤ n) :
    Gets (f_ref1_read n ((3:Int), t, m, b, ())) (RefP t m b) := by
  unfold f_ref1_read
  dsimp only
  rw [if_neg (by simp), if_neg (by simp), if_pos (by simp)]
  refine Gets.bind (ref_readDict_post ht hm hb hl hn) ?_
  rintro ⟨⟨l, ok, u⟩, u2⟩ h
  exact Gets.some h

theorem ref_Decode3_post {n : Nat} {t m : Int} {b : List Int} (hb : Bytes b) (hl : b.length < 1000000) (hn : 70000 ≤ n) :
    Gets (f_ref1_Decode n ((3:Int), t, m, b, ())) fun y => (∃ l, y = ((l, true, ()), ()) ∧ Good t m b l) ∨ (y = (([], false, ()), ()) ∧ ∀ l, ¬ Good t m b l) := by
  have bad : (∀ l, ¬ Good t m b l) → Gets (some ((([] : List Vl), false, ()), ())) fun y => (∃ l, y = ((l, true, ()), ()) ∧ Good t m b l) ∨ (y = (([], false, ()), ()) ∧ ∀ l, ¬ Good t m b l) := fun h => Gets.some (.inr ⟨rfl, h⟩)
  unfold f_ref1_Decode
  dsimp only
  by_cases h1 : m < 0
  · rw [if_pos (by simpa using h1)]
    exact bad fun l hg => by have := hg.1; omega
  rw [if_neg (by simpa using h1)]
  by_cases h2 : 1000 < m
  · rw [if_pos (by simpa using h2)]
    exact bad fun l hg => by have := hg.2.1; omega
  rw [if_neg (by simpa using h2), ref_isType_eq]
  simp only [Option.bind_some]
  cases hT : isT t with
  | false =>
    rw [if_pos (by simp)]
    refine bad fun l hg => ?_
    obtain ⟨q1, q2, _⟩ := rightL_all hg.2.2.2.1
    rw [isT_iff.2 ⟨q1, q2⟩] at hT
    cases hT
  | true =>
    have ht := isT_iff.1 hT
    rw [if_neg (by simp)]
    obtain ⟨y, hy1, hy2⟩ := ref_read3_post (n := n) (m := m) ht ⟨by omega, by omega⟩ hb hl hn
    have only : ∀ l, Good t m b l → y = ((l, true, ()), ()) := by
      rintro l ⟨g1, g2, g3, g4, g5, g6⟩
      have h := ref_readDict_back (n := n) g5 g4 (by omega) hn
      rw [g6, g3] at h
      unfold f_ref1_read at hy1
      dsimp only at hy1
      rw [if_neg (by simp), if_neg (by simp), if_pos (by simp), h] at hy1
      exact (Option.some.inj hy1).symm
    rw [hy1]
    simp only [Option.bind_some]
    unfold f_lend_ref1_Encode
    dsimp only
    rcases hy2 with ⟨l, rfl, hv, hll⟩ | rfl
    · dsimp only
      rw [ref_Encode3_eq hv hll (by omega)]
      simp only [Option.map_some, Option.bind_some]
      rw [if_neg (by simp)]
      cases hr : rightL t l with
      | false =>
        rw [if_neg Bool.false_ne_true, if_pos (by simp)]
        refine bad fun l' hg => ?_
        have h := only l' hg
        simp only [Prod.mk.injEq] at h
        obtain ⟨⟨rfl, _⟩, _⟩ := h
        rw [hg.2.2.2.1] at hr
        cases hr
      | true =>
        rw [if_pos rfl]
        dsimp only
        rw [if_neg (by simp)]
        by_cases h3 : (l.length : Int) = m
        · rw [if_neg (by simpa using h3)]
          by_cases h4 : dictB t l = b
          · rw [if_neg (by simpa using h4)]
            exact Gets.some (.inl ⟨l, rfl, by omega, by omega, h3, hr, hv, h4⟩)
          · rw [if_pos (by simpa using h4)]
            refine bad fun l' hg => ?_
            have h := only l' hg
            simp only [Prod.mk.injEq] at h
            obtain ⟨⟨rfl, _⟩, _⟩ := h
            exact h4 hg.2.2.2.2.2
        · rw [if_pos (by simpa using h3)]
          refine bad fun l' hg => ?_
          have h := only l' hg
          simp only [Prod.mk.injEq] at h
          obtain ⟨⟨rfl, _⟩, _⟩ := h
          exact h3 hg.2.2.1
    · dsimp only
      rw [ref_Encode3_eq (l := []) (by simp) (by simp) (by omega)]
      simp only [Option.map_some, Option.bind_some]
      rw [if_pos (by simp)]
      refine bad fun l' hg => ?_
      have h := only l' hg
      simp at h

theorem Good.uniq {t m : Int} {b : List Int} {l l' : List Vl} (h : Good t m b l) (h' : Good t m b l') : l = l' := by
  obtain ⟨_, _, g3, g4, _, g6⟩ := h
  obtain ⟨_, _, k3, k4, _, k6⟩ := h'
  exact (dictB_prefix g4 k4 (by omega) (s := []) (by rw [List.append_nil, g6, k6])).1

/-- Both take the same. -/
theorem dict_both {n : Nat} {t m : Int} {b : List Int} (ht : -9223372036854775808 ≤ t ∧ t ≤ 9223372036854775807) (hb : Bytes b) (hl : b.length < 1000000) (hn : 70000 ≤ n) :
    ∃ l : List Vl, ∃ ok : Bool, l.length ≤ 1000 ∧ f_dict_Take n (t, m, b, ()) = some ((l, ok, ()), ()) ∧ f_ref1_Decode n ((3:Int), t, m, b, ()) = some ((l, ok, ()), ()) := by
  obtain ⟨y, h1, h2⟩ := f_dict_Take_post (m := m) ht hb hl hn
  obtain ⟨z, h3, h4⟩ := ref_Decode3_post (t := t) (m := m) hb hl hn
  rcases h2 with ⟨l, rfl, hg⟩ | ⟨rfl, hno⟩
  · rcases h4 with ⟨l', rfl, hg'⟩ | ⟨rfl, hno'⟩
    · obtain rfl := hg.uniq hg'
      have := hg.2.1
      have := hg.2.2.1
      exact ⟨l, true, by omega, h1, h3⟩
    · exact absurd hg (hno' l)
  · rcases h4 with ⟨l', rfl, hg'⟩ | ⟨rfl, hno'⟩
    · exact absurd hg' (hno l')
    · exact ⟨[], false, by simp, h1, h3⟩

end Go.Rb.R3
