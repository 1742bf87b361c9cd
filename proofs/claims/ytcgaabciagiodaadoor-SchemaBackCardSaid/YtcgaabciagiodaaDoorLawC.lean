/- What the functions on schemas compute: names, places, types. Own work. -/
import Derived.Test.YtcgaabciagiodaaDoorLawA
import Derived.Test.YtcgaabciagiodaaDoorRbE
import Derived.Lib.RuneCount
import Derived.Test.YtcgaabciagiodaaDoorLawB
set_option linter.unusedVariables false
set_option linter.unusedSimpArgs false
namespace Go.Rb.S2
open Go.Rb

abbrev Cl : Type := Int × List Int × Int × Unit
abbrev V : Type := Int × Int × List Int × Unit
abbrev Sch : Type := List Cl × Int × Unit
abbrev Lay : Type := Int × Int × Int × List Int × Unit
abbrev Chg : Type := Int × Int × List Int × Int × V × Int × Int × Unit
abbrev d0 : V := (0, 0, [], ())
abbrev k0 : Cl := (0, [], 0, ())

theorem getD_lt {α : Type} {l : List α} {i : Nat} {d : α} (hi : i < l.length) : l.getD i d = l[i] := by
  rw [List.getD_eq_getElem?_getD, List.getElem?_eq_getElem hi]
  rfl

theorem getD_mem {α : Type} {l : List α} {i : Nat} {d : α} (hi : i < l.length) : l.getD i d ∈ l := by
  rw [getD_lt hi]; exact List.getElem_mem hi

/-- The first place where it is so. -/
def firstN (len : Nat) (p : Nat → Bool) : Option Nat := (List.range len).find? p

theorem firstN_lt {len i : Nat} {p : Nat → Bool} (h : firstN len p = some i) : i < len := by
  have := List.mem_of_find?_eq_some h
  simpa using this

theorem firstN_at {len i : Nat} {p : Nat → Bool} (h : firstN len p = some i) : p i = true := List.find?_some h

theorem firstN_none {len : Nat} {p : Nat → Bool} : firstN len p = none ↔ ∀ i, i < len → p i = false := by
  simp [firstN, List.find?_eq_none]

theorem firstN_congr {len : Nat} {p q : Nat → Bool} (h : ∀ i, i < len → p i = q i) : firstN len p = firstN len q := by
  unfold firstN
  have : ∀ l : List Nat, (∀ i, i ∈ l → i < len) → l.find? p = l.find? q := by
    intro l
    induction l with
    | nil => intro _; rfl
    | cons a l ih =>
      intro hl
      rw [List.find?_cons, List.find?_cons, h a (hl a List.mem_cons_self), ih fun i hi => hl i (List.mem_cons_of_mem _ hi)]
  exact this _ fun i hi => by simpa using hi

/-- Is it so somewhere? -/
def anyN (len : Nat) (p : Nat → Bool) : Bool := (List.range len).any p
def allN (len : Nat) (p : Nat → Bool) : Bool := (List.range len).all p

theorem anyN_iff {len : Nat} {p : Nat → Bool} : anyN len p = true ↔ ∃ i, i < len ∧ p i = true := by simp [anyN]
theorem allN_iff {len : Nat} {p : Nat → Bool} : allN len p = true ↔ ∀ i, i < len → p i = true := by simp [allN]

theorem firstN_some {len : Nat} {p : Nat → Bool} : (firstN len p).isSome = anyN len p := by
  unfold firstN anyN
  rw [Bool.eq_iff_iff]
  simp

theorem first_all {len : Nat} {p : Nat → Bool} : (firstN len fun i => !p i) = none ↔ allN len p = true := by
  rw [firstN_none, allN_iff]
  simp

/-- A loop that asks each, until one is not so. -/
theorem iter_all {R : Type} {body : (Int → Option R) → Int → Option R} (len : Nat) (p : Nat → Bool) (no fin : R) {n : Nat} (hn : len < n) (hb : ∀ rec (i : Nat), i < len → body rec (i : Int) = if p i = true then rec ((i + 1 : Nat) : Int) else some no)
    (he : ∀ rec, body rec (len : Int) = some fin) : iterF body n (0 : Int) = some (if allN len p = true then fin else no) := by
  rw [iter_first0 len (fun i => !p i) (fun _ => some no) (some fin) hn]
  · cases hf : (List.range len).find? (fun i => !p i) with
    | none => rw [if_pos (first_all.1 hf)]
    | some j =>
      rw [if_neg]
      intro h
      rw [← first_all] at h
      unfold firstN at h
      rw [h] at hf
      cases hf
  · intro rec i hi
    rw [hb rec i hi]
    cases p i <;> rfl
  · exact he

/-! ### Names -/

def byteOK (b : Int) : Bool := decide (33 ≤ b) && decide (b ≤ 126)
def nameOK (nm : List Int) : Bool := decide (1 ≤ nm.length) && decide (nm.length ≤ 12) && allN nm.length fun i => byteOK (nm.getD i 0)

theorem F28_eq {n : Nat} {nm : List Int} (hn : nm.length < n) (hc : nm.length ≤ 1000) : F28 n (nm, ()) = some ((nameOK nm, ()), ()) := by
  unfold F28
  dsimp only
  rw [iter_all nm.length (fun i => byteOK (nm.getD i 0)) ((false, ()), ()) ((decide (1 ≤ nm.length) && decide (nm.length ≤ 12), ()), ()) hn]
  · unfold nameOK
    cases allN nm.length fun i => byteOK (nm.getD i 0) <;> simp
  · intro rec i hi
    have h1 : (i : Int) < nm.length := by omega
    simp only [h1, atI, decide_true, if_true, Int.toNat_natCast, Int.natCast_nonneg, and_self, wrap_succ (show i < 9223372036854775807 by omega), decide_eq_true_eq]
    unfold byteOK
    generalize nm.getD i 0 = v
    by_cases a : 33 ≤ v
    · by_cases b : v ≤ 126
      · have h2 : ¬ (v < 33) := by omega
        have h3 : ¬ (126 < v) := by omega
        simp [a, b, h2, h3]
      · have h2 : ¬ (v < 33) := by omega
        have h3 : 126 < v := by omega
        simp [a, b, h2, h3]
    · have h2 : v < 33 := by omega
      simp [a, h2]
  · intro rec
    by_cases a : 1 ≤ nm.length
    · have : (1 : Int) ≤ nm.length := by omega
      have h2 : ((nm.length : Int) ≤ 12) ↔ nm.length ≤ 12 := by omega
      simp [a, this, h2]
    · have : ¬ (1 : Int) ≤ nm.length := by omega
      simp [a, this]

def badB (b : Nat) : Prop := b < 33 ∨ 126 < b

theorem findR_bad {G : Int → Option Bool} (hG : ∀ c, G c = some (decide (c < 33) || decide (126 < c))) (s : ByteArray) : ∀ (f pos : Nat), s.size ≤ pos + f →
    ∃ r, findR G true s f pos = some r ∧ (0 ≤ r ↔ ∃ k, pos ≤ k ∧ ∃ h : k < s.size, badB (s[k]'h).toNat)
  | 0, pos, h => ⟨-1, rfl, by
    constructor
    · intro h; omega
    · rintro ⟨k, h1, h2, _⟩; omega⟩
  | f + 1, pos, h => by
    unfold findR
    by_cases hp : pos < s.size
    · rw [if_pos hp, hG]
      dsimp only
      by_cases ha : (s[pos]'hp).toNat < 128
      · rw [decode_ascii s pos hp ha]
        dsimp only
        by_cases hb : badB (s[pos]'hp).toNat
        · have : (decide (((s[pos]'hp).toNat : Int) < 33) || decide (126 < ((s[pos]'hp).toNat : Int))) = true := by
            unfold badB at hb
            simp; omega
          rw [if_pos this]
          exact ⟨_, rfl, fun _ => ⟨pos, Nat.le_refl _, hp, hb⟩, fun _ => by omega⟩
        · have : ¬ (decide (((s[pos]'hp).toNat : Int) < 33) || decide (126 < ((s[pos]'hp).toNat : Int))) = true := by
            unfold badB at hb
            simp; omega
          rw [if_neg this]
          obtain ⟨r, h1, h2⟩ := findR_bad hG s f (pos + 1) (by omega)
          refine ⟨r, h1, h2.trans ⟨fun ⟨k, q1, q2, q3⟩ => ⟨k, by omega, q2, q3⟩, fun ⟨k, q1, q2, q3⟩ => ?_⟩⟩
          by_cases hk : k = pos
          · subst hk; exact absurd q3 hb
          · exact ⟨k, by omega, q2, q3⟩
      · have hh := decode_high s pos hp (by omega)
        have : (decide (((Utf8.decode s pos).1 : Int) < 33) || decide (126 < ((Utf8.decode s pos).1 : Int))) = true := by
          simp; omega
        rw [if_pos this]
        exact ⟨_, rfl, fun _ => ⟨pos, Nat.le_refl _, hp, .inr (by omega)⟩, fun _ => by omega⟩
    · rw [if_neg hp]
      exact ⟨_, rfl, fun h => by omega, fun ⟨k, q1, q2, _⟩ => by omega⟩

theorem F27_eq {n : Nat} {nm : List Int} (hb : ∀ b, b ∈ nm → 0 ≤ b ∧ b ≤ 255) : F27 n (nm, ()) = some ((nameOK nm, ()), ()) := by
  unfold F27 F57 F72 F80 ifF
  dsimp only
  have hsz : (toBA nm).size = nm.length := by simp [toBA, ByteArray.size]
  obtain ⟨r, h1, h2⟩ := findR_bad (G := fun c => (F58 n (c, ())).bind fun r => some r.1.1) (fun c => by
    unfold F58
    by_cases a : c < 33 <;> simp [a]) (toBA nm) nm.length 0 (by omega)
  rw [h1]
  simp only [Option.bind_some]
  unfold nameOK
  by_cases a : 1 ≤ nm.length
  · have a' : (1 : Int) ≤ nm.length := by omega
    by_cases b : nm.length ≤ 12
    · have b' : (nm.length : Int) ≤ 12 := by omega
      have key : (0 ≤ r) ↔ ¬ (allN nm.length (fun i => byteOK (nm.getD i 0)) = true) := by
        rw [h2, allN_iff]
        have hget : ∀ k (hk : k < nm.length) (hk' : k < (toBA nm).size), (((toBA nm)[k]'hk').toNat : Int) = nm.getD k 0 := fun k hk hk' => by
          have hm := hb _ (List.getElem_mem hk)
          rw [getD_lt hk]
          have : (toBA nm)[k]'hk' = (nm[k]).toNat.toUInt8 := by
            show ((nm.map fun c => c.toNat.toUInt8).toArray)[k]'_ = _
            simp
          rw [this]
          simp only [Nat.toUInt8, UInt8.toNat_ofNat']
          omega
        constructor
        · rintro ⟨k, _, hk, hbad⟩ hall
          have := hall k (by omega)
          have hg := hget k (by omega) hk
          unfold byteOK at this
          unfold badB at hbad
          simp at this
          simp only [List.getD_eq_getElem?_getD] at hg
          omega
        · intro hne
          simp only [Classical.not_forall] at hne
          obtain ⟨k, hk, hno⟩ := hne
          have hg := hget k hk (by omega)
          refine ⟨k, by omega, by omega, ?_⟩
          unfold byteOK at hno
          unfold badB
          simp at hno
          simp only [List.getD_eq_getElem?_getD] at hg
          omega
      generalize allN nm.length (fun i => byteOK (nm.getD i 0)) = q at key
      by_cases hr : 0 ≤ r
      · have := key.1 hr
        simp [a, a', b, b', hr, this]
      · have : q = true := by
          rw [key] at hr
          simpa using hr
        simp [a, a', b, b', hr, this]
    · have b' : ¬ (nm.length : Int) ≤ 12 := by omega
      simp [a, a', b, b']
  · have a' : ¬ (1 : Int) ≤ nm.length := by omega
    simp [a, a']

end Go.Rb.S2

namespace Go.Rb.S2
open Go.Rb

/-! ### Places of columns -/

def byId (cols : List Cl) (id : Int) : Option Nat := firstN cols.length fun i => decide ((cols.getD i k0).1 = id)
def byName (cols : List Cl) (nm : List Int) : Option Nat := firstN cols.length fun i => decide ((cols.getD i k0).2.1 = nm)
def atR : Option Nat → Int × Bool × Unit
  | some i => ((i : Int), true, ())
  | none => (0, false, ())

theorem F50_eq {n : Nat} {cols : List Cl} {g : Cl → Option Bool} {p : Cl → Bool} (hg : ∀ c, g c = some (p c)) (hn : cols.length < n) (hc : cols.length ≤ 1000) :
    F50 n (cols, g, ()) = some (((match firstN cols.length fun i => p (cols.getD i k0) with | some i => (i : Int) | none => -1), ()), ()) := by
  unfold F50
  dsimp only
  rw [iter_first0 cols.length (fun i => p (cols.getD i k0)) (fun i => some (((i : Int), ()), ())) (some ((-1, ()), ())) hn]
  · unfold firstN
    cases List.find? _ _ <;> rfl
  · intro rec i hi
    have h1 : (i : Int) < cols.length := by omega
    simp only [h1, atI, decide_true, if_true, Int.toNat_natCast, Int.natCast_nonneg, and_self, hg, Option.bind_some, wrap_succ (show i < 9223372036854775807 by omega)]
  · intro rec
    simp

theorem max_at (o : Option Nat) : ((if (0:Int) ≤ (match o with | some i => (i : Int) | none => -1) then (match o with | some i => (i : Int) | none => -1) else 0), decide ((0:Int) ≤ (match o with | some i => (i : Int) | none => -1)), ()) = atR o := by
  cases o <;> simp [atR]

theorem F23_eq {n : Nat} {s : Sch} {id : Int} (hn : s.1.length < n) (hc : s.1.length ≤ 1000) : F23 n (s, id, ()) = some (atR (byId s.1 id), ()) := by
  unfold F23
  dsimp only
  rw [F50_eq (g := fun c => (F52 n (c, id, ())).bind fun r => some r.1.1) (p := fun c => decide (c.1 = id)) (fun c => rfl) hn hc]
  simp only [Option.bind_some]
  rw [max_at]; rfl

theorem F21_eq {n : Nat} {s : Sch} {nm : List Int} (hn : s.1.length < n) (hc : s.1.length ≤ 1000) : F21 n (s, nm, ()) = some (atR (byName s.1 nm), ()) := by
  unfold F21
  dsimp only
  rw [F50_eq (g := fun c => (F51 n (c, nm, ())).bind fun r => some r.1.1) (p := fun c => decide (c.2.1 = nm)) (fun c => rfl) hn hc]
  simp only [Option.bind_some]
  rw [max_at]; rfl

theorem F24_eq {n : Nat} {s : Sch} {id : Int} (hn : s.1.length < n) (hc : s.1.length ≤ 1000) : F24 n (s, id, ()) = some (atR (byId s.1 id), ()) := by
  unfold F24
  dsimp only
  rw [iter_first0 s.1.length (fun i => decide ((s.1.getD i k0).1 = id)) (fun i => some (((i : Int), true, ()), ())) (some ((0, false, ()), ())) hn]
  · unfold byId firstN atR
    cases List.find? _ _ <;> rfl
  · intro rec i hi
    have h1 : (i : Int) < s.1.length := by omega
    simp only [h1, atI, decide_true, if_true, Int.toNat_natCast, Int.natCast_nonneg, and_self, wrap_succ (show i < 9223372036854775807 by omega)]
  · intro rec
    simp

theorem F22_eq {n : Nat} {s : Sch} {nm : List Int} (hn : s.1.length < n) (hc : s.1.length ≤ 1000) : F22 n (s, nm, ()) = some (atR (byName s.1 nm), ()) := by
  unfold F22
  dsimp only
  rw [iter_first0 s.1.length (fun i => decide ((s.1.getD i k0).2.1 = nm)) (fun i => some (((i : Int), true, ()), ())) (some ((0, false, ()), ())) hn]
  · unfold byName firstN atR
    cases List.find? _ _ <;> rfl
  · intro rec i hi
    have h1 : (i : Int) < s.1.length := by omega
    simp only [h1, atI, decide_true, if_true, Int.toNat_natCast, Int.natCast_nonneg, and_self, wrap_succ (show i < 9223372036854775807 by omega)]
  · intro rec
    simp

/-! ### Schemas -/

def typeOK (t : Int) : Bool := decide (1 ≤ t) && decide (t ≤ 4)

theorem F42_eq (n : Nat) (t : Int) : F42 n (t, ()) = some ((typeOK t, ()), ()) := by
  unfold F42 typeOK
  by_cases a : 1 ≤ t <;> simp [a]

theorem F45_eq (n : Nat) (t : Int) : F45 n (t, ()) = some ((typeOK t, ()), ()) := by
  unfold F45 typeOK
  by_cases a : 1 ≤ t <;> simp [a]

def same1 (a b : Cl) : Bool := decide (a.1 = b.1) || decide (a.2.1 = b.2.1)
def colOK (s : Sch) (i : Nat) : Bool :=
  decide (1 ≤ (s.1.getD i k0).1) && decide ((s.1.getD i k0).1 ≤ s.2.1) && nameOK (s.1.getD i k0).2.1 && typeOK (s.1.getD i k0).2.2.1 && !anyN i fun k => same1 (s.1.getD k k0) (s.1.getD i k0)
def lenOK (s : Sch) : Bool := decide (1 ≤ s.1.length) && decide (s.1.length ≤ 6) && decide (s.2.1 ≤ 10000)
def mayS (s : Sch) : Bool := allN s.1.length (colOK s) && lenOK s

def Bytes (l : List Int) : Prop := ∀ b, b ∈ l → 0 ≤ b ∧ b ≤ 255

theorem F43_eq {n : Nat} {cols : List Cl} {g : Cl → Option Bool} {p : Cl → Bool} (hg : ∀ c, g c = some (p c)) (hn : cols.length < n) (hc : cols.length ≤ 1000) :
    F43 n (cols, g, ()) = some ((anyN cols.length (fun i => p (cols.getD i k0)), ()), ()) := by
  unfold F43
  dsimp only
  rw [F50_eq hg hn hc]
  simp only [Option.bind_some]
  rw [← firstN_some]
  cases firstN cols.length fun i => p (cols.getD i k0) <;> simp

theorem anyN_congr {len : Nat} {p q : Nat → Bool} (h : ∀ i, i < len → p i = q i) : anyN len p = anyN len q := by
  rw [← firstN_some, ← firstN_some, firstN_congr h]

theorem len_fin (s : Sch) : (if (decide ((1:Int) ≤ (s.1.length : Int))) = true then (if (decide ((s.1.length : Int) ≤ (6:Int))) = true then (some (((decide (s.2.1 ≤ (10000:Int))), ()), ())) else (some ((false, ()), ()))) else (some ((false, ()), ())) : Option ((Bool × Unit) × Unit)) = some ((lenOK s, ()), ()) := by
  unfold lenOK
  by_cases a : 1 ≤ s.1.length
  · have a' : (1 : Int) ≤ s.1.length := by omega
    by_cases b : s.1.length ≤ 6
    · have b' : (s.1.length : Int) ≤ 6 := by omega
      simp [a, a', b, b']
    · have b' : ¬ (s.1.length : Int) ≤ 6 := by omega
      simp [a, a', b, b']
  · have a' : ¬ (1 : Int) ≤ s.1.length := by omega
    simp [a, a']

theorem col_step {R : Type} (c : Cl) (last : Int) (q : Bool) (no go : Option R) :
    (if decide (c.1 < 1) = true then no else if decide (last < c.1) = true then no else if (!nameOK c.2.1) = true then no else if (!typeOK c.2.2.1) = true then no else if q = true then no else go) =
      if (decide (1 ≤ c.1) && decide (c.1 ≤ last) && nameOK c.2.1 && typeOK c.2.2.1 && !q) = true then go else no := by
  by_cases a : 1 ≤ c.1
  · have a' : ¬ c.1 < 1 := by omega
    by_cases b : c.1 ≤ last
    · have b' : ¬ last < c.1 := by omega
      simp only [a, a', b, b', decide_true, decide_false, Bool.true_and, Bool.false_eq_true, if_false]
      cases nameOK c.2.1 <;> cases typeOK c.2.2.1 <;> cases q <;> simp
    · have b' : last < c.1 := by omega
      simp [a, a', b, b']
  · have a' : c.1 < 1 := by omega
    simp [a, a']

theorem same_step {R : Type} (c d : Cl) (no go : Option R) : (if decide (c.1 = d.1) = true then no else if decide (c.2.1 = d.2.1) = true then no else go) = if same1 c d = true then no else go := by
  unfold same1
  by_cases a : c.1 = d.1
  · simp [a]
  · by_cases b : c.2.1 = d.2.1 <;> simp [a, b]

/-- A loop that ends at the first place where it is so. -/
theorem iter_any {R : Type} {body : (Int → Option R) → Int → Option R} (len : Nat) (p : Nat → Bool) (no fin : Option R) {n : Nat} (hn : len < n) (hb : ∀ rec (i : Nat), i < len → body rec (i : Int) = if p i = true then no else rec ((i + 1 : Nat) : Int))
    (he : ∀ rec, body rec (len : Int) = fin) : iterF body n (0 : Int) = if anyN len p = true then no else fin := by
  rw [iter_first0 len p (fun _ => no) fin hn hb he, ← firstN_some]
  unfold firstN
  cases (List.range len).find? p <;> rfl

theorem enc_step {R : Type} (v : Int) (no go : Option R) : (if decide (v < 1) = true then no else if decide (5 < v) = true then no else go) = if (decide (1 ≤ v) && decide (v ≤ 5)) = true then go else no := by
  by_cases a : 1 ≤ v
  · have a' : ¬ v < 1 := by omega
    by_cases b : v ≤ 5
    · have b' : ¬ 5 < v := by omega
      simp [a, a', b, b']
    · have b' : 5 < v := by omega
      simp [a, a', b, b']
  · have a' : v < 1 := by omega
    simp [a, a']

theorem allN_true (len : Nat) : (allN len fun _ => true) = true := by simp [allN]

theorem F17_eq {n : Nat} {s : Sch} (hn : s.1.length < n) (hc : s.1.length ≤ 1000) (hb : ∀ c, c ∈ s.1 → Bytes c.2.1) : F17 n (s, ()) = some ((mayS s, ()), ()) := by
  unfold F17
  dsimp only
  rw [iter_all s.1.length (colOK s) ((false, ()), ()) ((lenOK s, ()), ()) hn]
  · unfold mayS
    cases allN s.1.length (colOK s) <;> simp
  · intro rec i hi
    have h1 : (i : Int) < s.1.length := by omega
    have h2 : (0 : Int) ≤ (i : Int) ∧ (i : Int) ≤ (s.1.length : Int) := by omega
    have hbi : Bytes (s.1.getD i k0).2.1 := hb _ (getD_mem hi)
    have hl : ((s.1.take i).drop 0).length = i := by simp; omega
    simp only [h1, h2, atI, decide_true, if_true, Int.toNat_natCast, Int.natCast_nonneg, and_self, wrap_succ (show i < 9223372036854775807 by omega), F27_eq hbi, F42_eq, Option.bind_some, Int.toNat_zero]
    rw [F43_eq (p := fun c => same1 c (s.1.getD i k0)) (fun c => by
      unfold F44 same1
      by_cases a : c.1 = (s.1.getD i k0).1
      · simp only [a, decide_true, if_true, Option.bind_some, Bool.true_or]
      · simp only [a, decide_false, Bool.false_eq_true, if_false, Option.bind_some, Bool.false_or]) (by omega) (by omega)]
    simp only [Option.bind_some]
    have hany : (anyN ((s.1.take i).drop 0).length fun k => same1 (((s.1.take i).drop 0).getD k k0) (s.1.getD i k0)) = anyN i fun k => same1 (s.1.getD k k0) (s.1.getD i k0) := by
      rw [hl]
      refine anyN_congr fun k hk => ?_
      congr 1
      simp only [List.drop_zero, List.getD_eq_getElem?_getD, List.getElem?_take, hk, if_true]
    rw [hany]
    exact col_step (s.1.getD i k0) s.2.1 _ _ _
  · intro rec
    rw [if_neg (by simp)]
    exact len_fin s

theorem nameOK_le {nm : List Int} (h : nameOK nm = true) : nm.length ≤ 12 := by
  unfold nameOK at h
  simp only [Bool.and_eq_true, decide_eq_true_eq] at h
  exact h.1.2

theorem F18_eq {n : Nat} {s : Sch} (hn : s.1.length < n) (hc : s.1.length ≤ 1000) (hb : ∀ c, c ∈ s.1 → c.2.1.length < n ∧ c.2.1.length ≤ 1000) : F18 n (s, ()) = some ((mayS s, ()), ()) := by
  unfold F18
  dsimp only
  rw [iter_all s.1.length (colOK s) ((false, ()), ()) ((lenOK s, ()), ()) hn]
  · unfold mayS
    cases allN s.1.length (colOK s) <;> simp
  · intro rec i hi
    have h1 : (i : Int) < s.1.length := by omega
    have hbi := hb _ (getD_mem (d := k0) hi)
    simp only [h1, atI, decide_true, if_true, Int.toNat_natCast, Int.natCast_nonneg, and_self, wrap_succ (show i < 9223372036854775807 by omega), F28_eq hbi.1 hbi.2, F45_eq, Option.bind_some]
    rw [iter_any i (fun k => same1 (s.1.getD k k0) (s.1.getD i k0)) (some ((false, ()), ())) (rec ((i + 1 : Nat) : Int)) (by omega)]
    · exact col_step (s.1.getD i k0) s.2.1 _ _ _
    · intro rec' k hk
      have h3 : (k : Int) < s.1.length := by omega
      have h4 : (k : Int) < (i : Int) := by omega
      simp only [h3, h4, atI, decide_true, if_true, Int.toNat_natCast, Int.natCast_nonneg, and_self, wrap_succ (show k < 9223372036854775807 by omega)]
      exact same_step (s.1.getD k k0) (s.1.getD i k0) _ _
    · intro rec'
      simp
  · intro rec
    rw [if_neg (by simp)]
    exact len_fin s

/-! ### Layouts -/

def isB (s : Sch) (id : Int) (none : Bool) : Bool := (byId s.1 id).isSome || (none && decide (id = 0))

theorem F46_eq {n : Nat} {s : Sch} {id : Int} {b : Bool} (hn : s.1.length < n) (hc : s.1.length ≤ 1000) : F46 n (s, id, b, ()) = some ((isB s id b, ()), ()) := by
  unfold F46 isB
  dsimp only
  rw [F23_eq hn hc]
  simp only [Option.bind_some]
  cases byId s.1 id <;> cases b <;> simp [atR]

def encOK (e : Int) : Bool := decide (1 ≤ e) && decide (e ≤ 5)
theorem F49_eq (n : Nat) (t : Int) : F49 n (t, ()) = some ((encOK t, ()), ()) := by
  unfold F49 encOK
  by_cases a : 1 ≤ t <;> simp [a]

def mayL (s : Sch) (l : Lay) : Bool :=
  isB s l.1 true && (decide (1 ≤ l.2.2.1) && decide (l.2.2.1 ≤ 4)) && isB s l.2.1 (decide (l.2.2.1 = 1)) && decide (l.2.2.2.1.length = s.1.length) && allN l.2.2.2.1.length fun i => encOK (l.2.2.2.1.getD i 0)

theorem F68_eq {n : Nat} {cols : List Int} {g : Int → Option Bool} {p : Int → Bool} (hg : ∀ c, g c = some (p c)) (hn : cols.length < n) (hc : cols.length ≤ 1000) :
    F68 n (cols, g, ()) = some (((match firstN cols.length fun i => p (cols.getD i 0) with | some i => (i : Int) | none => -1), ()), ()) := by
  unfold F68
  dsimp only
  rw [iter_first0 cols.length (fun i => p (cols.getD i 0)) (fun i => some (((i : Int), ()), ())) (some ((-1, ()), ())) hn]
  · unfold firstN
    cases List.find? _ _ <;> rfl
  · intro rec i hi
    have h1 : (i : Int) < cols.length := by omega
    simp only [h1, atI, decide_true, if_true, Int.toNat_natCast, Int.natCast_nonneg, and_self, hg, Option.bind_some, wrap_succ (show i < 9223372036854775807 by omega)]
  · intro rec
    simp

theorem any_not_all {len : Nat} {p : Nat → Bool} : (!anyN len fun i => !p i) = allN len p := by
  rw [Bool.eq_iff_iff, allN_iff]
  have := anyN_iff (len := len) (p := fun i => !p i)
  cases h : anyN len fun i => !p i with
  | false =>
    simp only [h, Bool.false_eq_true, false_iff, not_exists, not_and] at this
    simp
    intro i hi
    simpa using this i hi
  | true =>
    simp only [h, true_iff] at this
    obtain ⟨i, hi, hp⟩ := this
    simp
    exact ⟨i, hi, by simpa using hp⟩

theorem F19_eq {n : Nat} {s : Sch} {l : Lay} (hn : s.1.length < n) (hc : s.1.length ≤ 1000) : F19 n (s, l, ()) = some ((mayL s l, ()), ()) := by
  unfold F19 mayL
  dsimp only
  rw [F46_eq hn hc]
  simp only [Option.bind_some]
  rw [F46_eq hn hc]
  simp only [Option.bind_some]
  by_cases hl : l.2.2.2.1.length = s.1.length
  · have hl' : (l.2.2.2.1.length : Int) = s.1.length := by omega
    unfold F47
    rw [F68_eq (cols := l.2.2.2.1) (g := fun c => (F48 n (c, ())).bind fun r => some r.1.1) (p := fun c => !encOK c) (fun c => by unfold F48; dsimp only; rw [F49_eq]; rfl) (by omega) (by omega)]
    simp only [Option.bind_some]
    rw [← any_not_all, ← firstN_some]
    generalize firstN l.2.2.2.1.length (fun i => !encOK (l.2.2.2.1.getD i 0)) = q
    cases isB s l.1 true
    · simp
    · cases isB s l.2.1 (decide (l.2.2.1 = 1))
      · by_cases a : 1 ≤ l.2.2.1
        · by_cases b : l.2.2.1 ≤ 4 <;> simp [a, b]
        · simp [a]
      · by_cases a : 1 ≤ l.2.2.1
        · by_cases b : l.2.2.1 ≤ 4
          · cases q <;> simp [a, b, hl, hl']
          · simp [a, b]
        · simp [a]
  · have hl' : ¬ (l.2.2.2.1.length : Int) = s.1.length := by omega
    cases isB s l.1 true
    · simp
    · cases isB s l.2.1 (decide (l.2.2.1 = 1))
      · by_cases a : 1 ≤ l.2.2.1
        · by_cases b : l.2.2.1 ≤ 4 <;> simp [a, b]
        · simp [a]
      · by_cases a : 1 ≤ l.2.2.1
        · by_cases b : l.2.2.1 ≤ 4 <;> simp [a, b, hl, hl']
        · simp [a]

theorem F20_eq {n : Nat} {s : Sch} {l : Lay} (hn : s.1.length < n) (hc : s.1.length ≤ 1000) (he : l.2.2.2.1.length < n) (he2 : l.2.2.2.1.length ≤ 1000) : F20 n (s, l, ()) = some ((mayL s l, ()), ()) := by
  unfold F20
  dsimp only
  rw [F24_eq hn hc]
  simp only [Option.bind_some]
  rw [F24_eq hn hc]
  simp only [Option.bind_some]
  rw [iter_all l.2.2.2.1.length (fun i => encOK (l.2.2.2.1.getD i 0)) ((false, ()), ()) ((isB s l.1 true && (decide (1 ≤ l.2.2.1) && decide (l.2.2.1 ≤ 4)) && isB s l.2.1 (decide (l.2.2.1 = 1)) && decide (l.2.2.2.1.length = s.1.length), ()), ()) he]
  · unfold mayL
    cases (allN l.2.2.2.1.length fun i => encOK (l.2.2.2.1.getD i 0)) <;> simp
  · intro rec i hi
    have h1 : (i : Int) < l.2.2.2.1.length := by omega
    simp only [h1, atI, decide_true, if_true, Int.toNat_natCast, Int.natCast_nonneg, and_self, wrap_succ (show i < 9223372036854775807 by omega)]
    exact enc_step _ _ _
  · intro rec
    rw [if_neg (by simp)]
    have hl : ((l.2.2.2.1.length : Int) = s.1.length) ↔ l.2.2.2.1.length = s.1.length := by omega
    unfold isB
    simp only [hl]
    cases byId s.1 l.1 <;> cases byId s.1 l.2.1 <;> by_cases z1 : l.1 = 0 <;> by_cases a : 1 ≤ l.2.2.1 <;> by_cases b : l.2.2.1 ≤ 4 <;> by_cases z2 : l.2.1 = 0 <;> by_cases z3 : l.2.2.1 = 1 <;> simp [atR, z1, a, b, z2, z3]

/-! ### Values and rows -/

/-- Is it a value? -/
def mayV (v : V) : Bool :=
  if v.1 = 0 then decide (v.2.1 = 0) && decide (v.2.2.1 = [])
  else if v.1 = 1 then decide (-32768 ≤ v.2.1) && decide (v.2.1 ≤ 32767) && decide (v.2.2.1 = [])
  else if v.1 = 2 then decide (v.2.2.1 = [])
  else if v.1 = 3 then (decide (v.2.1 = 0) || decide (v.2.1 = 1)) && decide (v.2.2.1 = [])
  else if v.1 = 4 then decide (v.2.1 = 0) && decide (v.2.2.1.length ≤ 20)
  else false

/-- May it stand in a column of a type? -/
def fitsV (t : Int) (v : V) : Bool := mayV v && typeOK t && (decide (v.1 = 0) || decide (v.1 = t))

theorem F69_eq (n : Nat) (v : V) : F69 n (v, ()) = some ((mayV v, ()), ()) := by
  obtain ⟨t, i, s, u⟩ := v
  unfold F69 mayV
  dsimp only
  by_cases h1 : t = 1
  · subst h1
    by_cases a : i < -32768
    · have : ¬ (-32768 ≤ i) := by omega
      simp [a, this]
    · by_cases b : 32767 < i
      · have : ¬ (i ≤ 32767) := by omega
        simp [a, b, this]
      · have h1 : -32768 ≤ i := by omega
        have h2 : i ≤ 32767 := by omega
        simp [a, b, h1, h2]
  · by_cases h2 : t = 2
    · subst h2; simp
    · by_cases h0 : t = 0
      · subst h0
        by_cases a : i = 0 <;> simp [a]
      · by_cases h3 : t = 3
        · subst h3
          by_cases a : i = 0
          · simp [a]
          · by_cases b : i = 1 <;> simp [a, b]
        · by_cases h4 : t = 4
          · subst h4
            by_cases a : i = 0
            · simp only [a]
              have : ((s.length : Int) ≤ 20) ↔ s.length ≤ 20 := by omega
              simp [this]
            · simp [a]
          · simp [h0, h1, h2, h3, h4]

theorem F70_eq (n : Nat) (v : V) : F70 n (v, ()) = some ((mayV v, ()), ()) := by
  obtain ⟨t, i, s, u⟩ := v
  unfold F70 mayV
  dsimp only
  by_cases h0 : t = 0
  · subst h0
    by_cases a : i = 0 <;> simp [a]
  · by_cases h1 : t = 1
    · subst h1
      by_cases a : -32768 ≤ i
      · by_cases b : i ≤ 32767 <;> simp [a, b]
      · simp [a]
    · by_cases h2 : t = 2
      · subst h2; simp
      · by_cases h3 : t = 3
        · subst h3
          by_cases a : i = 0
          · simp [a]
          · by_cases b : i = 1 <;> simp [a, b]
        · by_cases h4 : t = 4
          · subst h4
            by_cases a : i = 0
            · simp only [a]
              have : ((s.length : Int) ≤ 20) ↔ s.length ≤ 20 := by omega
              simp [this]
            · simp [a]
          · simp [h0, h1, h2, h3, h4]

theorem F55_eq (n : Nat) (t : Int) (v : V) : F55 n (t, v, ()) = some ((fitsV t v, ()), ()) := by
  unfold F55 fitsV typeOK
  rw [F69_eq]
  simp only [Option.bind_some]
  cases mayV v
  · simp
  · by_cases h1 : 1 ≤ t
    · by_cases h2 : t ≤ 4
      · by_cases h3 : v.1 = 0 <;> simp [h1, h2, h3]
      · simp [h1, h2]
    · simp [h1]

theorem F56_eq (n : Nat) (t : Int) (v : V) : F56 n (t, v, ()) = some ((fitsV t v, ()), ()) := by
  unfold F56 fitsV typeOK
  rw [F70_eq]
  simp only [Option.bind_some, F71]
  cases mayV v
  · simp
  · by_cases h1 : 1 ≤ t
    · by_cases h2 : t ≤ 4
      · by_cases h3 : v.1 = 0 <;> simp [h1, h2, h3]
      · simp [h1, h2]
    · simp [h1]

/-- Does a row fit a schema? -/
def fitsRow (cols : List Cl) (row : List V) : Bool := decide (row.length = cols.length) && allN cols.length fun i => fitsV (cols.getD i k0).2.2.1 (row.getD i d0)

theorem fitsRow_iff {cols : List Cl} {row : List V} : fitsRow cols row = true ↔ row.length = cols.length ∧ ∀ i, i < cols.length → fitsV (cols.getD i k0).2.2.1 (row.getD i d0) = true := by
  unfold fitsRow
  rw [Bool.and_eq_true, allN_iff, decide_eq_true_eq]

theorem F25_eq {n : Nat} {s : Sch} {row : List V} (hn : s.1.length < n) (hc : s.1.length ≤ 1000) : F25 n (s, row, ()) = some ((fitsRow s.1 row, ()), ()) := by
  unfold F25 F53 fitsRow
  dsimp only
  by_cases hl : row.length = s.1.length
  · have h1 : (s.1.length : Int) = (row.length : Int) := by omega
    rw [if_neg (by simp [h1]), iter_all s.1.length (fun i => fitsV (s.1.getD i k0).2.2.1 (row.getD i d0)) ((false, ()), ()) ((true, ()), ()) hn]
    · cases (allN s.1.length fun i => fitsV (s.1.getD i k0).2.2.1 (row.getD i d0)) <;> simp [hl]
    · intro rec i hi
      have h2 : (i : Int) < s.1.length := by omega
      have h3 : (i : Int) < row.length := by omega
      simp only [h2, h3, atI, F54, F55_eq, wrap_succ (show i < 9223372036854775807 by omega), decide_true, if_true, Int.toNat_natCast, Option.bind_some, and_self, Int.natCast_nonneg]
      cases fitsV (s.1.getD i k0).2.2.1 (row.getD i d0) <;> simp
    · intro rec
      simp
  · have h1 : ¬ (s.1.length : Int) = (row.length : Int) := by omega
    simp [h1, hl]

theorem F26_eq {n : Nat} {s : Sch} {row : List V} (hn : s.1.length < n) (hc : s.1.length ≤ 1000) : F26 n (s, row, ()) = some ((fitsRow s.1 row, ()), ()) := by
  unfold F26 fitsRow
  dsimp only
  by_cases hl : row.length = s.1.length
  · have h1 : (row.length : Int) = (s.1.length : Int) := by omega
    rw [if_neg (by simp [h1]), hl, iter_all s.1.length (fun i => fitsV (s.1.getD i k0).2.2.1 (row.getD i d0)) ((false, ()), ()) ((true, ()), ()) hn]
    · cases (allN s.1.length fun i => fitsV (s.1.getD i k0).2.2.1 (row.getD i d0)) <;> simp
    · intro rec i hi
      have h2 : (i : Int) < s.1.length := by omega
      simp only [h2, atI, F56_eq, wrap_succ (show i < 9223372036854775807 by omega), decide_true, if_true, Int.toNat_natCast, Option.bind_some, and_self, Int.natCast_nonneg]
      cases fitsV (s.1.getD i k0).2.2.1 (row.getD i d0) <;> simp
    · intro rec
      simp
  · have h1 : ¬ (row.length : Int) = (s.1.length : Int) := by omega
    simp [h1, hl]

/-! ### Alike -/

theorem F41_same {n : Nat} {l : List Int} (hn : l.length < n) (hc : l.length ≤ 1000) : F41 n (l, l, ()) = some ((true, ()), ()) := by
  unfold F41
  dsimp only
  rw [if_neg (by simp), iter_all l.length (fun _ => true) ((false, ()), ()) ((true, ()), ()) hn]
  · rw [if_pos (allN_true _)]
  · intro rec i hi
    have h2 : (i : Int) < l.length := by omega
    simp [h2, atI, wrap_succ (show i < 9223372036854775807 by omega)]
  · intro rec
    simp

theorem F16_same {n : Nat} {l : Lay} (hn : l.2.2.2.1.length < n) (hc : l.2.2.2.1.length ≤ 1000) : F16 n (l, l, ()) = some ((true, ()), ()) := by
  unfold F16
  dsimp only
  rw [F41_same hn hc]
  simp

theorem F15_same {n : Nat} {s : Sch} (hn : s.1.length < n) (hc : s.1.length ≤ 1000) : F15 n (s, s, ()) = some ((true, ()), ()) := by
  unfold F15
  dsimp only
  rw [if_neg (by simp), if_neg (by simp), iter_all s.1.length (fun _ => true) ((false, ()), ()) ((true, ()), ()) hn]
  · rw [if_pos (allN_true _)]
  · intro rec i hi
    have h2 : (i : Int) < s.1.length := by omega
    simp [h2, atI, wrap_succ (show i < 9223372036854775807 by omega)]
  · intro rec
    simp

end Go.Rb.S2

namespace Go.Rb.S2
open Go.Rb

abbrev Res : Type := Sch × Lay × Int × Unit
abbrev Wk : Type := Sch × Lay × Chg × Int × Unit
def bad (e : Int) : Res := (([], 0, ()), (0, 0, 0, [], ()), e, ())
def heldB (l : Lay) (c : Chg) : Bool := decide (l.1 = c.2.1) || decide (l.2.1 = c.2.1)
def fullB (s : Sch) : Bool := decide (6 ≤ s.1.length) || decide (10000 ≤ s.2.1)
def insS (s : Sch) (l : Lay) (nm : List Int) (i : Nat) (t : Int) : Res :=
  ((s.1.take i ++ ([(s.2.1 + 1, nm, t, ())] ++ s.1.drop i), s.2.1 + 1, ()), (l.1, l.2.1, l.2.2.1, l.2.2.2.1.take i ++ ([1] ++ l.2.2.2.1.drop i), ()), 0, ())

def addS (s : Sch) (l : Lay) (c : Chg) : Res :=
  if nameOK c.2.2.1 = false then bad 1
  else if typeOK c.2.2.2.1 = false then bad 1
  else if (byName s.1 c.2.2.1).isSome = true then bad 9
  else if fitsV c.2.2.2.1 c.2.2.2.2.1 = false then bad 4
  else if fullB s = true then bad 6
  else insS s l c.2.2.1 s.1.length c.2.2.2.1

def dropS (s : Sch) (l : Lay) (c : Chg) (i : Nat) : Res :=
  if s.1.length = 1 then bad 1 else if heldB l c = true then bad 1
  else ((s.1.take i ++ s.1.drop (i + 1), s.2.1, ()), (l.1, l.2.1, l.2.2.1, l.2.2.2.1.take i ++ l.2.2.2.1.drop (i + 1), ()), 0, ())

def nameS (s : Sch) (nm : List Int) (but : Option Nat) : Int :=
  if nameOK nm = false then 1 else match byName s.1 nm with
  | some j => if some j = but then 0 else 9
  | none => 0

def renS (s : Sch) (l : Lay) (c : Chg) (i : Nat) : Res :=
  if nameS s c.2.2.1 (some i) = 0 then ((s.1.set i ((s.1.getD i k0).1, c.2.2.1, (s.1.getD i k0).2.2), s.2.1, ()), l, 0, ()) else bad (nameS s c.2.2.1 (some i))

def widS (s : Sch) (l : Lay) (_c : Chg) (i : Nat) : Res :=
  if (s.1.getD i k0).2.2.1 = 3 then ((s.1.set i ((s.1.getD i k0).1, (s.1.getD i k0).2.1, 1, ()), s.2.1, ()), l, 0, ())
  else if (s.1.getD i k0).2.2.1 = 1 then ((s.1.set i ((s.1.getD i k0).1, (s.1.getD i k0).2.1, 2, ()), s.2.1, ()), l, 0, ())
  else bad 4

def spl (s : Sch) (l : Lay) (c : Chg) (i : Nat) : Res :=
  if (s.1.getD i k0).2.2.1 ≠ 4 then bad 4
  else if heldB l c = true then bad 1
  else if nameS s c.2.2.1 none ≠ 0 then bad (nameS s c.2.2.1 none)
  else if fullB s = true then bad 6
  else insS s l c.2.2.1 (i + 1) 4

def recS (s : Sch) (l : Lay) (c : Chg) (i : Nat) : Res :=
  if encOK c.2.2.2.2.2.2.1 = false then bad 1 else (s, (l.1, l.2.1, l.2.2.1, l.2.2.2.1.set i c.2.2.2.2.2.2.1, ()), 0, ())

def turnS (s : Sch) (l : Lay) (c : Chg) (i : Nat) : Res :=
  if c.1 = 2 then dropS s l c i else if c.1 = 3 then renS s l c i else if c.1 = 4 then widS s l c i else if c.1 = 5 then spl s l c i else recS s l c i

def layS (s : Sch) (l : Lay) (c : Chg) : Res :=
  if c.1 = 6 then (if isB s c.2.1 true = true then (s, (c.2.1, l.2), 0, ()) else bad 3)
  else if c.1 = 7 then (if c.2.2.2.2.2.2.1 < 1 then bad 1 else if 4 < c.2.2.2.2.2.2.1 then bad 1 else if isB s c.2.1 (decide (c.2.2.2.2.2.2.1 = 1)) = true then (s, (l.1, c.2.1, c.2.2.2.2.2.2.1, l.2.2.2), 0, ()) else bad 3)
  else (s, l, 0, ())

/-- A change. -/
def changeS (s : Sch) (l : Lay) (c : Chg) : Res :=
  if c.1 = 1 then addS s l c
  else if c.1 = 6 ∨ c.1 = 7 ∨ c.1 = 8 then layS s l c
  else if 2 ≤ c.1 ∧ c.1 ≤ 5 ∨ c.1 = 9 then (match byId s.1 c.2.1 with
    | none => bad 3
    | some i => turnS s l c i)
  else bad 1

def applyS (s : Sch) (l : Lay) (c : Chg) : Res := if mayS s = false then bad 1 else if mayL s l = false then bad 1 else changeS s l c

/-! ### Errors -/

def er (t : List Int) (g : Nat) : UV := .node 99 (.pair (.str t) (.pair (.sent g) .unit))
def codeOf : Nat → Int
  | 0 => 3
  | 1 => 4
  | 2 => 9
  | 3 => 6
  | _ => 1

theorem er_nil (t : List Int) (g : Nat) : decide (er t g = UV.nil) = false := by simp [er]

theorem F36_nil (n : Nat) : F36 n (.nil, ()) = some ((0, ()), ()) := by unfold F36; simp
theorem F36_er (n : Nat) (t : List Int) {g : Nat} (hg : g < 5) : F36 n (er t g, ()) = some ((codeOf g, ()), ()) := by
  unfold F36
  dsimp only
  rw [er_nil]
  match g, hg with
  | 0, _ => rfl
  | 1, _ => rfl
  | 2, _ => rfl
  | 3, _ => rfl
  | 4, _ => rfl

/-- An answer of the work, as a result. -/
def Good (r : Res) (y : (UV × Unit) × (Wk × Unit)) : Prop := (y.1.1 = .nil ∧ r = (y.2.1.1, y.2.1.2.1, 0, ())) ∨ ∃ t g, g < 5 ∧ y.1.1 = er t g ∧ r = bad (codeOf g)

theorem good_er {r : Res} {t : List Int} {g : Nat} {w : Wk} (hg : g < 5) (h : r = bad (codeOf g)) : Gets (some ((er t g, ()), (w, ()))) (Good r) := .some (.inr ⟨t, g, hg, rfl, h⟩)
theorem good_nil {r : Res} {w : Wk} (h : r = (w.1, w.2.1, 0, ())) : Gets (some ((UV.nil, ()), (w, ()))) (Good r) := .some (.inl ⟨rfl, h⟩)

variable {n : Nat} {s : Sch} {l : Lay} {c : Chg} {i : Nat}

/-- What is known of a schema and a layout that may be. -/
structure Ok (n : Nat) (s : Sch) (l : Lay) (c : Chg) : Prop where
  n10 : 20 ≤ n
  len1 : 1 ≤ s.1.length
  len6 : s.1.length ≤ 6
  last1 : 1 ≤ s.2.1
  last : s.2.1 ≤ 10000
  enc : l.2.2.2.1.length = s.1.length
  nmB : Bytes c.2.2.1

theorem Ok.hn (h : Ok n s l c) : s.1.length < n := by have := h.len6; have := h.n10; omega
theorem Ok.hc (h : Ok n s l c) : s.1.length ≤ 1000 := by have := h.len6; omega

def nmT : List Int := [116, 104, 101, 32, 110, 97, 109, 101]
def nameE (s : Sch) (nm : List Int) (but : Int) : UV :=
  if nameOK nm = false then er nmT 4 else match byName s.1 nm with
  | some j => if (j : Int) = but then .nil else er nmT 2
  | none => .nil

theorem F75_eq (h : Ok n s l c) (a b : Int) (u : Unit) : F75 n ((s, l, c, a, u), b, ()) = some ((nameE s c.2.2.1 b, ()), ((s, l, c, a, u), ())) := by
  unfold F75 nameE
  dsimp only
  rw [F27_eq h.nmB, F21_eq h.hn h.hc]
  simp only [Option.bind_some]
  cases nameOK c.2.2.1 with
  | false => simp [er, nmT]
  | true =>
    cases byName s.1 c.2.2.1 with
    | none => simp [atR]
    | some j => by_cases hj : (j : Int) = b <;> simp [atR, hj, er, nmT]

theorem nameE_none (nm : List Int) : (nameE s nm (-1) = .nil ∧ nameS s nm none = 0) ∨ ∃ g, g < 5 ∧ nameE s nm (-1) = er nmT g ∧ nameS s nm none = codeOf g ∧ nameS s nm none ≠ 0 := by
  unfold nameE nameS
  cases nameOK nm with
  | false => exact .inr ⟨4, by omega, by simp, by simp [codeOf], by simp⟩
  | true =>
    cases byName s.1 nm with
    | none => exact .inl ⟨by simp, by simp⟩
    | some j =>
      have : ¬ (j : Int) = -1 := by omega
      exact .inr ⟨2, by omega, by simp [this], by simp [codeOf], by simp⟩

theorem nameE_some (nm : List Int) (i : Nat) : (nameE s nm i = .nil ∧ nameS s nm (some i) = 0) ∨ ∃ g, g < 5 ∧ nameE s nm i = er nmT g ∧ nameS s nm (some i) = codeOf g ∧ nameS s nm (some i) ≠ 0 := by
  unfold nameE nameS
  cases nameOK nm with
  | false => exact .inr ⟨4, by omega, by simp, by simp [codeOf], by simp⟩
  | true =>
    cases byName s.1 nm with
    | none => exact .inl ⟨by simp, by simp⟩
    | some j =>
      by_cases hj : j = i
      · subst hj; exact .inl ⟨by simp, by simp⟩
      · have : ¬ (j : Int) = i := by omega
        exact .inr ⟨2, by omega, by simp [this], by simp [codeOf, hj], by simp [hj]⟩

theorem gets_put (h : Ok n s l c) (hi : i ≤ s.1.length) (a : Int) (u : Unit) (t : Int) : Gets (F76 n ((s, l, c, a, u), (i : Int), t, ())) (Good (if fullB s = true then bad 6 else insS s l c.2.2.1 i t)) := by
  unfold F76
  dsimp only
  have h6 := h.len6; have hl := h.last; have hl1 := h.last1; have he := h.enc
  rw [wrap_i64 (x := s.2.1 + 1) (by omega) (by omega)]
  refine .dec (fun a => good_er (by omega) (by rw [if_pos]; rfl; simp [fullB]; omega)) fun a => .dec (fun b => good_er (by omega) (by rw [if_pos]; rfl; simp [fullB]; omega)) fun b => ?_
  rw [if_neg (by simp [fullB]; omega)]
  unfold F81 F82 insF
  dsimp only
  rw [if_pos ⟨by omega, by omega, by simp [room]; omega⟩, if_pos ⟨by omega, by omega, by simp [room]; omega⟩]
  simp only [Option.bind_some, Int.toNat_natCast]
  exact good_nil rfl

theorem gets_add (h : Ok n s l c) (a : Int) (u : Unit) : Gets (F60 n ((s, l, c, a, u), ())) (Good (addS s l c)) := by
  unfold F60
  simp only [joinF]
  rw [F27_eq h.nmB]
  simp only [Option.bind_some, F42_eq]
  have hJ : (nameOK c.2.2.1 = true → typeOK c.2.2.2.1 = true) → Gets ((F75 n ((s, l, c, a, u), (-1:Int), ())).bind fun y3 => (if (!decide (y3.1.1 = UV.nil)) = true then (some ((y3.1.1, ()), (y3.2.1, ()))) else ((F55 n (y3.2.1.2.2.1.2.2.2.1, y3.2.1.2.2.1.2.2.2.2.1, ())).bind fun (y4 : (Bool × Unit) × (Unit)) => (if (!y4.1.1) = true then (some (((UV.node 99 (.pair (.str [116, 104, 101, 32, 118, 97, 108, 117, 101]) (.pair (UV.sent 1) .unit))), ()), (y3.2.1, ()))) else ((F76 n (y3.2.1, (y3.2.1.1.1.length : Int), y3.2.1.2.2.1.2.2.2.1, ())).bind fun y5 => (some ((y5.1.1, ()), (y5.2.1, ())))))))) (Good (addS s l c)) := by
    intro hnt
    rw [F75_eq h]
    simp only [Option.bind_some]
    unfold nameE addS
    cases hno : nameOK c.2.2.1 with
    | false =>
      rw [if_pos rfl, if_pos rfl, er_nil]
      exact good_er (by omega) rfl
    | true =>
      rw [hnt hno]
      simp only [Bool.true_eq_false, if_false]
      cases byName s.1 c.2.2.1 with
      | some j =>
        have : ¬ (j : Int) = -1 := by omega
        simp only [this, if_false, er_nil]
        exact good_er (by omega) rfl
      | none =>
        simp only [decide_true, Bool.not_true, Bool.false_eq_true, if_false, Option.isSome_none]
        rw [F55_eq]
        simp only [Option.bind_some]
        cases fitsV c.2.2.2.1 c.2.2.2.2.1 with
        | false => exact good_er (t := [116, 104, 101, 32, 118, 97, 108, 117, 101]) (g := 1) (by omega) rfl
        | true =>
          simp only [Bool.not_true, Bool.false_eq_true, if_false, Bool.true_eq_false]
          exact .bind (gets_put h (Nat.le_refl _) a u _) fun y hy => .some hy
  refine .ite (fun hno => .not (fun ht => ?_) fun ht => hJ fun _ => ht) fun hno => hJ fun hh => absurd hh hno
  refine good_er (g := 4) (by omega) ?_
  unfold addS
  rw [if_neg (by simp [hno]), if_pos ht]
  rfl

end Go.Rb.S2

namespace Go.Rb.S2
open Go.Rb
variable {n : Nat} {s : Sch} {l : Lay} {c : Chg} {i : Nat}

def colT : List Int := [116, 104, 101, 32, 99, 111, 108, 117, 109, 110]

theorem F77_eq (n : Nat) (s : Sch) (l : Lay) (c : Chg) (a : Int) (u : Unit) : F77 n ((s, l, c, a, u), ()) = some ((heldB l c, ()), ((s, l, c, a, u), ())) := by
  unfold F77 heldB
  dsimp only
  by_cases a1 : c.2.1 = l.1
  · simp [a1]
  · have a1' : ¬ l.1 = c.2.1 := fun h => a1 h.symm
    by_cases a2 : c.2.1 = l.2.1
    · simp [a1, a1', a2]
    · have a2' : ¬ l.2.1 = c.2.1 := fun h => a2 h.symm
      simp [a1, a1', a2, a2']

theorem gets_drop (h : Ok n s l c) (hi : i < s.1.length) (u : Unit) : Gets (F63 n ((s, l, c, (i : Int), u), ())) (Good (dropS s l c i)) := by
  unfold F63 dropS
  dsimp only
  have h6 := h.len6; have he := h.enc
  refine .dec (fun a => good_er (t := colT) (g := 4) (by omega) (by rw [if_pos (by omega)]; rfl)) fun a => ?_
  rw [if_neg (by omega), F77_eq]
  simp only [Option.bind_some]
  refine .ite (fun hb => good_er (t := colT) (g := 4) (by omega) (by rw [if_pos hb]; rfl)) fun hb => ?_
  rw [if_neg hb, wrap_succ (show i < 9223372036854775807 by omega)]
  unfold F78 F79 delF
  dsimp only
  rw [if_pos ⟨by omega, by omega, by omega⟩, if_pos ⟨by omega, by omega, by omega⟩]
  simp only [Option.bind_some, Int.toNat_natCast]
  exact good_nil rfl

theorem gets_ren (h : Ok n s l c) (hi : i < s.1.length) (u : Unit) : Gets (F64 n ((s, l, c, (i : Int), u), ())) (Good (renS s l c i)) := by
  unfold F64 renS
  dsimp only
  rw [F75_eq h]
  simp only [Option.bind_some]
  rcases nameE_some (s := s) c.2.2.1 i with ⟨h1, h2⟩ | ⟨g, hg, h1, h2, h3⟩
  · rw [h1, if_pos h2]
    refine .not (fun h => by simp at h) fun _ => ?_
    refine .atI (by omega) (by omega) ?_
    simp only [Int.toNat_natCast]
    exact good_nil rfl
  · rw [h1, if_neg h3, er_nil, h2]
    exact good_er hg rfl

theorem gets_wid (hi : i < s.1.length) (u : Unit) : Gets (F65 n ((s, l, c, (i : Int), u), ())) (Good (widS s l c i)) := by
  unfold F65 widS
  dsimp only
  simp only [Int.toNat_natCast]
  refine .atI (by omega) (by omega) (.dec (fun a => ?_) fun a => .dec (fun b => ?_) fun b => ?_)
  · rw [if_pos a]; exact good_nil rfl
  · rw [if_neg a, if_pos b]; exact good_nil rfl
  · rw [if_neg a, if_neg b]; exact good_er (t := colT) (g := 1) (by omega) rfl

theorem gets_spl (h : Ok n s l c) (hi : i < s.1.length) (u : Unit) : Gets (F66 n ((s, l, c, (i : Int), u), ())) (Good (spl s l c i)) := by
  unfold F66 spl
  dsimp only
  simp only [Int.toNat_natCast]
  refine .atI (by omega) (by omega) ?_
  by_cases a : (s.1.getD i k0).2.2.1 = 4
  · rw [if_neg (by rw [decide_eq_true a]; simp), if_neg (fun hh => hh a), F77_eq]
    simp only [Option.bind_some]
    refine .ite (fun hb => good_er (t := colT) (g := 4) (by omega) (by rw [if_pos hb]; rfl)) fun hb => ?_
    rw [if_neg hb, F75_eq h]
    simp only [Option.bind_some]
    rcases nameE_none (s := s) c.2.2.1 with ⟨h1, h2⟩ | ⟨g, hg, h1, h2, h3⟩
    · rw [h1, if_neg (by simp), if_neg (by simp [h2]), wrap_succ (show i < 9223372036854775807 by have := h.len6; omega)]
      exact .bind (gets_put h (i := i + 1) (by omega) _ _ _) fun y hy => .some hy
    · rw [h1, er_nil, if_pos (by simp), if_pos h3, h2]
      exact good_er hg rfl
  · rw [if_pos (by rw [decide_eq_false a]; rfl), if_pos a]
    exact good_er (t := colT) (g := 1) (by omega) rfl

theorem gets_rec (h : Ok n s l c) (hi : i < s.1.length) (u : Unit) : Gets (F67 n ((s, l, c, (i : Int), u), ())) (Good (recS s l c i)) := by
  unfold F67 recS
  dsimp only
  have he := h.enc
  rw [F49_eq]
  simp only [Option.bind_some, Int.toNat_natCast]
  refine .not (fun a => good_er (t := [116, 104, 101, 32, 101, 110, 99, 111, 100, 105, 110, 103]) (g := 4) (by omega) (by rw [if_pos a]; rfl)) fun a => ?_
  rw [if_neg (by simp [a])]
  exact .atI (by omega) (by omega) (good_nil rfl)

theorem gets_rep (h : Ok n s l c) (hk : c.1 = 7) (a : Int) (u : Unit) : Gets (F61 n ((s, l, c, a, u), ())) (Good (layS s l c)) := by
  rw [show layS s l c = (if c.2.2.2.2.2.2.1 < 1 then bad 1 else if 4 < c.2.2.2.2.2.2.1 then bad 1 else if isB s c.2.1 (decide (c.2.2.2.2.2.2.1 = 1)) = true then (s, (l.1, c.2.1, c.2.2.2.2.2.2.1, l.2.2.2), 0, ()) else bad 3) by
    unfold layS
    rw [if_neg (by omega), if_pos hk]]
  unfold F61
  dsimp only
  refine .dec (fun a => good_er (t := [104, 111, 119, 32, 109, 97, 110, 121]) (g := 4) (by omega) (by rw [if_pos a]; rfl)) fun a => .dec (fun b => good_er (t := [104, 111, 119, 32, 109, 97, 110, 121]) (g := 4) (by omega) (by rw [if_neg a, if_pos b]; rfl)) fun b => ?_
  rw [if_neg a, if_neg b, F46_eq h.hn h.hc]
  simp only [Option.bind_some]
  refine .not (fun hb => good_er (t := colT) (g := 0) (by omega) (by rw [if_neg (by simp [hb])]; rfl)) fun hb => ?_
  rw [if_pos hb]
  exact good_nil rfl

theorem gets_does (h : Ok n s l c) : Gets (F37 n ((s, l, c, 0, ()), ())) (Good (changeS s l c)) := by
  unfold F37
  simp only [joinF]
  have hpass : ∀ {o : Option ((UV × Unit) × (Wk × Unit))} {r : Res}, Gets o (Good r) → Gets (o.bind fun y => some ((y.1.1, ()), (y.2.1, ()))) (Good r) := fun ho => .bind ho fun y hy => .some hy
  refine .dec (fun k1 => ?_) fun k1 => .dec (fun k6 => ?_) fun k6 => .dec (fun k8 => ?_) fun k8 => .dec (fun k7 => ?_) fun k7 => ?_
  · unfold changeS
    rw [if_pos k1]
    exact hpass (gets_add h 0 ())
  · unfold changeS layS
    rw [if_neg k1, if_pos (.inl k6), if_pos k6, F46_eq h.hn h.hc]
    simp only [Option.bind_some]
    refine .not (fun hb => good_er (t := colT) (g := 0) (by omega) (by rw [if_neg (by simp [hb])]; rfl)) fun hb => ?_
    rw [if_pos hb]
    exact good_nil rfl
  · unfold changeS layS
    rw [if_neg k1, if_pos (.inr (.inr k8)), if_neg (by omega), if_neg (by omega)]
    exact good_nil rfl
  · unfold changeS
    rw [if_neg k1, if_pos (.inr (.inl k7))]
    exact hpass (gets_rep h k7 0 ())
  · have hfind : (2 ≤ c.1 ∧ c.1 ≤ 5 ∨ c.1 = 9) → Gets ((F62 n ((s, l, c, 0, ()), ())).bind fun y3 => if (!decide (y3.1.1 = UV.nil)) = true then some ((y3.1.1, ()), (y3.2.1, ())) else
        if (decide (y3.2.1.2.2.1.1 = 2)) = true then ((F63 n (y3.2.1, ())).bind fun y4 => some ((y4.1.1, ()), (y4.2.1, ()))) else
        if (decide (y3.2.1.2.2.1.1 = 3)) = true then ((F64 n (y3.2.1, ())).bind fun y5 => some ((y5.1.1, ()), (y5.2.1, ()))) else
        if (decide (y3.2.1.2.2.1.1 = 4)) = true then ((F65 n (y3.2.1, ())).bind fun y6 => some ((y6.1.1, ()), (y6.2.1, ()))) else
        if (decide (y3.2.1.2.2.1.1 = 5)) = true then ((F66 n (y3.2.1, ())).bind fun y7 => some ((y7.1.1, ()), (y7.2.1, ()))) else
        ((F67 n (y3.2.1, ())).bind fun y8 => some ((y8.1.1, ()), (y8.2.1, ())))) (Good (changeS s l c)) := by
      intro hk
      unfold changeS
      rw [if_neg k1, if_neg (by omega), if_pos hk]
      unfold F62
      dsimp only
      rw [F23_eq h.hn h.hc]
      simp only [Option.bind_some]
      cases hb : byId s.1 c.2.1 with
      | none => exact good_er (t := colT) (g := 0) (by omega) rfl
      | some i =>
        have hi : i < s.1.length := firstN_lt hb
        simp only [atR, Bool.not_true, Bool.false_eq_true, if_false, decide_true, Option.bind_some]
        unfold turnS
        refine .dec (fun k2 => ?_) fun k2 => .dec (fun k3 => ?_) fun k3 => .dec (fun k4 => ?_) fun k4 => .dec (fun k5 => ?_) fun k5 => ?_
        · rw [if_pos k2]; exact hpass (gets_drop h hi ())
        · rw [if_neg k2, if_pos k3]; exact hpass (gets_ren h hi ())
        · rw [if_neg k2, if_neg k3, if_pos k4]; exact hpass (gets_wid hi ())
        · rw [if_neg k2, if_neg k3, if_neg k4, if_pos k5]; exact hpass (gets_spl h hi ())
        · rw [if_neg k2, if_neg k3, if_neg k4, if_neg k5]; exact hpass (gets_rec h hi ())
    refine .dec (fun k => hfind (by omega)) fun k2 => .dec (fun k => hfind (by omega)) fun k3 => .dec (fun k => hfind (by omega)) fun k4 => .dec (fun k => hfind (by omega)) fun k5 => .dec (fun k => hfind (by omega)) fun k9 => ?_
    unfold changeS
    rw [if_neg k1, if_neg (by omega), if_neg (by omega)]
    exact good_er (t := [116, 104, 101, 32, 107, 105, 110, 100]) (g := 4) (by omega) rfl

theorem ok_of {n : Nat} {s : Sch} {l : Lay} {c : Chg} (hn : 20 ≤ n) (hb : Bytes c.2.2.1) (h1 : mayS s = true) (h2 : mayL s l = true) : Ok n s l c := by
  unfold mayS lenOK at h1
  unfold mayL at h2
  simp only [Bool.and_eq_true, decide_eq_true_eq] at h1 h2
  obtain ⟨h3, ⟨h4, h5⟩, h6⟩ := h1
  have := allN_iff.1 h3 0 (by omega)
  unfold colOK at this
  simp only [Bool.and_eq_true, decide_eq_true_eq] at this
  exact ⟨hn, h4, h5, by omega, h6, h2.1.2, hb⟩

theorem F13_eq (hn : 20 ≤ n) (hl : s.1.length < n) (hl2 : s.1.length ≤ 1000) (hcn : ∀ c, c ∈ s.1 → Bytes c.2.1) (hnm : Bytes c.2.2.1) :
    F13 n (s, l, c, ()) = some (applyS s l c, ()) := by
  unfold F13 applyS
  dsimp only
  rw [F17_eq hl hl2 hcn]
  simp only [Option.bind_some]
  cases h1 : mayS s with
  | false => rfl
  | true =>
    rw [F19_eq hl hl2]
    simp only [Option.bind_some]
    cases h2 : mayL s l with
    | false => rfl
    | true =>
      have hok : Ok n s l c := ok_of hn hnm h1 h2
      simp only [F34, F35, joinF, Option.bind_some, Bool.not_true, Bool.false_eq_true, if_false, Bool.true_eq_false]
      obtain ⟨y, hy, hg⟩ := gets_does hok
      rw [show ((s.1, s.2), (l.1, l.2.1, l.2.2.1, l.2.2.2.1, l.2.2.2.2), c, (0:Int), ()) = (s, l, c, (0:Int), ()) from rfl, hy]
      simp only [Option.bind_some]
      rcases hg with ⟨g1, g2⟩ | ⟨t, g, hg, g1, g2⟩
      · rw [g1, F36_nil, g2]
        simp
      · rw [g1, F36_er n t hg, g2]
        have : codeOf g ≠ 0 := by
          unfold codeOf
          split <;> simp
        simp [this, bad]

end Go.Rb.S2

namespace Go.Rb.S2
open Go.Rb
variable {n : Nat} {s : Sch} {l : Lay} {c : Chg} {i : Nat}

def Fine (r : Res) (y : (Int × Unit) × (Sch × Lay × Unit)) : Prop := (y.1.1 = 0 ∧ r = (y.2.1, y.2.2.1, 0, ())) ∨ (y.1.1 ≠ 0 ∧ r = bad y.1.1)

theorem fine_bad {r : Res} {e : Int} {a : Sch} {b : Lay} (he : e ≠ 0) (h : r = bad e) : Gets (some ((e, ()), (a, b, ()))) (Fine r) := .some (.inr ⟨he, h⟩)
theorem fine_ok {r : Res} {a : Sch} {b : Lay} (h : r = (a, b, 0, ())) : Gets (some ((0, ()), (a, b, ()))) (Fine r) := .some (.inl ⟨rfl, h⟩)

theorem fine_add (h : Ok n s l c) (hnm : c.2.2.1.length < n) (hnm2 : c.2.2.1.length ≤ 1000) : Gets (F38 n (s, l, c, ())) (Fine (addS s l c)) := by
  have h6 := h.len6; have hl := h.last; have hl1 := h.last1; have he := h.enc
  unfold F38
  dsimp only
  rw [F22_eq h.hn h.hc, wrap_i64 (x := s.2.1 + 1) (by omega) (by omega)]
  simp only [Option.bind_some]
  rw [F28_eq hnm hnm2]
  simp only [Option.bind_some, F45_eq, F56_eq]
  refine .not (fun a => fine_bad (by simp) (by simp [addS, a])) fun a => ?_
  refine .not (fun b => fine_bad (by simp) (by simp [addS, a, b])) fun b => ?_
  cases hb : byName s.1 c.2.2.1 with
  | some j => exact .pos rfl (fine_bad (by simp) (by simp [addS, a, b, hb]))
  | none =>
    refine .neg (by simp [atR]) ?_
    refine .not (fun d => fine_bad (by simp) (by simp [addS, a, b, hb, d])) fun d => ?_
    refine .dec (fun e => fine_bad (by simp) ?_) fun e => .dec (fun f => fine_bad (by simp) ?_) fun f => ?_
    · have : fullB s = true := by simp [fullB]; omega
      simp [addS, a, b, hb, d, this]
    · have : fullB s = true := by simp [fullB]; omega
      simp [addS, a, b, hb, d, this]
    · have : fullB s = false := by simp [fullB]; omega
      refine .pos (by simp [room]; omega) (.pos (by simp [room]; omega) (fine_ok ?_))
      simp only [addS, a, b, hb, d, this, insS, Bool.true_eq_false, Bool.false_eq_true, if_false, Option.isSome_none]
      rw [List.take_length, List.drop_length, ← he, List.take_length, List.drop_length]
      rfl

theorem nameS_bad {nm : List Int} {b : Option Nat} (h : nameOK nm = false) : nameS s nm b = 1 := by simp [nameS, h]
theorem nameS_none {nm : List Int} {b : Option Nat} (h : nameOK nm = true) (h2 : byName s.1 nm = none) : nameS s nm b = 0 := by simp [nameS, h, h2]
theorem nameS_some {nm : List Int} {b : Option Nat} {j : Nat} (h : nameOK nm = true) (h2 : byName s.1 nm = some j) : nameS s nm b = if some j = b then 0 else 9 := by simp [nameS, h, h2]

theorem fine_turn (h : Ok n s l c) (hnm : c.2.2.1.length < n) (hnm2 : c.2.2.1.length ≤ 1000) (hk : 2 ≤ c.1 ∧ c.1 ≤ 5) : Gets (F39 n (s, l, c, ())) (Fine (match byId s.1 c.2.1 with | none => bad 3 | some i => turnS s l c i)) := by
  have h6 := h.len6; have hl := h.last; have hl1 := h.last1; have he := h.enc
  unfold F39
  dsimp only
  rw [F24_eq h.hn h.hc]
  simp only [Option.bind_some]
  cases hb : byId s.1 c.2.1 with
  | none => exact fine_bad (by simp) rfl
  | some i =>
    have hi : i < s.1.length := firstN_lt hb
    have hi' : (i : Int) < s.1.length := by omega
    dsimp only [atR]
    refine .not (fun h => by simp at h) fun _ => ?_
    simp only [wrap_succ (show i < 9223372036854775807 by omega)]
    refine .join (fun t => t = (l, heldB l c)) (fun t ht => ?_) fun J hJ => ?_
    · rw [ht, F22_eq h.hn h.hc]
      simp only [Option.bind_some]
      refine .dec (fun k2 => ?_) fun k2 => .dec (fun k3 => ?_) fun k3 => .dec (fun k4 => ?_) fun k4 => ?_
      · refine .dec (fun a => fine_bad (by simp) ?_) fun a => .ite (fun hh => fine_bad (by simp) ?_) fun hh => ?_
        · have : s.1.length = 1 := by omega
          simp [turnS, k2, dropS, this]
        · simp [turnS, k2, dropS, hh]
        · refine .pos (by omega) (.pos (by omega) (.pos (by simp [room]; omega) (.pos (by omega) (.pos (by omega) (.pos (by simp [room]; omega) (fine_ok ?_))))))
          have : ¬ s.1.length = 1 := by omega
          simp [turnS, k2, dropS, this, hh]
      · rw [F28_eq hnm hnm2]
        simp only [Option.bind_some]
        have ht3 : turnS s l c i = renS s l c i := by simp [turnS, k3]
        rw [ht3]
        unfold renS
        refine .not (fun a => fine_bad (by simp) (by rw [nameS_bad a]; simp)) fun a => ?_
        cases hbn : byName s.1 c.2.2.1 with
        | none => exact .neg (by simp [atR]) (.atI (by omega) hi' (fine_ok (by rw [nameS_none a hbn]; simp)))
        | some j =>
          rw [nameS_some a hbn]
          refine .pos rfl ?_
          by_cases hj : j = i
          · subst hj
            exact .neg (by simp [atR]) (.atI (by omega) hi' (fine_ok (by simp)))
          · have hj' : ¬ ((j : Int) = (i : Int)) := by omega
            exact .pos (by simp [atR, hj']) (fine_bad (by simp) (by simp [hj]))
      · have ht4 : turnS s l c i = widS s l c i := by simp [turnS, k4]
        rw [ht4]
        unfold widS
        refine .atI (by omega) hi' (.dec (fun (a : (s.1.getD i k0).2.2.1 = 3) => .atI (by omega) hi' (fine_ok ?_)) fun (a : ¬ (s.1.getD i k0).2.2.1 = 3) => .dec (fun (b : (s.1.getD i k0).2.2.1 = 1) => .atI (by omega) hi' (fine_ok ?_)) fun (b : ¬ (s.1.getD i k0).2.2.1 = 1) => fine_bad (by simp) ?_)
        · rw [if_pos a]; simp
        · rw [if_neg a, if_pos b]; simp
        · rw [if_neg a, if_neg b]
      · have k5 : c.1 = 5 := by omega
        have ht5 : turnS s l c i = spl s l c i := by simp [turnS, k5]
        rw [ht5, F28_eq hnm hnm2]
        simp only [Option.bind_some, wrap_i64 (x := s.2.1 + 1) (show -9223372036854775808 ≤ s.2.1 + 1 by omega) (show s.2.1 + 1 ≤ 9223372036854775807 by omega)]
        refine .atI (by omega) hi' (.not (fun a => fine_bad (by simp) ?_) fun a => .ite (fun hh => fine_bad (by simp) ?_) fun hh => .not (fun b => fine_bad (by simp) ?_) fun b => ?_)
        · have : (s.1.getD i k0).2.2.1 ≠ 4 := by simpa using a
          unfold spl
          rw [if_pos this]
        · have : ¬ (s.1.getD i k0).2.2.1 ≠ 4 := fun h => h (of_decide_eq_true a)
          unfold spl
          rw [if_neg this, if_pos hh]
        · have : ¬ (s.1.getD i k0).2.2.1 ≠ 4 := fun h => h (of_decide_eq_true a)
          unfold spl
          rw [if_neg this, if_neg hh, nameS_bad b]
          rfl
        · have this : ¬ (s.1.getD i k0).2.2.1 ≠ 4 := fun h => h (of_decide_eq_true a)
          unfold spl
          rw [if_neg this, if_neg hh]
          cases hbn : byName s.1 c.2.2.1 with
          | some j => exact .pos rfl (fine_bad (by simp) (by rw [nameS_some b hbn]; simp))
          | none =>
            refine .neg (by simp [atR]) ?_
            rw [nameS_none b hbn]
            refine .dec (fun e => fine_bad (by simp) ?_) fun e => .dec (fun f => fine_bad (by simp) ?_) fun f => ?_
            · have : fullB s = true := by simp [fullB]; omega
              simp [this]
            · have : fullB s = true := by simp [fullB]; omega
              simp [this]
            · have : fullB s = false := by simp [fullB]; omega
              refine .pos (by omega) (.pos (by simp [room]; omega) (.pos (by simp [room]; omega) (.pos (by omega) (.pos (by simp [room]; omega) (.pos (by omega) (.pos (by simp [room]; omega) (.pos (by simp [room]; omega) (.pos (by omega) (.pos (by simp [room]; omega) (fine_ok ?_))))))))))
              simp [this, insS]
    · exact .dec (fun a => hJ _ (by rw [show heldB l c = true by simp [heldB, a]])) fun a => hJ _ (by rw [show heldB l c = decide (l.2.1 = c.2.1) by simp [heldB, a]])

def FineL (s : Sch) (r : Res) (y : (Int × Unit) × (Lay × Unit)) : Prop := (y.1.1 = 0 ∧ r = (s, y.2.1, 0, ())) ∨ (y.1.1 ≠ 0 ∧ r = bad y.1.1)
theorem finl_bad {r : Res} {e : Int} {b : Lay} (he : e ≠ 0) (h : r = bad e) : Gets (some ((e, ()), (b, ()))) (FineL s r) := .some (.inr ⟨he, h⟩)
theorem finl_ok {r : Res} {b : Lay} (h : r = (s, b, 0, ())) : Gets (some ((0, ()), (b, ()))) (FineL s r) := .some (.inl ⟨rfl, h⟩)

theorem isB_some {s : Sch} {id : Int} {b : Bool} {i : Nat} (h : byId s.1 id = some i) : isB s id b = true := by simp [isB, h]
theorem isB_none {s : Sch} {id : Int} {b : Bool} (h : byId s.1 id = none) : isB s id b = (b && decide (id = 0)) := by simp [isB, h]

theorem change6 (k : c.1 = 6) : changeS s l c = if isB s c.2.1 true = true then (s, (c.2.1, l.2), 0, ()) else bad 3 := by simp [changeS, layS, k]
theorem change7 (k : c.1 = 7) : changeS s l c = if c.2.2.2.2.2.2.1 < 1 then bad 1 else if 4 < c.2.2.2.2.2.2.1 then bad 1 else if isB s c.2.1 (decide (c.2.2.2.2.2.2.1 = 1)) = true then (s, (l.1, c.2.1, c.2.2.2.2.2.2.1, l.2.2.2), 0, ()) else bad 3 := by simp [changeS, layS, k]
theorem change8 (k : c.1 = 8) : changeS s l c = (s, l, 0, ()) := by simp [changeS, layS, k]
theorem change9n (k : c.1 = 9) (hb : byId s.1 c.2.1 = none) : changeS s l c = bad 3 := by simp [changeS, k, hb]
theorem change9 (k : c.1 = 9) (hb : byId s.1 c.2.1 = some i) : changeS s l c = recS s l c i := by simp [changeS, turnS, k, hb]

theorem fine_lay (h : Ok n s l c) (hk : ¬ c.1 = 1) (hk2 : ¬ (2 ≤ c.1 ∧ c.1 ≤ 5)) : Gets (F40 n (s, l, c, ())) (FineL s (changeS s l c)) := by
  unfold F40
  dsimp only
  have he := h.enc
  rw [F24_eq h.hn h.hc]
  simp only [Option.bind_some]
  refine .dec (fun k6 => ?_) fun k6 => .dec (fun k7 => ?_) fun k7 => .dec (fun k8 => ?_) fun k8 => .dec (fun k9 => ?_) fun k9 => ?_
  · rw [change6 k6]
    cases hb : byId s.1 c.2.1 with
    | none =>
      rw [isB_none hb]
      refine .pos rfl ?_
      by_cases z : c.2.1 = 0
      · exact .neg (by simp [z]) (finl_ok (by simp [z]))
      · exact .pos (by simp [z]) (finl_bad (by simp) (by simp [z]))
    | some i =>
      rw [isB_some hb]
      exact .neg (by simp [atR]) (finl_ok (by simp))
  · rw [change7 k7]
    refine .dec (fun a => finl_bad (by simp) (by rw [if_pos a])) fun a => .dec (fun b => finl_bad (by simp) (by rw [if_neg a, if_pos b])) fun b => ?_
    rw [if_neg a, if_neg b]
    cases hb : byId s.1 c.2.1 with
    | none =>
      rw [isB_none hb]
      refine .pos rfl ?_
      by_cases z : c.2.1 = 0
      · refine .neg (by simp [z]) ?_
        by_cases z2 : c.2.2.2.2.2.2.1 = 1
        · exact .neg (by simp [z2]) (finl_ok (by simp [z, z2]))
        · exact .pos (by simp [z2]) (finl_bad (by simp) (by simp [z2]))
      · exact .pos (by simp [z]) (finl_bad (by simp) (by simp [z]))
    | some i =>
      rw [isB_some hb]
      exact .neg (by simp [atR]) (finl_ok (by simp))
  · rw [change8 k8]
    exact finl_ok rfl
  · cases hb : byId s.1 c.2.1 with
    | none =>
      rw [change9n k9 hb]
      exact .pos rfl (finl_bad (by simp) rfl)
    | some i =>
      have hi : i < s.1.length := firstN_lt hb
      rw [change9 k9 hb]
      refine .neg (by simp [atR]) (.dec (fun a => finl_bad (by simp) ?_) fun a => .dec (fun b => finl_bad (by simp) ?_) fun b => ?_)
      · have : encOK c.2.2.2.2.2.2.1 = false := by simp [encOK]; omega
        simp [recS, this]
      · have : encOK c.2.2.2.2.2.2.1 = false := by simp [encOK]; omega
        simp [recS, this]
      · have : encOK c.2.2.2.2.2.2.1 = true := by simp [encOK]; omega
        exact .atI (by simp [atR]) (by simp [atR]; omega) (finl_ok (by simp [atR, recS, this]))
  · have : changeS s l c = bad 1 := by
      have : ¬ (2 ≤ c.1 ∧ c.1 ≤ 5 ∨ c.1 = 9) := by omega
      simp [changeS, hk, k6, k7, k8, this]
    rw [this]
    exact finl_bad (by simp) rfl

theorem F14_eq (hn : 20 ≤ n) (hl : s.1.length < n) (hl2 : s.1.length ≤ 1000) (hcn : ∀ c, c ∈ s.1 → c.2.1.length < n ∧ c.2.1.length ≤ 1000) (he : l.2.2.2.1.length < n) (he2 : l.2.2.2.1.length ≤ 1000)
    (hnm : Bytes c.2.2.1) (hnl : c.2.2.1.length < n) (hnl2 : c.2.2.1.length ≤ 1000) : F14 n (s, l, c, ()) = some (applyS s l c, ()) := by
  have key : Gets (F14 n (s, l, c, ())) fun y => y = (applyS s l c, ()) := by
    unfold F14 applyS
    dsimp only
    rw [F18_eq hl hl2 hcn]
    simp only [Option.bind_some]
    cases h1 : mayS s with
    | false => exact .some rfl
    | true =>
      rw [F20_eq hl hl2 he he2]
      simp only [Option.bind_some]
      cases h2 : mayL s l with
      | false => exact .some rfl
      | true =>
        have hok : Ok n s l c := ok_of hn hnm h1 h2
        have h6 := hok.len6; have hen := hok.enc
        refine .not (fun h => by simp at h) fun _ => .not (fun h => by simp at h) fun _ => ?_
        rw [if_neg (show ¬ true = false by simp), if_neg (show ¬ true = false by simp)]
        simp only [List.nil_append]
        refine .pos (by simp [room]; omega) (.pos (by simp [room]; omega) (.join (fun t => (t.2.2 = 0 ∧ changeS s l c = (t.1, t.2.1, 0, ())) ∨ (t.2.2 ≠ 0 ∧ changeS s l c = bad t.2.2)) (fun t ht => ?_) fun J hJ => ?_))
        · rcases ht with ⟨t1, t2⟩ | ⟨t1, t2⟩
          · refine .neg (by simp [t1]) (.some ?_)
            rw [t2]
          · refine .pos (by simp [t1]) (.some ?_)
            rw [t2]; rfl
        · refine .dec (fun k1 => ?_) fun k1 => ?_
          · refine .bind (fine_add (s := s) (l := l) hok hnl hnl2) fun y hy => hJ _ ?_
            have : changeS s l c = addS s l c := by unfold changeS; rw [if_pos k1]
            rw [this]
            exact hy
          · have hlay : (¬ (2 ≤ c.1 ∧ c.1 ≤ 5)) → Gets ((F40 n (s, l, c, ())).bind fun y => J (s, y.2.1, y.1.1)) fun y => y = (changeS s l c, ()) := fun hk => .bind (fine_lay hok k1 hk) fun y hy => hJ _ hy
            refine .dec (fun k2 => .dec (fun k5 => ?_) fun k5 => hlay (by omega)) fun k2 => hlay (by omega)
            refine .bind (fine_turn (s := s) (l := l) hok hnl hnl2 ⟨k2, k5⟩) fun y hy => hJ _ ?_
            have : changeS s l c = (match byId s.1 c.2.1 with | none => bad 3 | some i => turnS s l c i) := by
              unfold changeS
              rw [if_neg k1, if_neg (by omega), if_pos (.inl ⟨k2, k5⟩)]
              try (cases byId s.1 c.2.1 <;> rfl)
            rw [this]
            exact hy
  obtain ⟨y, h1, rfl⟩ := key
  exact h1

end Go.Rb.S2

namespace Go.Rb.S2
open Go.Rb

abbrev Pks : Type := List Int × Int × Unit

/-- Numbers from which choices are read. -/
def Nums (l : List Int) : Prop := l.length ≤ 100 ∧ Bytes l
def Pk (l : List Int) (st : Pks) : Prop := st.1 = l ∧ 0 ≤ st.2.1 ∧ st.2.1 ≤ l.length

theorem num {l : List Int} {st : Pks} {m : Int} (n : Nat) (hl : Nums l) (hp : Pk l st) (hm : 1 ≤ m) : Gets (F31 n (st, m, ())) fun y => 0 ≤ y.1.1 ∧ y.1.1 < m ∧ Pk l y.2.1 := by
  obtain ⟨l', k, u⟩ := st
  obtain ⟨rfl, h1, h2⟩ := hp
  obtain ⟨g1, g2⟩ := hl
  unfold F31
  dsimp only at *
  refine .dec (fun h => .some ⟨Int.le_refl _, by dsimp only; omega, rfl, h1, h2⟩) fun h => ?_
  rw [wrap_i64 (x := k + 1) (by omega) (by omega), show k + 1 - 1 = k by omega, wrap_i64 (x := k) (by omega) (by omega)]
  refine .atI h1 (by omega) (.neg (by omega) (.some ?_))
  have hc : 0 ≤ l'.getD k.toNat 0 ∧ l'.getD k.toNat 0 ≤ 255 := g2 _ (getD_mem (by omega))
  rw [wrap_i64 (x := l'.getD k.toNat 0) (by omega) (by omega)]
  exact ⟨Int.tmod_nonneg _ hc.1, Int.tmod_lt_of_pos _ (by omega), rfl, by dsimp only; omega, by dsimp only; omega⟩

theorem made_pk {l : List Int} (n : Nat) : Gets (F10 n (l, ())) fun y => Pk l y.1.1 := .some ⟨rfl, by simp, by simp⟩

def TyOK (t : Int) : Prop := 1 ≤ t ∧ t ≤ 4

/-- The columns of a made schema behind the two first ones; how many more there will be. -/
def Rest (r : List Cl) (k : Int) : Prop :=
  (r = [] ∧ 0 ≤ k ∧ k ≤ 2) ∨ (∃ t, TyOK t ∧ r = [(3, [99, 99], t, ())] ∧ k = 1) ∨ (∃ t, TyOK t ∧ r = [(3, [99, 98], t, ())] ∧ k = 0) ∨ (∃ t u, TyOK t ∧ TyOK u ∧ r = [(3, [99, 99], t, ()), (4, [99, 98], u, ())] ∧ k = 0)
def Shape (s : Sch) (k : Int) : Prop := ∃ t r, TyOK t ∧ s.1 = (1, [105, 100], t, ()) :: (2, [116], 4, ()) :: r ∧ s.2.1 = 2 + r.length ∧ Rest r k

theorem Rest.le {r : List Cl} {k : Int} (h : Rest r k) : r.length + k ≤ 2 ∧ 0 ≤ k := by
  rcases h with ⟨rfl, h1, h2⟩ | ⟨t, _, rfl, rfl⟩ | ⟨t, _, rfl, rfl⟩ | ⟨t, u, _, _, rfl, rfl⟩ <;> simp <;> omega

theorem Shape.len {s : Sch} {k : Int} (h : Shape s k) : 2 ≤ s.1.length ∧ s.1.length + k ≤ 4 ∧ s.2.1 = s.1.length ∧ 0 ≤ k := by
  obtain ⟨t, r, h1, h2, h3, h4⟩ := h
  have := h4.le
  rw [h2, h3]
  simp only [List.length_cons]
  omega

structure MadeOK (s : Sch) (l : Lay) : Prop where
  sh : Shape s 0
  enc : l.2.2.2.1.length = s.1.length
  encs : ∀ e, e ∈ l.2.2.2.1 → 1 ≤ e ∧ e ≤ 5
  sort : 0 ≤ l.1 ∧ l.1 ≤ s.1.length
  part : (l.2.1 = 0 ∧ l.2.2.1 = 1) ∨ (1 ≤ l.2.1 ∧ l.2.1 ≤ s.1.length ∧ 1 ≤ l.2.2.1 ∧ l.2.2.1 ≤ 4)

theorem gets_made {l : List Int} {st : Pks} {n : Nat} (hn : 20 ≤ n) (hl : Nums l) (hp : Pk l st) : Gets (F11 n (st, ())) fun y => MadeOK y.1.1 y.1.2.1 ∧ Pk l y.2.1 := by
  unfold F11
  dsimp only
  refine .bind (num n hl hp (by omega)) fun y1 ⟨a1, b1, p1⟩ => ?_
  refine .bind (num n hl p1 (by omega)) fun y2 ⟨a2, b2, p2⟩ => ?_
  refine .iter (fun s => Pk l s.1 ∧ Shape s.2.1 s.2.2) (fun s => s.2.2.toNat) ⟨p2, ?_⟩ (by dsimp only; omega) fun rec s hi ih => ?_
  · refine ⟨_, [], ?_, rfl, by simp, .inl ⟨rfl, a2, by dsimp only; omega⟩⟩
    rw [wrap_i64 (by omega) (by omega)]
    exact ⟨by omega, by omega⟩
  obtain ⟨q1, q2⟩ := hi
  have hlen := q2.len
  refine .dec (fun h => ?_) fun h => ?_
  · refine .pos (by simp) (.bind (num n hl q1 (by omega)) fun y5 ⟨a5, b5, p5⟩ => ?_)
    refine .pos (by simp [room]; omega) (ih _ ⟨p5, ?_⟩ ?_)
    · dsimp only
      rw [wrap_i64 (x := s.2.2 - 1) (by omega) (by omega), wrap_i64 (x := s.2.1.2.1 + 1) (by omega) (by omega), wrap_i64 (x := 1 + y5.1.1) (by omega) (by omega), wrap_i64 (x := 97 + s.2.2) (by omega) (by omega), wrap_u8 (x := 97 + s.2.2) (by omega) (by omega)]
      have hty : TyOK (1 + y5.1.1) := ⟨by omega, by omega⟩
      obtain ⟨t, r, g1, g2, g3, g4⟩ := q2
      rcases g4 with ⟨rfl, h1, h2⟩ | ⟨u, hu, rfl, hk⟩ | ⟨u, hu, rfl, hk⟩ | ⟨u, v, hu, hv, rfl, hk⟩
      · have : s.2.2 = 1 ∨ s.2.2 = 2 := by omega
        rcases this with hk | hk
        · refine ⟨t, [(3, [99, 98], 1 + y5.1.1, ())], g1, ?_, ?_, .inr (.inr (.inl ⟨_, hty, rfl, by omega⟩))⟩
          · simp [g2, g3, hk]
          · simp [g3]
        · refine ⟨t, [(3, [99, 99], 1 + y5.1.1, ())], g1, ?_, ?_, .inr (.inl ⟨_, hty, rfl, by omega⟩)⟩
          · simp [g2, g3, hk]
          · simp [g3]
      · refine ⟨t, [(3, [99, 99], u, ()), (4, [99, 98], 1 + y5.1.1, ())], g1, ?_, ?_, .inr (.inr (.inr ⟨_, _, hu, hty, rfl, by omega⟩))⟩
        · simp [g2, g3, hk]
        · simp [g3]
      · omega
      · omega
    · dsimp only; rw [wrap_i64 (by omega) (by omega)]; omega
  · have hk0 : s.2.2 = 0 := by omega
    rw [hk0] at q2
    refine .iter (fun t => Pk l t.1 ∧ Shape t.2.1 0 ∧ t.2.2.1.1 = 0 ∧ t.2.2.1.2.1 = 0 ∧ t.2.2.1.2.2.1 = 1 ∧ 0 ≤ t.2.2.2 ∧ t.2.2.2 ≤ t.2.1.1.length ∧ (t.2.2.1.2.2.2.1.length : Int) = t.2.2.2 ∧ ∀ e, e ∈ t.2.2.1.2.2.2.1 → 1 ≤ e ∧ e ≤ 5) (fun t => (4 - t.2.2.2).toNat)
      ⟨q1, q2, rfl, rfl, rfl, by simp, by simp, by simp, by simp⟩ (by dsimp only; omega) fun rec' t hj ih' => ?_
    obtain ⟨r1, r2, r3, r4, r5, r6, r7, r8, r9⟩ := hj
    have hlen := r2.len
    refine .dec (fun h => ?_) fun h => ?_
    · refine .bind (num n hl r1 (by omega)) fun y8 ⟨a8, b8, p8⟩ => ?_
      rw [wrap_i64 (x := 1 + y8.1.1) (by omega) (by omega), wrap_i64 (x := t.2.2.2 + 1) (by omega) (by omega)]
      refine .pos (by simp [room]; omega) (ih' _ ⟨p8, r2, r3, r4, r5, ?_, ?_, ?_, ?_⟩ ?_)
      · dsimp only; omega
      · dsimp only; omega
      · simp only [List.length_append, List.length_cons, List.length_nil]; omega
      · intro e he
        rcases List.mem_append.1 he with he | he
        · exact r9 e he
        · rw [List.mem_singleton.1 he]; omega
      · dsimp only; omega
    · have hen : t.2.2.1.2.2.2.1.length = t.2.1.1.length := by omega
      refine .join (fun u => Pk l u.1 ∧ u.2.1 = t.2.1 ∧ u.2.2.2.1 = 0 ∧ u.2.2.2.2.1 = 1 ∧ u.2.2.2.2.2.1 = t.2.2.1.2.2.2.1 ∧ 0 ≤ u.2.2.1 ∧ u.2.2.1 ≤ t.2.1.1.length) (fun u hu => ?_) fun J hJ => ?_
      · obtain ⟨v1, v2, v3, v4, v5, v6, v7⟩ := hu
        refine .bind (num n hl v1 (by omega)) fun y11 ⟨_, _, p11⟩ => ?_
        refine .dec (fun h => ?_) fun h => .some ⟨⟨by rw [v2]; exact r2, by dsimp only; rw [v5, v2]; exact hen, by dsimp only; rw [v5]; exact r9, by dsimp only; rw [v2]; exact ⟨v6, v7⟩, .inl ⟨v3, v4⟩⟩, p11⟩
        have hul : u.2.1.1.length = t.2.1.1.length := by rw [v2]
        refine .bind (num n hl p11 (by omega)) fun y12 ⟨a12, b12, p12⟩ => ?_
        refine .bind (num n hl p12 (by omega)) fun y13 ⟨a13, b13, p13⟩ => ?_
        rw [wrap_i64 (x := 1 + y12.1.1) (by omega) (by omega), wrap_i64 (x := 1 + y13.1.1) (by omega) (by omega)]
        exact .some ⟨⟨by rw [v2]; exact r2, by dsimp only; rw [v5, v2]; exact hen, by dsimp only; rw [v5]; exact r9, by dsimp only; rw [v2]; exact ⟨v6, v7⟩, .inr ⟨by dsimp only; omega, by dsimp only; omega, by dsimp only; omega, by dsimp only; omega⟩⟩, p13⟩
      · refine .bind (num n hl r1 (by omega)) fun y14 ⟨_, _, p14⟩ => ?_
        refine .dec (fun h => ?_) fun h => hJ _ ⟨p14, rfl, r4, r5, rfl, by dsimp only; omega, by dsimp only; omega⟩
        refine .bind (num n hl p14 (by omega)) fun y15 ⟨a15, b15, p15⟩ => ?_
        rw [wrap_i64 (x := 1 + y15.1.1) (by omega) (by omega)]
        exact hJ _ ⟨p15, rfl, r4, r5, rfl, by dsimp only; omega, by dsimp only; omega⟩

theorem Shape.id {s : Sch} (h : Shape s 0) : ∀ i, i < s.1.length → (s.1.getD i k0).1 = i + 1 := by
  obtain ⟨t, r, h1, h2, h3, h4⟩ := h
  intro i hi
  rw [h2] at hi ⊢
  rcases h4 with ⟨rfl, _, _⟩ | ⟨u, hu, rfl, hk⟩ | ⟨u, hu, rfl, hk⟩ | ⟨u, v, hu, hv, rfl, hk⟩
  · have : i = 0 ∨ i = 1 := by simp at hi; omega
    rcases this with rfl | rfl <;> simp
  · omega
  · have : i = 0 ∨ i = 1 ∨ i = 2 := by simp at hi; omega
    rcases this with rfl | rfl | rfl <;> simp
  · have : i = 0 ∨ i = 1 ∨ i = 2 ∨ i = 3 := by simp at hi; omega
    rcases this with rfl | rfl | rfl | rfl <;> simp

theorem byId_of {s : Sch} (h : Shape s 0) {id : Int} (h1 : 1 ≤ id) (h2 : id ≤ s.1.length) : byId s.1 id = some (id - 1).toNat := by
  unfold byId
  cases hf : firstN s.1.length fun i => decide ((s.1.getD i k0).1 = id) with
  | none =>
    have := firstN_none.1 hf (id - 1).toNat (by omega)
    rw [h.id _ (by omega)] at this
    simp at this
    omega
  | some j =>
    have g1 := firstN_lt hf
    have g2 := firstN_at hf
    rw [h.id _ g1] at g2
    simp at g2
    congr 1
    omega

theorem Shape.may {s : Sch} (h : Shape s 0) : mayS s = true := by
  have hid := h.id
  have hlen := h.len
  obtain ⟨t, r, ⟨h1, h1'⟩, h2, h3, h4⟩ := h
  unfold mayS lenOK
  have g1 : (decide (1 ≤ s.1.length) && decide (s.1.length ≤ 6) && decide (s.2.1 ≤ 10000)) = true := by simp; omega
  rw [g1, Bool.and_true, allN_iff]
  intro i hi
  unfold colOK
  rw [hid i hi]
  have g2 : decide ((1 : Int) ≤ (i : Int) + 1) = true := by simp; omega
  have g3 : decide ((i : Int) + 1 ≤ s.2.1) = true := by simp; omega
  rw [g2, g3]
  rw [h2] at hi ⊢
  rcases h4 with ⟨rfl, _, _⟩ | ⟨u, hu, rfl, hk⟩ | ⟨u, ⟨hu, hu'⟩, rfl, hk⟩ | ⟨u, v, ⟨hu, hu'⟩, ⟨hv, hv'⟩, rfl, hk⟩
  · have : i = 0 ∨ i = 1 := by simp at hi; omega
    rcases this with rfl | rfl
    · simp [typeOK, nameOK, allN, byteOK, List.range_succ, anyN, same1, h1, h1']
    · simp [typeOK, nameOK, allN, byteOK, List.range_succ, anyN, same1]
  · omega
  · have : i = 0 ∨ i = 1 ∨ i = 2 := by simp at hi; omega
    rcases this with rfl | rfl | rfl
    · simp [typeOK, nameOK, allN, byteOK, List.range_succ, anyN, same1, h1, h1']
    · simp [typeOK, nameOK, allN, byteOK, List.range_succ, anyN, same1]
    · simp [typeOK, nameOK, allN, byteOK, List.range_succ, anyN, same1, hu, hu']
  · have : i = 0 ∨ i = 1 ∨ i = 2 ∨ i = 3 := by simp at hi; omega
    rcases this with rfl | rfl | rfl | rfl
    · simp [typeOK, nameOK, allN, byteOK, List.range_succ, anyN, same1, h1, h1']
    · simp [typeOK, nameOK, allN, byteOK, List.range_succ, anyN, same1]
    · simp [typeOK, nameOK, allN, byteOK, List.range_succ, anyN, same1, hu, hu']
    · simp [typeOK, nameOK, allN, byteOK, List.range_succ, anyN, same1, hv, hv']

theorem isB_of {s : Sch} (h : Shape s 0) {id : Int} {b : Bool} (h1 : 1 ≤ id) (h2 : id ≤ s.1.length) : isB s id b = true := by
  unfold isB; rw [byId_of h h1 h2]; rfl

theorem MadeOK.may {s : Sch} {l : Lay} (h : MadeOK s l) : mayL s l = true := by
  obtain ⟨h1, h2, h3, h4, h5⟩ := h
  unfold mayL
  have g1 : isB s l.1 true = true := by
    by_cases z : l.1 = 0
    · simp [isB, z]
    · exact isB_of h1 (by omega) h4.2
  have g2 : isB s l.2.1 (decide (l.2.2.1 = 1)) = true := by
    rcases h5 with ⟨a, b⟩ | ⟨a, b, _⟩
    · simp [isB, a, b]
    · exact isB_of h1 a b
  have g3 : (decide (1 ≤ l.2.2.1) && decide (l.2.2.1 ≤ 4)) = true := by
    rcases h5 with ⟨a, b⟩ | ⟨_, _, a, b⟩ <;> simp <;> omega
  have g4 : (allN l.2.2.2.1.length fun i => encOK (l.2.2.2.1.getD i 0)) = true := by
    rw [allN_iff]
    intro i hi
    have := h3 _ (getD_mem (d := 0) hi)
    unfold encOK
    rw [decide_eq_true this.1, decide_eq_true this.2]; rfl
  rw [g1, g2, g3, g4, decide_eq_true h2]; rfl

theorem Shape.col {s : Sch} (h : Shape s 0) : ∀ c, c ∈ s.1 → TyOK c.2.2.1 ∧ Bytes c.2.1 ∧ c.2.1.length ≤ 2 := by
  obtain ⟨t, r, h1, h2, h3, h4⟩ := h
  intro c hc
  rw [h2] at hc
  have b0 : Bytes [105, 100] := by intro b hb; simp at hb; omega
  have b1 : Bytes [116] := by intro b hb; simp at hb; omega
  have b2 : Bytes [99, 99] := by intro b hb; simp at hb; omega
  have b3 : Bytes [99, 98] := by intro b hb; simp at hb; omega
  rcases List.mem_cons.1 hc with rfl | hc
  · exact ⟨h1, b0, by simp⟩
  rcases List.mem_cons.1 hc with rfl | hc
  · exact ⟨⟨by simp, by simp⟩, b1, by simp⟩
  rcases h4 with ⟨rfl, _, _⟩ | ⟨u, hu, rfl, hk⟩ | ⟨u, hu, rfl, hk⟩ | ⟨u, v, hu, hv, rfl, hk⟩
  · simp at hc
  · omega
  · rw [List.mem_singleton.1 hc]; exact ⟨hu, b3, by simp⟩
  · rcases List.mem_cons.1 hc with rfl | hc
    · exact ⟨hu, b2, by simp⟩
    · rw [List.mem_singleton.1 hc]; exact ⟨hv, b3, by simp⟩

/-! ### Values, rows -/

theorem fits_none {t : Int} (h1 : 1 ≤ t) (h2 : t ≤ 4) : fitsV t d0 = true := by simp [fitsV, mayV, typeOK, d0, h1, h2]

theorem gets_val {l : List Int} {st : Pks} {t : Int} (n : Nat) (hl : Nums l) (hp : Pk l st) (ht : 1 ≤ t) (ht4 : t ≤ 4) : Gets (F33 n (st, t, ())) fun y => fitsV t y.1.1 = true ∧ Pk l y.2.1 := by
  unfold F33
  dsimp only
  refine .bind (num n hl hp (by omega)) fun y1 ⟨a1, b1, p1⟩ => ?_
  have hk : y1.1.1.toNat < 9 := by omega
  refine .join (fun s => Pk l s.1) (fun s hs => ?_) fun J hJ => ?_
  · refine .dec (fun h => ?_) fun h => ?_
    · subst h
      refine .atI a1 (by simpa using b1) (.some ⟨?_, hs⟩)
      dsimp only
      generalize y1.1.1.toNat = i at hk
      have key : ∀ i, i < 9 → fitsV 1 (1, ([(0:Int), (1:Int), (2:Int), (3:Int), (-1:Int), (100:Int), (-32768:Int), (32767:Int), (5:Int)].getD i (0:Int)), [], ()) = true := by decide
      exact key i hk
    refine .dec (fun h => ?_) fun h => ?_
    · subst h
      refine .atI a1 (by simpa using b1) (.some ⟨?_, hs⟩)
      simp [fitsV, mayV, typeOK]
    refine .dec (fun h => ?_) fun h => ?_
    · subst h
      refine .some ⟨?_, hs⟩
      have e1 := Int.tmod_nonneg 2 a1
      have e2 := Int.tmod_lt_of_pos y1.1.1 (b := 2) (by omega)
      have : y1.1.1.tmod 2 = 0 ∨ y1.1.1.tmod 2 = 1 := by omega
      simp [fitsV, mayV, typeOK, this]
    have h4 : t = 4 := by omega
    subst h4
    refine .atI a1 (by simpa using b1) (.some ⟨?_, hs⟩)
    dsimp only
    generalize y1.1.1.toNat = i at hk
    have key : ∀ i, i < 9 → fitsV 4 (4, 0, (([[], [97], [98], [97, 58, 98], [97, 98], [120, 58, 121, 58, 122], [58], [116, 119, 101, 110, 116, 121, 45, 98, 121, 116, 101, 115, 45, 111, 102, 45, 116, 101, 120, 116], [99]] : List (List Int)).getD i []), ()) = true := by decide
    exact key i hk
  · refine .dec (fun h => ?_) fun h => hJ _ p1
    refine .bind (Q' := fun y => Pk l y.2.1) (.some p1) fun y4 p4 => ?_
    exact .not (fun _ => .some ⟨fits_none ht ht4, p4⟩) fun _ => hJ _ p4

theorem gets_row {l : List Int} {st : Pks} {s : Sch} {n : Nat} (hn : 20 ≤ n) (hl : Nums l) (hp : Pk l st) (hc : s.1.length ≤ 4) (hok : ∀ c, c ∈ s.1 → TyOK c.2.2.1) :
    Gets (F29 n (st, s, ())) fun y => fitsRow s.1 y.1.1 = true ∧ Pk l y.2.1 := by
  unfold F29
  dsimp only
  refine .iter (fun t => Pk l t.1 ∧ (∀ i, i < t.2.1.length → fitsV (s.1.getD i k0).2.2.1 (t.2.1.getD i d0) = true) ∧ (t.2.1.length : Int) = t.2.2 ∧ t.2.2 ≤ s.1.length) (fun t => (4 - t.2.2).toNat) ⟨hp, by simp, by simp, by simp⟩ (by dsimp only; omega) fun rec t hi ih => ?_
  obtain ⟨q1, q2, q3, q4⟩ := hi
  refine .dec (fun h => ?_) fun h => ?_
  · have hco := hok _ (getD_mem (d := k0) (show t.2.2.toNat < s.1.length by omega))
    refine .atI (by omega) h (.bind (gets_val n hl q1 hco.1 hco.2) fun y3 ⟨a3, p3⟩ => ?_)
    refine .pos (by simp [room]; omega) (ih _ ⟨p3, fun i hi => ?_, ?_, ?_⟩ ?_)
    · dsimp only at hi ⊢
      rw [List.length_append] at hi
      simp only [List.length_cons, List.length_nil] at hi
      by_cases hit : i < t.2.1.length
      · rw [getD_lt (l := t.2.1 ++ [y3.1.1]) (i := i) (d := d0) (by simp; omega), List.getElem_append_left hit, ← getD_lt (d := d0) hit]
        exact q2 i hit
      · have : i = t.2.1.length := by omega
        subst this
        rw [getD_lt (l := t.2.1 ++ [y3.1.1]) (i := t.2.1.length) (d := d0) (by simp), List.getElem_append_right (by omega)]
        simpa [show t.2.2.toNat = t.2.1.length by omega] using a3
    all_goals (try simp only [List.length_append, List.length_cons, List.length_nil]); (rw [wrap_i64 (by omega) (by omega)]); omega
  · refine .some ⟨fitsRow_iff.2 ⟨by dsimp only; omega, fun i hi => q2 i (by omega)⟩, q1⟩

theorem gets_col {l : List Int} {st : Pks} {s : Sch} (n : Nat) (hl : Nums l) (hp : Pk l st) (hc : 1 ≤ s.1.length) : Gets (F32 n (st, s, ())) fun y => Pk l y.2.1 := by
  unfold F32
  dsimp only
  refine .bind (num n hl hp (by omega)) fun y1 ⟨a1, b1, p1⟩ => ?_
  exact .atI a1 b1 (.some p1)

/-- A made change's name is short. -/
theorem gets_change {l : List Int} {st : Pks} {s : Sch} (n : Nat) (hl : Nums l) (hp : Pk l st) (hc : 1 ≤ s.1.length) : Gets (F12 n (st, s, ())) fun y => y.1.1.2.2.1.length ≤ 2 ∧ Bytes y.1.1.2.2.1 ∧ Pk l y.2.1 := by
  unfold F12
  dsimp only
  have bnil : Bytes [] := by intro b hb; simp at hb
  have bcons : ∀ {a x : Int}, 0 ≤ a → a ≤ 255 → Bytes ([a] ++ [IntKind.u8.wrap x]) := by
    intro a x h1 h2 b hb
    have := u8_range x
    simp at hb
    rcases hb with rfl | rfl <;> omega
  refine .bind (num n hl hp (by omega)) fun y1 ⟨a1, b1, p1⟩ => ?_
  refine .bind (gets_col n hl p1 hc) fun y2 p2 => ?_
  refine .dec (fun h => ?_) fun h => ?_
  · refine .bind (num n hl p2 (by omega)) fun y3 ⟨a3, b3, p3⟩ => ?_
    refine .bind (num n hl p3 (by omega)) fun y4 ⟨a4, b4, p4⟩ => ?_
    rw [wrap_i64 (x := 1 + y3.1.1) (by omega) (by omega)]
    exact .pos (by simp) (.bind (gets_val n hl p4 (by omega) (by omega)) fun y5 ⟨_, p5⟩ => .some ⟨by simp, bcons (by omega) (by omega), p5⟩)
  refine .dec (fun h => ?_) fun h => ?_
  · exact .bind (num n hl p2 (by omega)) fun y6 ⟨a6, b6, p6⟩ => .pos (by simp) (.some ⟨by simp, bcons (by omega) (by omega), p6⟩)
  refine .dec (fun h => ?_) fun h => ?_
  · refine .bind (num n hl p2 (by omega)) fun y7 ⟨a7, b7, p7⟩ => .pos (by simp) (.bind (num n hl p7 (by omega)) fun y8 ⟨a8, b8, p8⟩ => ?_)
    exact .dec (fun _ => .some ⟨by simp, bcons (by omega) (by omega), p8⟩) fun _ => .some ⟨by simp, bcons (by omega) (by omega), p8⟩
  refine .dec (fun h => ?_) fun h => ?_
  · refine .bind (num n hl p2 (by omega)) fun y9 ⟨a9, b9, p9⟩ => ?_
    exact .dec (fun _ => .some ⟨by simp, bnil, p9⟩) fun _ => .some ⟨by simp, bnil, p9⟩
  refine .dec (fun h => ?_) fun h => ?_
  · exact .bind (num n hl p2 (by omega)) fun y10 ⟨_, _, p10⟩ => .some ⟨by simp, bnil, p10⟩
  refine .dec (fun h => .some ⟨by simp, bnil, p2⟩) fun h => ?_
  refine .dec (fun h => ?_) fun h => .some ⟨by simp, bnil, p2⟩
  exact .bind (num n hl p2 (by omega)) fun y11 ⟨_, _, p11⟩ => .some ⟨by simp, bnil, p11⟩

theorem begun8 : F8 200 () = some ((true, ()), ()) := by kernel_rfl

end Go.Rb.S2

namespace Go.Rb.S2
open Go.Rb
variable {n : Nat} {s : Sch} {l : Lay} {c : Chg} {i : Nat}

/-- A schema and a layout behind a change that may be. -/
def Ap (s : Sch) (l : Lay) (c : Chg) (t : Sch) (m : Lay) : Prop :=
  (c.1 = 1 ∧ nameOK c.2.2.1 = true ∧ typeOK c.2.2.2.1 = true ∧ byName s.1 c.2.2.1 = none ∧ fullB s = false ∧ (t, m, (0 : Int), ()) = insS s l c.2.2.1 s.1.length c.2.2.2.1) ∨
  (c.1 = 2 ∧ ∃ i, byId s.1 c.2.1 = some i ∧ s.1.length ≠ 1 ∧ heldB l c = false ∧ t = (s.1.take i ++ s.1.drop (i + 1), s.2.1, ()) ∧ m = (l.1, l.2.1, l.2.2.1, l.2.2.2.1.take i ++ l.2.2.2.1.drop (i + 1), ())) ∨
  (c.1 = 3 ∧ ∃ i, byId s.1 c.2.1 = some i ∧ nameS s c.2.2.1 (some i) = 0 ∧ t = (s.1.set i ((s.1.getD i k0).1, c.2.2.1, (s.1.getD i k0).2.2), s.2.1, ()) ∧ m = l) ∨
  (c.1 = 4 ∧ ∃ i ty, byId s.1 c.2.1 = some i ∧ typeOK ty = true ∧ t = (s.1.set i ((s.1.getD i k0).1, (s.1.getD i k0).2.1, ty, ()), s.2.1, ()) ∧ m = l) ∨
  (c.1 = 5 ∧ ∃ i, byId s.1 c.2.1 = some i ∧ nameS s c.2.2.1 none = 0 ∧ fullB s = false ∧ (t, m, (0 : Int), ()) = insS s l c.2.2.1 (i + 1) 4) ∨
  (c.1 = 6 ∧ isB s c.2.1 true = true ∧ t = s ∧ m = (c.2.1, l.2)) ∨
  (c.1 = 7 ∧ 1 ≤ c.2.2.2.2.2.2.1 ∧ c.2.2.2.2.2.2.1 ≤ 4 ∧ isB s c.2.1 (decide (c.2.2.2.2.2.2.1 = 1)) = true ∧ t = s ∧ m = (l.1, c.2.1, c.2.2.2.2.2.2.1, l.2.2.2)) ∨
  (c.1 = 8 ∧ t = s ∧ m = l) ∨
  (c.1 = 9 ∧ ∃ i, byId s.1 c.2.1 = some i ∧ encOK c.2.2.2.2.2.2.1 = true ∧ t = s ∧ m = (l.1, l.2.1, l.2.2.1, l.2.2.2.1.set i c.2.2.2.2.2.2.1, ()))

def Told (s : Sch) (l : Lay) (c : Chg) (r : Res) : Prop := (∃ e, e ≠ 0 ∧ r = bad e) ∨ (mayS s = true ∧ mayL s l = true ∧ ∃ t m, r = (t, m, 0, ()) ∧ Ap s l c t m)

theorem applyS_cases (s : Sch) (l : Lay) (c : Chg) : Told s l c (applyS s l c) := by
  unfold applyS
  cases h1 : mayS s with
  | false => exact .inl ⟨1, by simp, by simp⟩
  | true =>
    cases h2 : mayL s l with
    | false => exact .inl ⟨1, by simp, by simp⟩
    | true =>
      rw [if_neg (by simp), if_neg (by simp)]
      have no : ∀ {e : Int}, e ≠ 0 → Told s l c (bad e) := fun he => .inl ⟨_, he, rfl⟩
      have ok : ∀ {t : Sch} {m : Lay}, Ap s l c t m → Told s l c (t, m, 0, ()) := fun h => .inr ⟨h1, h2, _, _, rfl, h⟩
      have okI : ∀ {nm : List Int} {i : Nat} {ty : Int}, (∀ t m, (t, m, (0 : Int), ()) = insS s l nm i ty → Ap s l c t m) → Told s l c (insS s l nm i ty) := fun h => .inr ⟨h1, h2, _, _, rfl, h _ _ rfl⟩
      unfold changeS
      by_cases k1 : c.1 = 1
      · rw [if_pos k1]
        unfold addS
        cases a : nameOK c.2.2.1 with
        | false => exact no (by simp)
        | true =>
          rw [if_neg (by simp)]
          cases b : typeOK c.2.2.2.1 with
          | false => exact no (by simp)
          | true =>
            rw [if_neg (by simp)]
            cases d : byName s.1 c.2.2.1 with
            | some j => exact no (by simp)
            | none =>
              rw [if_neg (by simp)]
              cases fitsV c.2.2.2.1 c.2.2.2.2.1 with
              | false => exact no (by simp)
              | true =>
                rw [if_neg (by simp)]
                cases e : fullB s with
                | true => exact no (by simp)
                | false => exact okI fun t m h => .inl ⟨k1, a, b, d, e, h⟩
      · rw [if_neg k1]
        by_cases k6 : c.1 = 6
        · rw [if_pos (.inl k6)]
          unfold layS
          rw [if_pos k6]
          cases a : isB s c.2.1 true with
          | false => exact no (by simp)
          | true => exact ok (.inr (.inr (.inr (.inr (.inr (.inl ⟨k6, a, rfl, rfl⟩))))))
        · by_cases k7 : c.1 = 7
          · rw [if_pos (.inr (.inl k7))]
            unfold layS
            rw [if_neg k6, if_pos k7]
            by_cases a : c.2.2.2.2.2.2.1 < 1
            · rw [if_pos a]; exact no (by simp)
            · rw [if_neg a]
              by_cases b : 4 < c.2.2.2.2.2.2.1
              · rw [if_pos b]; exact no (by simp)
              · rw [if_neg b]
                cases d : isB s c.2.1 (decide (c.2.2.2.2.2.2.1 = 1)) with
                | false => exact no (by simp)
                | true => exact ok (.inr (.inr (.inr (.inr (.inr (.inr (.inl ⟨k7, by omega, by omega, d, rfl, rfl⟩)))))))
          · by_cases k8 : c.1 = 8
            · rw [if_pos (.inr (.inr k8))]
              unfold layS
              rw [if_neg k6, if_neg k7]
              exact ok (.inr (.inr (.inr (.inr (.inr (.inr (.inr (.inl ⟨k8, rfl, rfl⟩))))))))
            · rw [if_neg (by omega)]
              by_cases kk : 2 ≤ c.1 ∧ c.1 ≤ 5 ∨ c.1 = 9
              · rw [if_pos kk]
                cases hb : byId s.1 c.2.1 with
                | none => exact no (by simp)
                | some i =>
                  dsimp only
                  unfold turnS
                  by_cases k2 : c.1 = 2
                  · rw [if_pos k2]
                    unfold dropS
                    by_cases a : s.1.length = 1
                    · rw [if_pos a]; exact no (by simp)
                    · rw [if_neg a]
                      cases b : heldB l c with
                      | true => exact no (by simp)
                      | false => exact ok (.inr (.inl ⟨k2, i, hb, a, b, rfl, rfl⟩))
                  · rw [if_neg k2]
                    by_cases k3 : c.1 = 3
                    · rw [if_pos k3]
                      unfold renS
                      by_cases a : nameS s c.2.2.1 (some i) = 0
                      · rw [if_pos a]; exact ok (.inr (.inr (.inl ⟨k3, i, hb, a, rfl, rfl⟩)))
                      · rw [if_neg a]; exact no a
                    · rw [if_neg k3]
                      by_cases k4 : c.1 = 4
                      · rw [if_pos k4]
                        unfold widS
                        by_cases a : (s.1.getD i k0).2.2.1 = 3
                        · rw [if_pos a]; exact ok (.inr (.inr (.inr (.inl ⟨k4, i, 1, hb, by decide, rfl, rfl⟩))))
                        · rw [if_neg a]
                          by_cases b : (s.1.getD i k0).2.2.1 = 1
                          · rw [if_pos b]; exact ok (.inr (.inr (.inr (.inl ⟨k4, i, 2, hb, by decide, rfl, rfl⟩))))
                          · rw [if_neg b]; exact no (by simp)
                      · rw [if_neg k4]
                        by_cases k5 : c.1 = 5
                        · rw [if_pos k5]
                          unfold spl
                          by_cases a : (s.1.getD i k0).2.2.1 ≠ 4
                          · rw [if_pos a]; exact no (by simp)
                          · rw [if_neg a]
                            cases b : heldB l c with
                            | true => exact no (by simp)
                            | false =>
                              rw [if_neg (by simp)]
                              by_cases d : nameS s c.2.2.1 none = 0
                              · rw [if_neg (by simp [d])]
                                cases e : fullB s with
                                | true => exact no (by simp)
                                | false => exact okI fun t m h => .inr (.inr (.inr (.inr (.inl ⟨k5, i, hb, d, e, h⟩))))
                              · rw [if_pos d]; exact no d
                        · rw [if_neg k5]
                          have k9 : c.1 = 9 := by omega
                          unfold recS
                          cases a : encOK c.2.2.2.2.2.2.1 with
                          | false => exact no (by simp)
                          | true => exact ok (.inr (.inr (.inr (.inr (.inr (.inr (.inr (.inr ⟨k9, i, hb, a, rfl, rfl⟩))))))))
              · rw [if_neg kk]; exact no (by simp)

theorem Ap.len {t : Sch} {m : Lay} (h : Ap s l c t m) : t.1.length ≤ s.1.length + 1 ∧ m.2.2.2.1.length ≤ l.2.2.2.1.length + 1 := by
  have hins : ∀ {nm : List Int} {j : Nat} {ty : Int}, (t, m, (0 : Int), ()) = insS s l nm j ty → t.1.length ≤ s.1.length + 1 ∧ m.2.2.2.1.length ≤ l.2.2.2.1.length + 1 := fun h => by
    simp only [insS, Prod.mk.injEq] at h
    obtain ⟨rfl, rfl, _⟩ := h
    simp
    omega
  rcases h with ⟨_, _, _, _, _, h⟩ | ⟨_, i, _, _, _, rfl, rfl⟩ | ⟨_, i, _, _, rfl, rfl⟩ | ⟨_, i, ty, _, _, rfl, rfl⟩ | ⟨_, i, _, _, _, h⟩ | ⟨_, _, rfl, rfl⟩ | ⟨_, _, _, _, rfl, rfl⟩ | ⟨_, rfl, rfl⟩ | ⟨_, i, _, _, rfl, rfl⟩
  · exact hins h
  · simp; omega
  · simp
  · simp
  · exact hins h
  · simp
  · simp
  · simp
  · simp

theorem applyS_len (s : Sch) (l : Lay) (c : Chg) : (applyS s l c).1.1.length ≤ s.1.length + 1 ∧ (applyS s l c).2.1.2.2.2.1.length ≤ l.2.2.2.1.length + 1 := by
  rcases applyS_cases s l c with ⟨e, _, h⟩ | ⟨_, _, t, m, h, ha⟩
  · rw [h]; simp [bad]
  · rw [h]; exact ha.len

end Go.Rb.S2

namespace Go.Rb.S2
open Go.Rb
variable {n : Nat} {s : Sch} {l : Lay} {c : Chg} {i : Nat}

def Df (a b : Cl) : Prop := a.1 ≠ b.1 ∧ a.2.1 ≠ b.2.1
def CP (last : Int) (c : Cl) : Prop := 1 ≤ c.1 ∧ c.1 ≤ last ∧ nameOK c.2.1 = true ∧ typeOK c.2.2.1 = true

structure May (s : Sch) : Prop where
  col : ∀ c, c ∈ s.1 → CP s.2.1 c
  df : s.1.Pairwise Df
  len1 : 1 ≤ s.1.length
  len6 : s.1.length ≤ 6
  last : s.2.1 ≤ 10000

theorem Df.symm {a b : Cl} (h : Df a b) : Df b a := ⟨fun e => h.1 e.symm, fun e => h.2 e.symm⟩

theorem may_iff : mayS s = true ↔ May s := by
  unfold mayS lenOK
  simp only [Bool.and_eq_true, decide_eq_true_eq]
  constructor
  · rintro ⟨h1, ⟨h2, h3⟩, h4⟩
    have hc := allN_iff.1 h1
    refine ⟨fun c hc' => ?_, List.pairwise_iff_getElem.2 fun i j hi hj hij => ?_, h2, h3, h4⟩
    · obtain ⟨i, hi, rfl⟩ := List.getElem_of_mem hc'
      have := hc i hi
      unfold colOK at this
      simp only [Bool.and_eq_true, decide_eq_true_eq] at this
      rw [getD_lt hi] at this
      exact ⟨this.1.1.1.1, this.1.1.1.2, this.1.1.2, this.1.2⟩
    · have := hc j hj
      unfold colOK at this
      simp only [Bool.and_eq_true] at this
      have h5 : ¬ (anyN j fun k => same1 (s.1.getD k k0) (s.1.getD j k0)) = true := by simpa using this.2
      rw [anyN_iff] at h5
      have h6 : ¬ same1 (s.1.getD i k0) (s.1.getD j k0) = true := fun h => h5 ⟨i, hij, h⟩
      rw [getD_lt hi, getD_lt hj] at h6
      unfold same1 at h6
      simp only [Bool.or_eq_true, decide_eq_true_eq, not_or] at h6
      exact h6
  · rintro ⟨h1, h2, h3, h4, h5⟩
    refine ⟨allN_iff.2 fun i hi => ?_, ⟨h3, h4⟩, h5⟩
    unfold colOK
    have hm := h1 _ (getD_mem (d := k0) hi)
    obtain ⟨g1, g2, g3, g4⟩ := hm
    rw [decide_eq_true g1, decide_eq_true g2, g3, g4]
    have : (anyN i fun k => same1 (s.1.getD k k0) (s.1.getD i k0)) = false := by
      rw [Bool.eq_false_iff]
      intro h
      obtain ⟨k, hk, hs⟩ := anyN_iff.1 h
      have hd := List.pairwise_iff_getElem.1 h2 k i (by omega) hi hk
      rw [getD_lt (show k < s.1.length by omega), getD_lt hi] at hs
      unfold same1 at hs
      simp only [Bool.or_eq_true, decide_eq_true_eq] at hs
      exact hs.elim hd.1 hd.2
    rw [this]; rfl

def Has (s : Sch) (id : Int) : Prop := ∃ c, c ∈ s.1 ∧ c.1 = id

theorem isB_iff {id : Int} {b : Bool} : isB s id b = true ↔ Has s id ∨ (b = true ∧ id = 0) := by
  unfold isB
  rw [Bool.or_eq_true, Bool.and_eq_true, decide_eq_true_eq]
  refine or_congr ?_ Iff.rfl
  unfold byId
  rw [firstN_some, anyN_iff]
  constructor
  · rintro ⟨i, hi, h⟩
    exact ⟨_, getD_mem (d := k0) hi, by simpa using h⟩
  · rintro ⟨c, hc, rfl⟩
    obtain ⟨i, hi, rfl⟩ := List.getElem_of_mem hc
    exact ⟨i, hi, by rw [getD_lt hi]; simp⟩

structure MayL (s : Sch) (l : Lay) : Prop where
  sort : Has s l.1 ∨ l.1 = 0
  parts : 1 ≤ l.2.2.1 ∧ l.2.2.1 ≤ 4
  part : Has s l.2.1 ∨ (l.2.2.1 = 1 ∧ l.2.1 = 0)
  enc : l.2.2.2.1.length = s.1.length
  encs : ∀ e, e ∈ l.2.2.2.1 → encOK e = true

theorem mayL_iff : mayL s l = true ↔ MayL s l := by
  unfold mayL
  simp only [Bool.and_eq_true, decide_eq_true_eq, isB_iff, true_and]
  constructor
  · rintro ⟨⟨⟨⟨h1, h2⟩, h3⟩, h4⟩, h5⟩
    refine ⟨h1, h2, h3, h4, fun e he => ?_⟩
    obtain ⟨i, hi, rfl⟩ := List.getElem_of_mem he
    have := allN_iff.1 h5 i hi
    rwa [getD_lt hi] at this
  · rintro ⟨h1, h2, h3, h4, h5⟩
    exact ⟨⟨⟨⟨h1, h2⟩, h3⟩, h4⟩, allN_iff.2 fun i hi => h5 _ (getD_mem hi)⟩

theorem byId_some {id : Int} (h : byId s.1 id = some i) : ∃ hi : i < s.1.length, (s.1[i]'hi).1 = id := by
  have g1 := firstN_lt h
  have g2 := firstN_at h
  refine ⟨g1, ?_⟩
  rw [getD_lt g1] at g2
  simpa using g2

theorem byName_none {nm : List Int} (h : byName s.1 nm = none) : ∀ c, c ∈ s.1 → c.2.1 ≠ nm := by
  intro c hc
  obtain ⟨i, hi, rfl⟩ := List.getElem_of_mem hc
  have := firstN_none.1 h i hi
  rw [getD_lt hi] at this
  simpa using this

theorem byName_some {nm : List Int} (h : byName s.1 nm = some i) : ∃ hi : i < s.1.length, (s.1[i]'hi).2.1 = nm := by
  have g1 := firstN_lt h
  have g2 := firstN_at h
  refine ⟨g1, ?_⟩
  rw [getD_lt g1] at g2
  simpa using g2

theorem split3 {α : Type} (l : List α) (i : Nat) (hi : i < l.length) : l = l.take i ++ (l[i] :: l.drop (i + 1)) := by
  rw [← List.drop_eq_getElem_cons hi, List.take_append_drop]

theorem set3 {α : Type} (l : List α) (i : Nat) (x : α) (hi : i < l.length) : l.set i x = l.take i ++ (x :: l.drop (i + 1)) := by
  rw [List.set_eq_take_append_cons_drop, if_pos hi]

theorem pw_cut {A B : List Cl} {x : Cl} (h : (A ++ (x :: B)).Pairwise Df) : (A ++ B).Pairwise Df :=
  h.sublist (List.Sublist.append_left (List.sublist_cons_self x B) A)

theorem pw_put {A B : List Cl} {x : Cl} (h : (A ++ B).Pairwise Df) (hx : ∀ c, c ∈ A ++ B → Df c x) : (A ++ (x :: B)).Pairwise Df := by
  rw [List.pairwise_append] at h ⊢
  obtain ⟨h1, h2, h3⟩ := h
  refine ⟨h1, List.pairwise_cons.2 ⟨fun b hb => (hx b (List.mem_append_right _ hb)).symm, h2⟩, fun a ha b hb => ?_⟩
  rcases List.mem_cons.1 hb with rfl | hb
  · exact hx a (List.mem_append_left _ ha)
  · exact h3 a ha b hb

theorem pw_mem {A B : List Cl} {x : Cl} (h : (A ++ (x :: B)).Pairwise Df) : ∀ c, c ∈ A ++ B → Df c x := by
  rw [List.pairwise_append] at h
  obtain ⟨h1, h2, h3⟩ := h
  intro c hc
  rcases List.mem_append.1 hc with hc | hc
  · exact h3 c hc x List.mem_cons_self
  · exact ((List.pairwise_cons.1 h2).1 c hc).symm

theorem mem_put {α : Type} {A B : List α} {x c : α} : c ∈ A ++ (x :: B) ↔ c = x ∨ c ∈ A ++ B := by
  simp only [List.mem_append, List.mem_cons]
  constructor
  · rintro (h | rfl | h)
    · exact .inr (.inl h)
    · exact .inl rfl
    · exact .inr (.inr h)
  · rintro (rfl | h | h)
    · exact .inr (.inl rfl)
    · exact .inl h
    · exact .inr (.inr h)

/-- What a change that may be does to the columns. -/
structure Kept (s : Sch) (l : Lay) (c : Chg) (t : Sch) (m : Lay) : Prop where
  may : May t
  mayL : MayL t m
  lo : s.2.1 ≤ t.2.1
  hi : t.2.1 ≤ s.2.1 + 1
  col : ∀ x, x ∈ t.1 → (x.1 = s.2.1 + 1 ∧ t.2.1 = s.2.1 + 1) ∨ x ∈ s.1 ∨ (x.1 = c.2.1 ∧ Has s x.1)
  drop : c.1 = 2 → Has s c.2.1 ∧ ∀ x, x ∈ t.1 → x ∈ s.1 ∧ x.1 ≠ c.2.1

theorem new_df (hs : May s) {nm : List Int} {ty : Int} (hn : ∀ c, c ∈ s.1 → c.2.1 ≠ nm) : ∀ c, c ∈ s.1 → Df c (s.2.1 + 1, nm, ty, ()) := fun c hc => ⟨by have := (hs.col c hc).2.1; show c.1 ≠ s.2.1 + 1; omega, hn c hc⟩

theorem Has.mono {t : Sch} {id : Int} (h : Has s id) (ht : ∀ x, x ∈ s.1 → ∃ y, y ∈ t.1 ∧ y.1 = x.1) : Has t id := by
  obtain ⟨c, hc, rfl⟩ := h
  obtain ⟨y, hy, he⟩ := ht c hc
  exact ⟨y, hy, he⟩

theorem MayL.mono {t : Sch} {m : Lay} (h : MayL s l) (ht : ∀ x, x ∈ s.1 → ∃ y, y ∈ t.1 ∧ y.1 = x.1) (h1 : m.1 = l.1) (h2 : m.2.1 = l.2.1) (h3 : m.2.2.1 = l.2.2.1) (h4 : m.2.2.2.1.length = t.1.length) (h5 : ∀ e, e ∈ m.2.2.2.1 → e ∈ l.2.2.2.1 ∨ encOK e = true) : MayL t m := by
  refine ⟨?_, by rw [h3]; exact h.parts, ?_, h4, fun e he => (h5 e he).elim (h.encs e) id⟩
  · rw [h1]; exact h.sort.imp (fun h => h.mono ht) id
  · rw [h2, h3]; exact h.part.imp (fun h => h.mono ht) id

theorem ins_kept (hs : May s) (hl : MayL s l) {nm : List Int} {ty : Int} {j : Nat} {t : Sch} {m : Lay} (hj : j ≤ s.1.length) (hn : nameOK nm = true) (ht : typeOK ty = true) (hnm : ∀ c, c ∈ s.1 → c.2.1 ≠ nm) (hf : fullB s = false) (hk : c.1 ≠ 2) (h : (t, m, (0 : Int), ()) = insS s l nm j ty) : Kept s l c t m := by
  simp only [insS, Prod.mk.injEq, List.cons_append, List.nil_append] at h
  obtain ⟨rfl, rfl, _⟩ := h
  have hfull : s.1.length < 6 ∧ s.2.1 < 10000 := by
    unfold fullB at hf
    simp only [Bool.or_eq_false_iff, decide_eq_false_iff_not] at hf
    omega
  have htd : s.1.take j ++ s.1.drop j = s.1 := List.take_append_drop j s.1
  have hmem : ∀ x, x ∈ s.1.take j ++ ((s.2.1 + 1, nm, ty, ()) :: s.1.drop j) ↔ x = (s.2.1 + 1, nm, ty, ()) ∨ x ∈ s.1 := fun x => by rw [mem_put, htd]
  have hlen : (s.1.take j ++ ((s.2.1 + 1, nm, ty, ()) :: s.1.drop j)).length = s.1.length + 1 := by simp; omega
  refine ⟨⟨fun x hx => ?_, ?_, ?_, ?_, ?_⟩, hl.mono (fun x hx => ⟨x, (hmem x).2 (.inr hx), rfl⟩) rfl rfl rfl ?_ fun e he => ?_, ?_, ?_, fun x hx => ?_, fun h => absurd h hk⟩
  · rcases (hmem x).1 hx with rfl | hx
    · have h1 := hs.len1
      have h2 := hs.col _ (List.getElem_mem (show 0 < s.1.length by omega))
      have := h2.1; have := h2.2.1
      exact ⟨by show 1 ≤ s.2.1 + 1; omega, by show s.2.1 + 1 ≤ s.2.1 + 1; omega, hn, ht⟩
    · obtain ⟨g1, g2, g3, g4⟩ := hs.col x hx
      exact ⟨g1, by show x.1 ≤ s.2.1 + 1; omega, g3, g4⟩
  · refine pw_put (by rw [htd]; exact hs.df) fun x hx => ?_
    rw [htd] at hx
    exact new_df hs hnm x hx
  · show 1 ≤ (s.1.take j ++ ((s.2.1 + 1, nm, ty, ()) :: s.1.drop j)).length
    rw [hlen]; omega
  · show (s.1.take j ++ ((s.2.1 + 1, nm, ty, ()) :: s.1.drop j)).length ≤ 6
    rw [hlen]; omega
  · show s.2.1 + 1 ≤ 10000
    omega
  · show (l.2.2.2.1.take j ++ (1 :: l.2.2.2.1.drop j)).length = (s.1.take j ++ ((s.2.1 + 1, nm, ty, ()) :: s.1.drop j)).length
    rw [hlen]
    have := hl.enc
    simp
    omega
  · rcases mem_put.1 he with rfl | he
    · exact .inr (by decide)
    · rw [List.take_append_drop] at he; exact .inl he
  · show s.2.1 ≤ s.2.1 + 1
    omega
  · show s.2.1 + 1 ≤ s.2.1 + 1
    omega
  · rcases (hmem x).1 hx with rfl | hx
    · exact .inl ⟨rfl, rfl⟩
    · exact .inr (.inl hx)

theorem set_kept (hs : May s) (hl : MayL s l) (hi : i < s.1.length) {y : Cl} {t : Sch} (ht : t = (s.1.set i y, s.2.1, ())) (hy : y.1 = (s.1[i]'hi).1) (hn : nameOK y.2.1 = true) (hty : typeOK y.2.2.1 = true)
    (hnm : ∀ c, c ∈ s.1.take i ++ s.1.drop (i + 1) → c.2.1 ≠ y.2.1) (hid : (s.1[i]'hi).1 = c.2.1) (hk : c.1 ≠ 2) : Kept s l c t l := by
  subst ht
  have h3 := split3 s.1 i hi
  have hpw := hs.df
  rw [h3] at hpw
  have hset := set3 s.1 i y hi
  have hmem : ∀ x, x ∈ s.1.set i y → x = y ∨ x ∈ s.1.take i ++ s.1.drop (i + 1) := fun x hx => by
    rw [hset] at hx; exact mem_put.1 hx
  have hold : ∀ x, x ∈ s.1.take i ++ s.1.drop (i + 1) → x ∈ s.1 := fun x hx => by
    rw [h3]; exact mem_put.2 (.inr hx)
  have hyid := hs.col _ (List.getElem_mem hi)
  refine ⟨⟨fun x hx => ?_, ?_, ?_, ?_, hs.last⟩, hl.mono (fun x hx => ?_) rfl rfl rfl ?_ fun e he => .inl he, Int.le_refl _, ?_, fun x hx => ?_, fun h => absurd h hk⟩
  · rcases hmem x hx with rfl | hx
    · exact ⟨by rw [hy]; exact hyid.1, by rw [hy]; exact hyid.2.1, hn, hty⟩
    · exact hs.col x (hold x hx)
  · show (s.1.set i y).Pairwise Df
    rw [hset]
    refine pw_put (pw_cut hpw) fun x hx => ⟨?_, hnm x hx⟩
    rw [hy]
    exact (pw_mem hpw x hx).1
  · show 1 ≤ (s.1.set i y).length
    rw [List.length_set]; exact hs.len1
  · show (s.1.set i y).length ≤ 6
    rw [List.length_set]; exact hs.len6
  · rw [h3] at hx
    rcases mem_put.1 hx with rfl | hx
    · exact ⟨y, by show y ∈ s.1.set i y; rw [hset]; exact mem_put.2 (.inl rfl), hy⟩
    · exact ⟨x, by show x ∈ s.1.set i y; rw [hset]; exact mem_put.2 (.inr hx), rfl⟩
  · show l.2.2.2.1.length = (s.1.set i y).length
    rw [List.length_set]; exact hl.enc
  · show s.2.1 ≤ s.2.1 + 1
    omega
  · rcases hmem x hx with rfl | hx
    · exact .inr (.inr ⟨hy.trans hid, _, List.getElem_mem hi, hy.symm⟩)
    · exact .inr (.inl (hold x hx))

theorem nameS_zero {nm : List Int} (h : nameS s nm none = 0) : nameOK nm = true ∧ ∀ c, c ∈ s.1 → c.2.1 ≠ nm := by
  unfold nameS at h
  cases hn : nameOK nm with
  | false => simp [hn] at h
  | true =>
    rw [hn] at h
    cases hb : byName s.1 nm with
    | none => exact ⟨rfl, byName_none hb⟩
    | some j => simp [hb] at h

theorem nameS_zero' (hs : May s) (hi : i < s.1.length) {nm : List Int} (h : nameS s nm (some i) = 0) : nameOK nm = true ∧ ∀ c, c ∈ s.1.take i ++ s.1.drop (i + 1) → c.2.1 ≠ nm := by
  unfold nameS at h
  have h3 := split3 s.1 i hi
  have hpw := hs.df
  rw [h3] at hpw
  cases hn : nameOK nm with
  | false => simp [hn] at h
  | true =>
    rw [hn] at h
    cases hb : byName s.1 nm with
    | none => exact ⟨rfl, fun c hc => byName_none hb c (by rw [h3]; exact mem_put.2 (.inr hc))⟩
    | some j =>
      simp only [hb, Bool.true_eq_false, if_false, Option.some.injEq] at h
      have hj : j = i := by
        by_cases e : j = i
        · exact e
        · simp [e] at h
      subst hj
      obtain ⟨_, he⟩ := byName_some hb
      refine ⟨rfl, fun c hc => ?_⟩
      rw [← he]
      exact (pw_mem hpw c hc).2

theorem Ap.kept {t : Sch} {m : Lay} (hs : May s) (hl : MayL s l) (h : Ap s l c t m) : Kept s l c t m := by
  rcases h with ⟨k, h1, h2, h3, h4, h⟩ | ⟨k, i, hb, h1, h2, rfl, rfl⟩ | ⟨k, i, hb, h1, rfl, rfl⟩ | ⟨k, i, ty, hb, h1, rfl, rfl⟩ | ⟨k, i, hb, h1, h2, h⟩ | ⟨k, h1, rfl, rfl⟩ | ⟨k, h1, h2, h3, rfl, rfl⟩ | ⟨k, rfl, rfl⟩ | ⟨k, i, hb, h1, rfl, rfl⟩
  · exact ins_kept hs hl (Nat.le_refl _) h1 h2 (byName_none h3) h4 (by omega) h
  · obtain ⟨hi, hid⟩ := byId_some hb
    have h3 := split3 s.1 i hi
    have hpw := hs.df
    rw [h3] at hpw
    have hold : ∀ x, x ∈ s.1.take i ++ s.1.drop (i + 1) → x ∈ s.1 ∧ x.1 ≠ c.2.1 := fun x hx => ⟨by rw [h3]; exact mem_put.2 (.inr hx), by rw [← hid]; exact (pw_mem hpw x hx).1⟩
    have hlen : (s.1.take i ++ s.1.drop (i + 1)).length = s.1.length - 1 := by simp; omega
    have hhas : ∀ {id : Int}, Has s id → id ≠ c.2.1 → Has (s.1.take i ++ s.1.drop (i + 1), s.2.1, ()) id := fun hh hne => by
      obtain ⟨x, hx, rfl⟩ := hh
      rw [h3] at hx
      rcases mem_put.1 hx with rfl | hx
      · exact absurd hid hne
      · exact ⟨x, hx, rfl⟩
    have hheld : l.1 ≠ c.2.1 ∧ l.2.1 ≠ c.2.1 := by
      unfold heldB at h2
      simpa using h2
    have hs1 := hs.len1; have hs6 := hs.len6; have hle := hl.enc
    refine ⟨⟨fun x hx => hs.col x (hold x hx).1, pw_cut hpw, ?_, ?_, hs.last⟩, ⟨hl.sort.imp (fun h => hhas h hheld.1) id, hl.parts, hl.part.imp (fun h => hhas h hheld.2) id, ?_, fun e he => hl.encs e ?_⟩, Int.le_refl _, ?_, fun x hx => .inr (.inl (hold x hx).1), fun _ => ⟨⟨_, List.getElem_mem hi, hid⟩, hold⟩⟩
    · show 1 ≤ (s.1.take i ++ s.1.drop (i + 1)).length
      rw [hlen]; omega
    · show (s.1.take i ++ s.1.drop (i + 1)).length ≤ 6
      rw [hlen]; omega
    · show (l.2.2.2.1.take i ++ l.2.2.2.1.drop (i + 1)).length = (s.1.take i ++ s.1.drop (i + 1)).length
      rw [hlen]; simp; omega
    · rcases List.mem_append.1 he with he | he
      · exact List.mem_of_mem_take he
      · exact List.mem_of_mem_drop he
    · show s.2.1 ≤ s.2.1 + 1
      omega
  · obtain ⟨hi, hid⟩ := byId_some hb
    obtain ⟨g1, g2⟩ := nameS_zero' hs hi h1
    have hc := hs.col _ (List.getElem_mem hi)
    refine set_kept hs hl hi rfl ?_ g1 ?_ g2 hid (by omega)
    · rw [getD_lt hi]
    · rw [getD_lt hi]; exact hc.2.2.2
  · obtain ⟨hi, hid⟩ := byId_some hb
    have hc := hs.col _ (List.getElem_mem hi)
    have h3 := split3 s.1 i hi
    have hpw := hs.df
    rw [h3] at hpw
    refine set_kept hs hl hi rfl ?_ ?_ h1 (fun x hx => ?_) hid (by omega)
    · rw [getD_lt hi]
    · show nameOK (s.1.getD i k0).2.1 = true
      rw [getD_lt hi]; exact hc.2.2.1
    · show x.2.1 ≠ (s.1.getD i k0).2.1
      rw [getD_lt hi]; exact (pw_mem hpw x hx).2
  · obtain ⟨hi, hid⟩ := byId_some hb
    obtain ⟨g1, g2⟩ := nameS_zero h1
    exact ins_kept hs hl hi g1 (by decide) g2 h2 (by omega) h
  · refine ⟨hs, ⟨?_, hl.parts, hl.part, hl.enc, hl.encs⟩, Int.le_refl _, by omega, fun x hx => .inr (.inl hx), fun h => absurd h (by omega)⟩
    exact (isB_iff.1 h1).imp id And.right
  · refine ⟨hs, ⟨hl.sort, ⟨h1, h2⟩, ?_, hl.enc, hl.encs⟩, Int.le_refl _, by omega, fun x hx => .inr (.inl hx), fun h => absurd h (by omega)⟩
    exact (isB_iff.1 h3).imp id fun h => ⟨of_decide_eq_true h.1, h.2⟩
  · exact ⟨hs, hl, Int.le_refl _, by omega, fun x hx => .inr (.inl hx), fun h => absurd h (by omega)⟩
  · refine ⟨hs, ⟨hl.sort, hl.parts, hl.part, ?_, fun e he => ?_⟩, Int.le_refl _, by omega, fun x hx => .inr (.inl hx), fun h => absurd h (by omega)⟩
    · show (l.2.2.2.1.set i c.2.2.2.2.2.2.1).length = _
      rw [List.length_set]; exact hl.enc
    · rcases List.mem_or_eq_of_mem_set he with he | rfl
      · exact hl.encs e he
      · exact h1

end Go.Rb.S2

namespace Go.Rb.S2
open Go.Rb

theorem nameOK_bytes {nm : List Int} (h : nameOK nm = true) : Bytes nm := by
  unfold nameOK at h
  simp only [Bool.and_eq_true] at h
  intro b hb
  obtain ⟨i, hi, rfl⟩ := List.getElem_of_mem hb
  have := allN_iff.1 h.2 i hi
  rw [getD_lt hi] at this
  unfold byteOK at this
  simp only [Bool.and_eq_true, decide_eq_true_eq] at this
  omega

theorem May.bytes {s : Sch} (h : May s) : ∀ c, c ∈ s.1 → Bytes c.2.1 := fun c hc => nameOK_bytes (h.col c hc).2.2.1

theorem MadeOK.mayS {s : Sch} {l : Lay} (h : MadeOK s l) : May s := may_iff.1 h.sh.may
theorem MadeOK.mayL' {s : Sch} {l : Lay} (h : MadeOK s l) : MayL s l := mayL_iff.1 h.may

theorem May.uniq {s : Sch} (h : May s) {x : Cl} (hx : x ∈ s.1) {j : Nat} (hj : j < s.1.length) (he : (s.1[j]'hj).1 = x.1) : s.1[j]'hj = x := by
  obtain ⟨i, hi, rfl⟩ := List.getElem_of_mem hx
  rcases Nat.lt_trichotomy i j with h1 | rfl | h1
  · exact absurd he.symm (List.pairwise_iff_getElem.1 h.df i j hi hj h1).1
  · rfl
  · exact absurd he (List.pairwise_iff_getElem.1 h.df j i hj hi h1).1

theorem law_stays (p q : List Int) (hp : Bytes p) (hq : Bytes q) : Gets (F4 200 (p, q, ())) fun y => y.1.1 = true := by
  unfold F4
  rw [begun8]
  dsimp only [Option.bind_some]
  refine .not (fun h => by simp at h) fun _ => .dec (fun _ => .some rfl) fun h1 => .dec (fun _ => .some rfl) fun h2 => ?_
  have hnp : Nums p := ⟨by omega, hp⟩
  have hnq : Nums q := ⟨by omega, hq⟩
  refine .bind (made_pk _) fun y2 p2 => .bind (gets_made (by omega) hnp p2) fun y3 ⟨mk, _⟩ => .bind (made_pk _) fun y4 p4 => ?_
  refine .iter (fun t => Pk q t.2.2.1 ∧ 0 ≤ t.2.2.2 ∧ t.2.2.2 ≤ 12 ∧ May t.1 ∧ MayL t.1 t.2.1) (fun t => (12 - t.2.2.2).toNat) ⟨p4, by simp, by simp, mk.mayS, mk.mayL'⟩ (by simp) fun rec t hi ih => ?_
  obtain ⟨q1, q2, q3, q4, q5⟩ := hi
  have hlen1 := q4.len1; have hlen6 := q4.len6; have hlast := q4.last; have henc := q5.enc
  have hl1 : 1 ≤ t.1.2.1 := by
    have := q4.col _ (List.getElem_mem (show 0 < t.1.1.length by omega))
    have g1 := this.1; have g2 := this.2.1
    omega
  refine .dec (fun h => ?_) fun h => .some rfl
  refine .bind (Q' := fun y => Pk q y.2.1) (.some q1) fun y7 p7 => .not (fun _ => ?_) fun _ => .some rfl
  refine .bind (gets_change _ hnq p7 (by omega)) fun y8 ⟨c2, cb, p8⟩ => ?_
  rw [F13_eq (by omega) (by omega) (by omega) q4.bytes cb]
  simp only [Option.bind_some]
  have hnext : ∀ {s' : Sch} {l' : Lay}, May s' → MayL s' l' → Gets (rec (s', l', y8.2.1, IntKind.i64.wrap (t.2.2.2 + 1))) fun y => y.1.1 = true := fun ha hb => by
    refine ih _ ⟨p8, ?_, ?_, ha, hb⟩ ?_
    all_goals (dsimp only; rw [wrap_i64 (by omega) (by omega)]; omega)
  rcases applyS_cases t.1 t.2.1 y8.1.1 with ⟨e, he, hr⟩ | ⟨_, _, T, M, hr, ha⟩
  · rw [hr]
    refine .pos (by simp [bad, he]) (.neg ?_ (hnext q4 q5))
    show ¬ (!decide (IntKind.i64.wrap (IntKind.i64.wrap (IntKind.i64.wrap (IntKind.i64.wrap (0 + 0) + 0) + 0) + 0) = 0)) = true
    decide
  · rw [hr]
    have hk := ha.kept q4 q5
    have tm := hk.may
    have t6 := tm.len6
    have hte := hk.mayL.enc
    have hlo := hk.lo; have hhi := hk.hi
    refine .neg (by simp) ?_
    dsimp only
    rw [F17_eq (by omega) (by omega) tm.bytes, may_iff.2 tm]
    simp only [Option.bind_some]
    refine .not (fun h => by simp at h) fun _ => ?_
    rw [F19_eq (by omega) (by omega), mayL_iff.2 hk.mayL]
    simp only [Option.bind_some]
    refine .not (fun h => by simp at h) fun _ => ?_
    rw [F18_eq (by omega) (by omega) fun c hc => by have := nameOK_le (tm.col c hc).2.2.1; omega, may_iff.2 tm]
    simp only [Option.bind_some]
    refine .not (fun h => by simp at h) fun _ => ?_
    rw [F20_eq (by omega) (by omega) (by omega) (by omega), mayL_iff.2 hk.mayL]
    simp only [Option.bind_some]
    refine .not (fun h => by simp at h) fun _ => .dec (fun h => by omega) fun _ => ?_
    rw [wrap_i64 (x := t.1.2.1 + 1) (by omega) (by omega)]
    refine .dec (fun h => by omega) fun _ => ?_
    refine .iter (fun u => u.1 = t.1 ∧ 0 ≤ u.2 ∧ u.2 ≤ T.1.length) (fun u => ((T.1.length : Int) - u.2).toNat) ⟨rfl, by simp, by simp⟩ (by dsimp only; omega) fun rec' u hu ih' => ?_
    obtain ⟨r1, r2, r3⟩ := hu
    obtain ⟨us, uk⟩ := u
    dsimp only at r1 r2 r3
    subst r1
    have hstep : uk < T.1.length → Gets (rec' (t.1, IntKind.i64.wrap (uk + 1))) fun y => y.1.1 = true := fun h => by
      refine ih' _ ⟨rfl, ?_, ?_⟩ ?_
      all_goals (dsimp only; rw [wrap_i64 (by omega) (by omega)]; omega)
    dsimp only
    refine .dec (fun h => .atI r2 h ?_) fun h => hnext tm hk.mayL
    have hxm := getD_mem (d := k0) (show uk.toNat < T.1.length by omega)
    obtain ⟨x, hx⟩ : ∃ x, T.1.getD uk.toNat k0 = x := ⟨_, rfl⟩
    rw [hx] at hxm
    have hx' : T.1.getD uk.toNat ((0:Int), ([] : List Int), (0:Int), ()) = x := hx
    simp only [hx']
    rw [F23_eq (by omega) (by omega)]
    simp only [Option.bind_some]
    have hcol := hk.col x hxm
    cases hb : byId t.1.1 x.1 with
    | none =>
      have hno : ∀ c, c ∈ t.1.1 → c.1 ≠ x.1 := by
        intro c hc
        obtain ⟨j, hj, rfl⟩ := List.getElem_of_mem hc
        have := firstN_none.1 hb j hj
        rw [getD_lt hj] at this
        simpa using this
      refine .dec (fun h => by simp [atR] at h) fun _ => .dec (fun h => by simp [atR] at h; rw [h] at hlen1; simp at hlen1) fun _ => .pos rfl ?_
      have hid : x.1 = t.1.2.1 + 1 := by
        rcases hcol with h | h | ⟨_, h⟩
        · exact h.1
        · exact absurd rfl (hno x h)
        · obtain ⟨y, hy, he⟩ := h
          exact absurd he (hno y hy)
      rw [hid, wrap_i64 (x := t.1.2.1 + 1) (by omega) (by omega)]
      exact .not (fun h => by simp at h) fun _ => .neg (by simp [atR]) (hstep h)
    | some j =>
      obtain ⟨hj, hjx⟩ := byId_some hb
      refine .dec (fun h => by simp [atR] at h; omega) fun _ => .dec (fun h => by simp [atR] at h; omega) fun _ => .neg (by simp [atR]) (.pos rfl (.atI (by simp [atR]) (by simp [atR]; omega) ?_))
      rcases hcol with h' | h' | ⟨h', _⟩
      · have := (q4.col _ (List.getElem_mem hj)).2.1
        rw [hjx] at this
        omega
      · have he := q4.uniq h' hj hjx
        refine .not (fun hh => ?_) fun _ => hstep h
        have : t.1.1.getD ((atR (some j)).1).toNat ((0:Int), ([] : List Int), (0:Int), ()) = x := by
          show t.1.1.getD j k0 = x
          rw [getD_lt hj, he]
        simp only [this] at hh
        simp at hh
      · refine .not (fun _ => .not (fun hh => ?_) fun _ => hstep h) fun _ => hstep h
        rw [decide_eq_true h'] at hh
        simp at hh

end Go.Rb.S2

namespace Go.Rb.S2
open Go.Rb
variable {n : Nat} {s : Sch} {l : Lay} {c : Chg} {i : Nat}

theorem applyS_may (hs : May s) (hl : MayL s l) : applyS s l c = changeS s l c := by
  unfold applyS
  rw [may_iff.2 hs, mayL_iff.2 hl]
  simp

theorem ok_kept {t : Sch} {m : Lay} (hs : May s) (hl : MayL s l) (h : applyS s l c = (t, m, 0, ())) : Kept s l c t m := by
  rcases applyS_cases s l c with ⟨e, he, hr⟩ | ⟨_, _, T, M, hr, ha⟩
  · rw [hr] at h
    simp only [bad, Prod.mk.injEq] at h
    exact absurd h.2.2.1 he
  · rw [hr] at h
    simp only [Prod.mk.injEq, and_true] at h
    obtain ⟨rfl, rfl⟩ := h
    exact ha.kept hs hl

/-- A change, and the one that takes it back. -/
def Back (s : Sch) (l : Lay) (c1 c2 : Chg) : Prop := ∃ t m, applyS s l c1 = (t, m, 0, ()) ∧ applyS t m c2 = (s, l, 0, ()) ∧ Bytes c1.2.2.1 ∧ Bytes c2.2.2.1

theorem byId_set {cols : List Cl} {k : Nat} {y : Cl} (hk : k < cols.length) (hy : y.1 = (cols[k]'hk).1) (id : Int) : byId (cols.set k y) id = byId cols id := by
  unfold byId
  rw [List.length_set]
  refine firstN_congr fun i hi => ?_
  have : ((cols.set k y).getD i k0).1 = (cols.getD i k0).1 := by
    rw [getD_lt (by rw [List.length_set]; exact hi), getD_lt hi, List.getElem_set]
    split
    · rename_i h; subst h; exact hy
    · rfl
  rw [this]

theorem renS_ok {k : Nat} {nm : List Int} (hk : c.1 = 3) (hb : byId s.1 c.2.1 = some k) (hn : c.2.2.1 = nm) (h : nameS s nm (some k) = 0) : changeS s l c = ((s.1.set k ((s.1.getD k k0).1, nm, (s.1.getD k k0).2.2), s.2.1, ()), l, 0, ()) := by
  simp [changeS, hk, hb, turnS, renS, hn, h]

theorem back_ren (hs : May s) (hl : MayL s l) {k : Nat} (hk : k < s.1.length) {o : List Int} (ho : nameOK o = true) (hno : ∀ c, c ∈ s.1 → c.2.1 ≠ o) (hb : byId s.1 (s.1[k]'hk).1 = some k) (v : V) (a b a' b' : Int) :
    Back s l (3, (s.1[k]'hk).1, o, a, v, b, 0, ()) (3, (s.1[k]'hk).1, (s.1[k]'hk).2.1, a', v, b', 0, ()) := by
  have hcm := List.getElem_mem hk
  have hcc := hs.col _ hcm
  have bno : byName s.1 o = none := firstN_none.2 fun i hi => by rw [getD_lt hi]; simpa using hno _ (List.getElem_mem hi)
  have h1 : nameS s o (some k) = 0 := by simp [nameS, ho, bno]
  have e1 : applyS s l (3, (s.1[k]'hk).1, o, a, v, b, 0, ()) = ((s.1.set k ((s.1[k]'hk).1, o, (s.1[k]'hk).2.2), s.2.1, ()), l, 0, ()) := by
    rw [applyS_may hs hl, renS_ok (c := (3, (s.1[k]'hk).1, o, a, v, b, 0, ())) rfl hb rfl h1, getD_lt hk]
  have hkp := ok_kept hs hl e1
  refine ⟨_, _, e1, ?_, nameOK_bytes ho, nameOK_bytes hcc.2.2.1⟩
  have hk' : k < (s.1.set k ((s.1[k]'hk).1, o, (s.1[k]'hk).2.2)).length := by rw [List.length_set]; exact hk
  have hget : (s.1.set k ((s.1[k]'hk).1, o, (s.1[k]'hk).2.2)).getD k k0 = ((s.1[k]'hk).1, o, (s.1[k]'hk).2.2) := by
    rw [getD_lt hk', List.getElem_set_self]
  have hb2 : byId (s.1.set k ((s.1[k]'hk).1, o, (s.1[k]'hk).2.2)) (s.1[k]'hk).1 = some k := by
    rw [byId_set (y := ((s.1[k]'hk).1, o, (s.1[k]'hk).2.2)) hk rfl]; exact hb
  have bno2 : byName (s.1.set k ((s.1[k]'hk).1, o, (s.1[k]'hk).2.2)) (s.1[k]'hk).2.1 = none := firstN_none.2 fun i hi => by
    have hi' : i < s.1.length := by rwa [List.length_set] at hi
    rw [getD_lt hi, List.getElem_set]
    split
    · have := hno _ hcm
      simp only [decide_eq_false_iff_not]
      exact fun e => this e.symm
    · rename_i hne
      have : ¬ (s.1[i]'hi').2.1 = (s.1[k]'hk).2.1 := by
        rcases Nat.lt_or_ge i k with h | h
        · exact (List.pairwise_iff_getElem.1 hs.df i k hi' hk h).2
        · exact fun e => (List.pairwise_iff_getElem.1 hs.df k i hk hi' (by omega)).2 e.symm
      simpa using this
  have h2 : nameS (s.1.set k ((s.1[k]'hk).1, o, (s.1[k]'hk).2.2), s.2.1, ()) (s.1[k]'hk).2.1 (some k) = 0 := by simp [nameS, hcc.2.2.1, bno2]
  rw [applyS_may hkp.may hkp.mayL, renS_ok (s := (s.1.set k ((s.1[k]'hk).1, o, (s.1[k]'hk).2.2), s.2.1, ())) (c := (3, (s.1[k]'hk).1, (s.1[k]'hk).2.1, a', v, b', 0, ())) rfl hb2 rfl h2]
  dsimp only
  rw [hget, List.set_set]
  simp only [Prod.mk.injEq, and_true]
  show (s.1.set k (s.1[k]'hk), s.2.1, ()) = s
  rw [List.set_getElem_self]

theorem bnil : Bytes [] := by intro b hb; simp at hb

theorem back_sort (hs : May s) (hl : MayL s l) {id : Int} (hid : Has s id) (v : V) (a b d : Int) (a' b' d' : Int) : Back s l (6, id, [], a, v, b, d, ()) (6, l.1, [], a', v, b', d', ()) := by
  have e1 : applyS s l (6, id, [], a, v, b, d, ()) = (s, (id, l.2), 0, ()) := by
    rw [applyS_may hs hl, change6 rfl, if_pos (isB_iff.2 (.inl hid))]
  have hkp := ok_kept hs hl e1
  refine ⟨_, _, e1, ?_, bnil, bnil⟩
  rw [applyS_may hkp.may hkp.mayL, change6 rfl, if_pos (isB_iff.2 (hl.sort.imp (fun h => h) fun h => ⟨rfl, h⟩))]

theorem back_part (hs : May s) (hl : MayL s l) {id : Int} (hid : Has s id) (v : V) (a b a' b' : Int) : Back s l (7, id, [], a, v, b, 3, ()) (7, l.2.1, [], a', v, b', l.2.2.1, ()) := by
  have e1 : applyS s l (7, id, [], a, v, b, 3, ()) = (s, (l.1, id, 3, l.2.2.2), 0, ()) := by
    rw [applyS_may hs hl, change7 rfl]
    dsimp only
    rw [if_neg (by decide), if_neg (by decide), if_pos (isB_iff.2 (.inl hid))]
  have hkp := ok_kept hs hl e1
  refine ⟨_, _, e1, ?_, bnil, bnil⟩
  have hp := hl.parts
  rw [applyS_may hkp.may hkp.mayL, change7 rfl]
  dsimp only
  rw [if_neg (by omega), if_neg (by omega), if_pos (isB_iff.2 (hl.part.imp (fun h => h) fun h => ⟨decide_eq_true h.1, h.2⟩))]

theorem back_enc (hs : May s) (hl : MayL s l) {k : Nat} (hk : k < s.1.length) (hb : byId s.1 (s.1[k]'hk).1 = some k) (v : V) (a b a' b' : Int) : Back s l (9, (s.1[k]'hk).1, [], a, v, b, 4, ()) (9, (s.1[k]'hk).1, [], a', v, b', l.2.2.2.1.getD k 0, ()) := by
  have he := hl.enc
  have e1 : applyS s l (9, (s.1[k]'hk).1, [], a, v, b, 4, ()) = (s, (l.1, l.2.1, l.2.2.1, l.2.2.2.1.set k 4, ()), 0, ()) := by
    rw [applyS_may hs hl, change9 (i := k) rfl hb]
    rfl
  have hkp := ok_kept hs hl e1
  refine ⟨_, _, e1, ?_, bnil, bnil⟩
  have hen : encOK (l.2.2.2.1.getD k 0) = true := hl.encs _ (getD_mem (by omega))
  rw [applyS_may hkp.may hkp.mayL, change9 (i := k) rfl hb]
  unfold recS
  dsimp only
  rw [if_neg (by rw [hen]; simp), List.set_set, getD_lt (by omega), List.set_getElem_self]

theorem back_dict (hs : May s) (hl : MayL s l) (v : V) (x a b d x' a' b' d' : Int) : Back s l (8, x, [], a, v, b, d, ()) (8, x', [], a', v, b', d', ()) := by
  have e1 : ∀ x a b d, applyS s l (8, x, [], a, v, b, d, ()) = (s, l, 0, ()) := fun x a b d => by rw [applyS_may hs hl, change8 rfl]
  exact ⟨_, _, e1 .., e1 .., bnil, bnil⟩

theorem law_back (p : List Int) (at_ : Int) (hp : Bytes p) (ha : 0 ≤ at_ ∧ at_ ≤ 255) : Gets (F5 200 (p, at_, ())) fun y => y.1.1 = true := by
  unfold F5
  rw [begun8]
  dsimp only [Option.bind_some]
  refine .not (fun h => by simp at h) fun _ => .dec (fun _ => .some rfl) fun h1 => ?_
  have hnp : Nums p := ⟨by omega, hp⟩
  refine .bind (made_pk _) fun y2 p2 => .bind (gets_made (by omega) hnp p2) fun y3 ⟨mk, _⟩ => ?_
  obtain ⟨⟨s, l, u⟩, y3'⟩ := y3
  dsimp only at mk ⊢
  have hs := mk.mayS; have hl := mk.mayL'
  have hlen1 := hs.len1; have hlen6 := hs.len6; have he := hl.enc
  have hK0 : 0 ≤ (IntKind.i64.wrap at_).tmod (s.1.length : Int) := Int.tmod_nonneg _ (by rw [wrap_i64 (by omega) (by omega)]; omega)
  have hK1 : (IntKind.i64.wrap at_).tmod (s.1.length : Int) < (s.1.length : Int) := Int.tmod_lt_of_pos _ (by omega)
  obtain ⟨K, hK⟩ : ∃ K, (IntKind.i64.wrap at_).tmod (s.1.length : Int) = K := ⟨_, rfl⟩
  rw [hK] at hK0 hK1
  simp only [hK]
  refine .neg (by omega) (.atI hK0 hK1 (.neg (by omega) (.atI hK0 (by omega) ?_)))
  have hk : K.toNat < s.1.length := by omega
  obtain ⟨C, hC⟩ : ∃ C, s.1.getD K.toNat k0 = C := ⟨_, rfl⟩
  have hC' : s.1.getD K.toNat ((0:Int), ([] : List Int), (0:Int), ()) = C := hC
  have hCe : C = s.1[K.toNat]'hk := by rw [← hC, getD_lt hk]
  simp only [hC']
  have hb : byId s.1 (s.1[K.toNat]'hk).1 = some K.toNat := by
    have := mk.sh.id _ hk
    rw [getD_lt hk] at this
    rw [this, byId_of mk.sh (by omega) (by omega)]
    congr 1
    omega
  have hhas : Has s C.1 := ⟨C, by rw [hCe]; exact List.getElem_mem hk, rfl⟩
  refine .iter (fun i => 0 ≤ i ∧ i ≤ 5) (fun i => (5 - i).toNat) ⟨by simp, by simp⟩ (by simp) fun rec i hi ih => ?_
  obtain ⟨q1, q2⟩ := hi
  refine .dec (fun h => ?_) fun h => .some rfl
  have hi5 : i < 5 := h
  have hnext : Gets (rec (IntKind.i64.wrap (i + 1))) fun y => y.1.1 = true := by
    refine ih _ ⟨?_, ?_⟩ ?_
    all_goals (rw [wrap_i64 (by omega) (by omega)]; omega)
  have body : ∀ (c1 c2 : Chg), Back s l c1 c2 → Gets ((F13 200 (s, l, c1, ())).bind fun y6 => atI i 5 (atI 1 2 ((F13 200 (y6.1.1, y6.1.2.1, c2, ())).bind fun y7 => if (!decide (y6.1.2.2.1 = 0)) = true then some ((false, ()), ()) else
      if (!decide (y7.1.2.2.1 = 0)) = true then some ((false, ()), ()) else ((F15 200 (y7.1.1, s, ())).bind fun y8 => if (!y8.1.1) = true then some ((false, ()), ()) else ((F16 200 (y7.1.2.1, l, ())).bind fun y9 => if (!y9.1.1) = true then some ((false, ()), ()) else rec (IntKind.i64.wrap (i + 1))))))) fun y => y.1.1 = true := by
    rintro c1 c2 ⟨t, m, e1, e2, b1, b2⟩
    have hkp := ok_kept hs hl e1
    have t6 := hkp.may.len6
    rw [F13_eq (by omega) (by omega) (by omega) hs.bytes b1, e1]
    simp only [Option.bind_some]
    refine .atI q1 hi5 (.atI (by decide) (by decide) ?_)
    rw [F13_eq (by omega) (by omega) (by omega) hkp.may.bytes b2, e2]
    simp only [Option.bind_some]
    refine .neg (by simp) (.neg (by simp) ?_)
    rw [F15_same (by omega) (by omega)]
    simp only [Option.bind_some]
    refine .not (fun h => by simp at h) fun _ => ?_
    rw [F16_same (by omega) (by omega)]
    simp only [Option.bind_some]
    exact .not (fun h => by simp at h) fun _ => hnext
  refine .atI q1 h (.atI (by omega) ?_ ?_)
  · have : i = 0 ∨ i = 1 ∨ i = 2 ∨ i = 3 ∨ i = 4 := by omega
    rcases this with rfl | rfl | rfl | rfl | rfl <;> exact (show (0 : Int) < 2 by decide)
  · have : i = 0 ∨ i = 1 ∨ i = 2 ∨ i = 3 ∨ i = 4 := by omega
    rw [hCe] at hhas ⊢
    rcases this with rfl | rfl | rfl | rfl | rfl
    · exact body _ _ (back_ren hs hl hk (o := [111, 116, 104, 101, 114]) (by decide) (fun c hc e => by
        have := (mk.sh.col c hc).2.2
        rw [e] at this
        simp at this) hb d0 0 0 0 0)
    · exact body _ _ (back_sort hs hl hhas d0 0 0 0 0 0 0)
    · exact body _ _ (back_part hs hl hhas d0 0 0 0 0)
    · exact body _ _ (back_enc hs hl hk hb d0 0 0 0 0)
    · exact body _ _ (back_dict hs hl d0 0 0 0 0 0 0 0 0)

end Go.Rb.S2
