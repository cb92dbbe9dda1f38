import Derived.Test.YthjodhmkmjabbaaB3
/-! Farey's row of order n: the chain of neighbors, and how many lie below. -/
namespace Go.Proofs.Ythjodhmkmjabbaa.PY
open Go.RowKit Go.Proofs.YthjodhmkmjabbaaW.PrintWords Go.Proofs.YthjodhmkmjabbaaW.PrintLast

/-- Two fractions in lowest terms that are the same number are the same. -/
theorem okF_inj' {a b c d : Int} (ha : 0 ≤ a) (hb : 0 < b) (h5 : Int.gcd a b = 1) (hc : 0 ≤ c) (hd : 0 < d) (g5 : Int.gcd c d = 1) (e : a * d = c * b) : a = c ∧ b = d := by
  obtain ⟨a, rfl⟩ := Int.eq_ofNat_of_zero_le ha
  obtain ⟨b, rfl⟩ := Int.eq_ofNat_of_zero_le (show 0 ≤ b by omega)
  obtain ⟨c, rfl⟩ := Int.eq_ofNat_of_zero_le hc
  obtain ⟨d, rfl⟩ := Int.eq_ofNat_of_zero_le (show 0 ≤ d by omega)
  have e' : a * d = c * b := by exact_mod_cast e
  have h5 : Nat.Coprime a b := h5
  have g5 : Nat.Coprime c d := g5
  have k1 : b ∣ d := h5.symm.dvd_of_dvd_mul_left (show b ∣ a * d from ⟨c, by rw [e', Nat.mul_comm]⟩)
  have k2 : d ∣ b := g5.symm.dvd_of_dvd_mul_left (show d ∣ c * b from ⟨a, by rw [← e', Nat.mul_comm]⟩)
  have hbd : b = d := Nat.dvd_antisymm k1 k2
  subst hbd
  exact ⟨by have := Nat.eq_of_mul_eq_mul_right (by omega) e'; omega, rfl⟩

/-! ### counting -/
theorem countP_also {α : Type} [BEq α] [LawfulBEq α] (P : α → Bool) (a : α) (ha : P a = false) (l : List α) : l.countP (fun x => P x || x == a) = l.countP P + l.countP (· == a) := by
  induction l with
  | nil => rfl
  | cons x l ih =>
    simp only [List.countP_cons, ih]
    by_cases hx : x = a
    · subst hx
      simp [ha]; omega
    · simp [hx]; omega
theorem countP_one (a n : Nat) : (List.range n).countP (· == a) = if a < n then 1 else 0 := by
  induction n with
  | zero => rfl
  | succ n ih =>
    rw [List.range_succ, List.countP_append, ih]
    simp only [List.countP_cons, List.countP_nil]
    by_cases h : n = a
    · subst h; simp
    · simp only [beq_iff_eq, h, if_false]
      split <;> split <;> omega
/-- x/y is in lowest terms and strictly below a/b. -/
def inRow (a b : Int) (y x : Nat) : Bool := decide ((x : Int) * b < a * y) && (Nat.gcd x y == 1)
def cntRow (a b : Int) (y : Nat) : Nat := (List.range y).countP (inRow a b y)
/-- How many fractions of denominator up to n lie strictly below a/b. -/
def cnt (a b : Int) : Nat → Nat
  | 0 => 0
  | n + 1 => cnt a b n + cntRow a b (n + 1)
theorem inRow_iff {a b : Int} {y x : Nat} : inRow a b y x = true ↔ (x : Int) * b < a * y ∧ Nat.gcd x y = 1 := by simp [inRow]
theorem cntRow_mono {a b c d : Int} (hb : 0 < b) (hd : 0 < d) (h : a * d ≤ c * b) (y : Nat) : cntRow a b y ≤ cntRow c d y := by
  refine List.countP_mono_left (fun x _ hx => ?_)
  rw [inRow_iff] at hx ⊢
  refine ⟨?_, hx.2⟩
  have h1 : ((x : Int) * b) * d < (a * y) * d := Int.mul_lt_mul_of_pos_right hx.1 hd
  have h2 : (a * d) * y ≤ (c * b) * y := Int.mul_le_mul_of_nonneg_right h (by omega)
  exact Int.lt_of_mul_lt_mul_right (a := b) (by grind) (by omega)
theorem cnt_mono {a b c d : Int} (hb : 0 < b) (hd : 0 < d) (h : a * d ≤ c * b) : ∀ n, cnt a b n ≤ cnt c d n
  | 0 => Nat.le_refl _
  | n + 1 => Nat.add_le_add (cnt_mono hb hd h n) (cntRow_mono hb hd h _)
theorem cntRow_more {a b c d : Int} (ha : 0 ≤ a) (hb : 0 < b) (hd : 0 < d) (hg : Int.gcd a b = 1) (h : a * d < c * b) (hcd : c ≤ d) (y : Nat) : cntRow a b y + (if (y : Int) = b then 1 else 0) ≤ cntRow c d y := by
  by_cases hy : (y : Int) = b
  · rw [if_pos hy]
    have hab : a < b := by
      have : c * b ≤ d * b := Int.mul_le_mul_of_nonneg_right hcd (by omega)
      have : a * d < b * d := by rw [Int.mul_comm b d]; omega
      exact Int.lt_of_mul_lt_mul_right this (by omega)
    have hnot : inRow a b y a.toNat = false := by
      rw [Bool.eq_false_iff, Ne, inRow_iff]
      rintro ⟨h1, _⟩
      rw [Int.toNat_of_nonneg ha, hy] at h1
      omega
    have h1 := countP_also (inRow a b y) a.toNat hnot (List.range y)
    have h2 := countP_one a.toNat y
    rw [if_pos (by omega)] at h2
    rw [show cntRow a b y = (List.range y).countP (inRow a b y) from rfl, ← h2, ← h1]
    refine List.countP_mono_left (fun x _ hx => ?_)
    rw [Bool.or_eq_true, inRow_iff, beq_iff_eq] at hx
    rw [inRow_iff]
    rcases hx with hx | hx
    · refine ⟨?_, hx.2⟩
      have h1 : ((x : Int) * b) * d < (a * y) * d := Int.mul_lt_mul_of_pos_right hx.1 hd
      have h2 : (a * d) * y ≤ (c * b) * y := Int.mul_le_mul_of_nonneg_right (by omega) (by omega)
      exact Int.lt_of_mul_lt_mul_right (a := b) (by grind) (by omega)
    · subst hx
      rw [Int.toNat_of_nonneg ha, hy]
      refine ⟨h, ?_⟩
      have : Nat.gcd a.toNat b.toNat = 1 := by
        have := hg
        rw [← Int.toNat_of_nonneg ha, ← Int.toNat_of_nonneg (show 0 ≤ b by omega)] at this
        exact this
      rw [show y = b.toNat by omega]
      exact this
  · rw [if_neg hy]
    exact cntRow_mono hb hd (by omega) y
theorem cnt_more {a b c d : Int} (ha : 0 ≤ a) (hb : 0 < b) (hd : 0 < d) (hg : Int.gcd a b = 1) (h : a * d < c * b) (hcd : c ≤ d) : ∀ n : Nat, cnt a b n + (if b ≤ n then 1 else 0) ≤ cnt c d n
  | 0 => by rw [if_neg (by omega)]; exact Nat.le_refl _
  | n + 1 => by
    have h1 := cnt_more ha hb hd hg h hcd n
    have h2 := cntRow_more ha hb hd hg h hcd (n + 1)
    simp only [cnt]
    by_cases h3 : ((n + 1 : Nat) : Int) = b
    · rw [if_pos h3] at h2
      rw [if_pos (by omega)]
      rw [if_neg (by omega)] at h1
      omega
    · rw [if_neg h3] at h2
      by_cases h4 : b ≤ (n : Int)
      · rw [if_pos h4] at h1
        rw [if_pos (by omega)]
        omega
      · rw [if_neg h4] at h1
        rw [if_neg (by omega)]
        omega

/-! ### neighbors -/
/-- a/b and c/d stand side by side in the row of order n. -/
structure Nb (n a b c d : Int) : Prop where
  b1 : 1 ≤ b
  bn : b ≤ n
  d1 : 1 ≤ d
  dn : d ≤ n
  a0 : 0 ≤ a
  c0 : 0 ≤ c
  det : c * b - a * d = 1
  far : n < b + d
theorem Nb.step {n a b c d : Int} (h : Nb n a b c d) : Nb n c d ((n + b) / d * c - a) ((n + b) / d * d - b) := by
  obtain ⟨b1, bn, d1, dn, a0, c0, det, far⟩ := h
  have hdm := Int.mul_ediv_add_emod (n + b) d
  have hr0 := Int.emod_nonneg (n + b) (show d ≠ 0 by omega)
  have hr := Int.emod_lt_of_pos (n + b) (show 0 < d by omega)
  obtain ⟨e, he⟩ : ∃ e, e = (n + b) / d := ⟨_, rfl⟩
  obtain ⟨r, hre⟩ : ∃ r, r = (n + b) % d := ⟨_, rfl⟩
  rw [← he, ← hre] at hdm
  rw [← hre] at hr hr0
  rw [← he]
  have hq : e * d - b = n - r := by rw [Int.mul_comm]; omega
  have hdet : (e * c - a) * d - c * (e * d - b) = 1 := by grind
  have hcq : 0 ≤ c * (n - r) := Int.mul_nonneg c0 (by omega)
  refine ⟨d1, dn, by omega, by omega, c0, ?_, hdet, by omega⟩
  rw [hq] at hdet
  have hp : 0 < (e * c - a) * d := by omega
  have := Int.pos_of_mul_pos_left hp (by omega)
  omega
theorem Nb.gcd {n a b c d : Int} (h : Nb n a b c d) : Int.gcd a b = 1 ∧ Int.gcd c d = 1 := by
  obtain ⟨b1, bn, d1, dn, a0, c0, det, far⟩ := h
  have key : ∀ x y u v : Int, u * x + v * y = 1 → Int.gcd x y = 1 := by
    intro x y u v e
    have h1 : ((Int.gcd x y : Nat) : Int) ∣ 1 := by
      rw [← e]
      exact Int.dvd_add (Int.dvd_mul_of_dvd_right (Int.gcd_dvd_left ..)) (Int.dvd_mul_of_dvd_right (Int.gcd_dvd_right ..))
    have := Int.natAbs_dvd_natAbs.2 h1
    simpa using this
  exact ⟨key a b (-d) c (by grind), key c d b (-a) (by grind)⟩
theorem Nb.le {n a b c d : Int} (h : Nb n a b c d) (hab : a < b) : c ≤ d := by
  obtain ⟨b1, bn, d1, dn, a0, c0, det, far⟩ := h
  have h1 : a * d ≤ (b - 1) * d := Int.mul_le_mul_of_nonneg_right (by omega) (by omega)
  have h2 : b * (c - d) ≤ 0 + (1 - d) := by grind
  rcases Int.lt_or_le d c with h3 | h3
  · have : b * 1 ≤ b * (c - d) := Int.mul_le_mul_of_nonneg_left (by omega) (by omega)
    omega
  · exact h3
/-- Nothing of the row lies between. -/
theorem Nb.none {n a b c d x y : Int} (h : Nb n a b c d) (h1 : a * y < x * b) (h2 : x * d < c * y) : n < y := by
  obtain ⟨b1, bn, d1, dn, a0, c0, det, far⟩ := h
  have e : y = b * (c * y - x * d) + d * (x * b - a * y) := by
    have : y = (c * b - a * d) * y := by rw [det, Int.one_mul]
    grind
  have k1 : b * 1 ≤ b * (c * y - x * d) := Int.mul_le_mul_of_nonneg_left (by omega) (by omega)
  have k2 : d * 1 ≤ d * (x * b - a * y) := Int.mul_le_mul_of_nonneg_left (by omega) (by omega)
  omega
/-- A neighbor on the right is the only one. -/
theorem Nb.unique {n a b c d c' d' : Int} (h : Nb n a b c d) (h' : Nb n a b c' d') : c = c' ∧ d = d' := by
  have hb := h.b1
  have e1 := h.det
  have e2 := h'.det
  have key : ∀ {c d c' d' : Int}, Nb n a b c d → Nb n a b c' d' → ¬ d < d' := by
    intro c d c' d' h h' hlt
    have e1 := h.det
    have e2 := h'.det
    have hb := h.b1
    have := h.far
    have := h'.dn
    -- b divides d' - d, which is below b
    have hdv : b ∣ a * (d' - d) := ⟨c' - c, by grind⟩
    have hg := h.gcd.1
    have hdv2 : b ∣ d' - d := by
      have : d' - d = b * (c * (d' - d)) - d * (a * (d' - d)) := by
        have : d' - d = (c * b - a * d) * (d' - d) := by rw [e1, Int.one_mul]
        grind
      rw [this]
      exact Int.dvd_sub (Int.dvd_mul_right ..) (Int.dvd_mul_of_dvd_right hdv)
    have := Int.le_of_dvd (by omega) hdv2
    omega
  have hd : d = d' := by
    have := key h h'
    have := key h' h
    omega
  subst hd
  refine ⟨?_, rfl⟩
  have : (c - c') * b = 0 := by grind
  rcases Int.mul_eq_zero.1 this with h3 | h3 <;> omega
/-- One step on: one more lies below. -/
theorem Nb.cnt {n : Nat} {a b c d : Int} (h : Nb n a b c d) (hab : a < b) : cnt c d n = cnt a b n + 1 := by
  have hg := h.gcd.1
  have hb := h.b1
  have hd := h.d1
  have ha := h.a0
  have hdet := h.det
  have row : ∀ y : Nat, y ≤ n → cntRow c d y = cntRow a b y + (if (y : Int) = b then 1 else 0) := by
    intro y hyn
    have hsame : ∀ x : Nat, inRow c d y x = (inRow a b y x || ((x : Int) == a && (y : Int) == b)) := by
      intro x
      rw [Bool.eq_iff_iff, Bool.or_eq_true, inRow_iff, inRow_iff]
      constructor
      · rintro ⟨h1, h2⟩
        by_cases h3 : (x : Int) * b < a * y
        · exact .inl ⟨h3, h2⟩
        · right
          rcases Int.lt_or_eq_of_le (show a * y ≤ (x : Int) * b by omega) with h4 | h4
          · have := h.none h4 h1
            omega
          · -- the same number
            obtain ⟨a', rfl⟩ := Int.eq_ofNat_of_zero_le ha
            obtain ⟨b', rfl⟩ := Int.eq_ofNat_of_zero_le (show 0 ≤ b by omega)
            have e' : a' * y = x * b' := by exact_mod_cast h4
            have h5 : Nat.Coprime a' b' := hg
            have k1 : b' ∣ y := h5.symm.dvd_of_dvd_mul_left (show b' ∣ a' * y from ⟨x, by rw [e', Nat.mul_comm]⟩)
            have k2 : y ∣ b' := (Nat.Coprime.symm h2).dvd_of_dvd_mul_left (show y ∣ x * b' from ⟨a', by rw [← e', Nat.mul_comm]⟩)
            have hbd : b' = y := Nat.dvd_antisymm k1 k2
            subst hbd
            have := Nat.eq_of_mul_eq_mul_right (by omega) e'
            simp [this]
      · rintro (⟨h1, h2⟩ | h1)
        · refine ⟨?_, h2⟩
          have h3 : ((x : Int) * b) * d < (a * y) * d := Int.mul_lt_mul_of_pos_right h1 (by omega)
          have h4 : (a * d) * y ≤ (c * b) * y := Int.mul_le_mul_of_nonneg_right (by omega) (by omega)
          exact Int.lt_of_mul_lt_mul_right (a := b) (by grind) (by omega)
        · rw [Bool.and_eq_true, beq_iff_eq, beq_iff_eq] at h1
          obtain ⟨rfl, rfl⟩ := h1
          exact ⟨by omega, hg⟩
    by_cases hy : (y : Int) = b
    · rw [if_pos hy]
      have hnot : inRow a b y a.toNat = false := by
        rw [Bool.eq_false_iff, Ne, inRow_iff]
        rintro ⟨h1, _⟩
        rw [Int.toNat_of_nonneg ha, hy] at h1
        omega
      have h1 := countP_also (inRow a b y) a.toNat hnot (List.range y)
      have h2 := countP_one a.toNat y
      rw [if_pos (by omega)] at h2
      rw [show cntRow a b y = (List.range y).countP (inRow a b y) from rfl, ← h2, ← h1]
      refine List.countP_congr (fun x _ => ?_)
      rw [hsame, hy]
      have : ((x : Int) == a) = (x == a.toNat) := by rw [Bool.eq_iff_iff, beq_iff_eq, beq_iff_eq]; omega
      simp [this]
    · rw [if_neg hy]
      refine List.countP_congr (fun x _ => ?_)
      rw [hsame]
      simp [hy]
  have sum : ∀ m : Nat, m ≤ n → Go.Proofs.Ythjodhmkmjabbaa.PY.cnt c d m = Go.Proofs.Ythjodhmkmjabbaa.PY.cnt a b m + (if b ≤ m then 1 else 0) := by
    intro m
    induction m with
    | zero => intro _; rw [if_neg (by omega)]; rfl
    | succ m ih =>
      intro hm
      have h1 := ih (by omega)
      have h2 := row (m + 1) hm
      simp only [Go.Proofs.Ythjodhmkmjabbaa.PY.cnt]
      rw [h1, h2]
      by_cases h3 : ((m + 1 : Nat) : Int) = b
      · rw [if_pos h3, if_neg (by omega), if_pos (by omega)]; omega
      · rw [if_neg h3]
        by_cases h4 : b ≤ (m : Int)
        · rw [if_pos h4, if_pos (by omega)]; omega
        · rw [if_neg h4, if_neg (by omega)]; omega
  have := sum n (Nat.le_refl _)
  rw [if_pos h.bn] at this
  exact this
/-! ### the chain -/
def fr (n : Int) : Nat → Int × Int
  | 0 => (0, 1)
  | 1 => (1, n)
  | k + 2 => ((n + (fr n k).2) / (fr n (k + 1)).2 * (fr n (k + 1)).1 - (fr n k).1, (n + (fr n k).2) / (fr n (k + 1)).2 * (fr n (k + 1)).2 - (fr n k).2)
theorem fr_nb {n : Int} (hn : 1 ≤ n) : ∀ k, Nb n (fr n k).1 (fr n k).2 (fr n (k + 1)).1 (fr n (k + 1)).2
  | 0 => ⟨by simp [fr], by simpa [fr] using hn, by simpa [fr] using hn, by simp [fr], by simp [fr], by simp [fr], by simp [fr], by simp [fr]; omega⟩
  | k + 1 => (fr_nb hn k).step
theorem cnt_zero (n : Nat) : cnt 0 1 n = 0 := by
  induction n with
  | zero => rfl
  | succ n ih =>
    simp only [cnt, ih, cntRow, Nat.zero_add]
    rw [List.countP_eq_zero]
    intro x _
    rw [inRow_iff]
    rintro ⟨h, _⟩
    simp at h
    omega
theorem fr_cnt {n : Nat} (hn : 1 ≤ n) : ∀ k, (∀ j, j < k → (fr n j).1 < (fr n j).2) → cnt (fr n k).1 (fr n k).2 n = k ∧ (fr n k).1 ≤ (fr n k).2
  | 0, _ => ⟨cnt_zero n, by simp [fr]⟩
  | k + 1, h => by
    have h1 := fr_cnt hn k (fun j hj => h j (by omega))
    have h2 := h k (by omega)
    have h3 := fr_nb (n := (n : Int)) (by omega) k
    exact ⟨by rw [h3.cnt h2, h1.1], h3.le h2⟩
theorem fr_one {n : Int} (hn : 1 ≤ n) {k : Nat} (h : (fr n k).1 = (fr n k).2) : fr n k = (1, 1) := by
  have h3 := fr_nb hn k
  have hg := h3.gcd.1
  rw [h, Int.gcd_self] at hg
  have := h3.b1
  have : (fr n k).2 = 1 := by omega
  exact Prod.ext (h.trans this) this
/-- Before the last all lie below one; the last is one. -/
theorem fr_below {n : Nat} (hn : 1 ≤ n) : ∀ k, k ≤ cnt 1 1 n → ∀ j, j < k → (fr n j).1 < (fr n j).2
  | 0, _, j, hj => by omega
  | k + 1, hk, j, hj => by
    have ih := fr_below hn k (by omega)
    rcases Nat.lt_or_eq_of_le (Nat.le_of_lt_succ hj) with h | h
    · exact ih j h
    · subst h
      have h1 := fr_cnt hn j ih
      rcases Int.lt_or_eq_of_le h1.2 with h2 | h2
      · exact h2
      · have h3 := fr_one (n := (n : Int)) (by omega) h2
        rw [h3] at h1
        have h6 : cnt 1 1 n = j := h1.1
        omega
theorem fr_at {n : Nat} (hn : 1 ≤ n) {k : Nat} (hk : k ≤ cnt 1 1 n) : cnt (fr n k).1 (fr n k).2 n = k := (fr_cnt hn k (fr_below hn k hk)).1
theorem fr_le {n : Nat} (hn : 1 ≤ n) {k : Nat} (hk : k ≤ cnt 1 1 n) : (fr n k).1 ≤ (fr n k).2 := (fr_cnt hn k (fr_below hn k hk)).2
theorem fr_lt {n : Nat} (hn : 1 ≤ n) {k : Nat} (hk : k < cnt 1 1 n) : (fr n k).1 < (fr n k).2 := fr_below hn (k + 1) (by omega) k (by omega)
theorem fr_last {n : Nat} (hn : 1 ≤ n) : fr n (cnt 1 1 n) = (1, 1) := by
  have h1 := fr_at hn (Nat.le_refl (cnt 1 1 n))
  have h2 := fr_le hn (Nat.le_refl (cnt 1 1 n))
  have h3 := fr_nb (n := (n : Int)) (by omega) (cnt 1 1 n)
  refine fr_one (by omega) ?_
  rcases Int.lt_or_eq_of_le h2 with h4 | h4
  · have := cnt_more (c := 1) (d := 1) h3.a0 (by have := h3.b1; omega) (by omega) h3.gcd.1 (by omega) (Int.le_refl _) n
    rw [if_pos h3.bn] at this
    omega
  · exact h4
/-- A fraction of the row stands where the count below it says. -/
theorem fr_of {n : Nat} (hn : 1 ≤ n) {x y : Int} (hx : 0 ≤ x) (hxy : x ≤ y) (hy : 1 ≤ y) (hyn : y ≤ n) (hg : Int.gcd x y = 1) : cnt x y n ≤ cnt 1 1 n ∧ fr n (cnt x y n) = (x, y) := by
  have hle : cnt x y n ≤ cnt 1 1 n := cnt_mono (by omega) (by omega) (by omega) n
  refine ⟨hle, ?_⟩
  have h1 := fr_at hn hle
  have h2 := fr_le hn hle
  have h3 := fr_nb (n := (n : Int)) (by omega) (cnt x y n)
  obtain ⟨p, hp⟩ : ∃ p, p = fr n (cnt x y n) := ⟨_, rfl⟩
  rw [← hp] at h1 h2 h3 ⊢
  obtain ⟨p, q⟩ := p
  simp only at h1 h2 h3 ⊢
  have hp0 := h3.a0
  have hq1 := h3.b1
  have hqn := h3.bn
  have hpg := h3.gcd.1
  rcases Int.lt_trichotomy (x * q) (p * y) with h4 | h4 | h4
  · have := cnt_more hx (by omega) (by omega) hg h4 h2 n
    rw [if_pos hyn] at this
    omega
  · have := okF_inj' hx (by omega) hg hp0 (by omega) hpg h4
    rw [this.1, this.2]
  · have := cnt_more hp0 (by omega) (by omega) hpg h4 hxy n
    rw [if_pos hqn] at this
    omega
end Go.Proofs.Ythjodhmkmjabbaa.PY
