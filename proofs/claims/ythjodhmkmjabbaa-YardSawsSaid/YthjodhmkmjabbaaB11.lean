import Derived.Test.YthjodhmkmjabbaaB3
/-! The saw: Dedekind's sums, their denominators and their law of reciprocity. -/
namespace Go.Proofs.Ythjodhmkmjabbaa.PY
open Go.RowKit Go.Proofs.YthjodhmkmjabbaaW.PrintWords Go.Proofs.YthjodhmkmjabbaaW.PrintLast

/-! ### sums -/
def sumI (f : Nat → Int) : Nat → Int
  | 0 => 0
  | n + 1 => sumI f n + f n
theorem sumI_congr {f g : Nat → Int} : ∀ {n : Nat}, (∀ i, i < n → f i = g i) → sumI f n = sumI g n
  | 0, _ => rfl
  | n + 1, h => by simp only [sumI]; rw [sumI_congr (n := n) (fun i hi => h i (by omega)), h n (by omega)]
theorem sumI_add (f g : Nat → Int) : ∀ n : Nat, sumI (fun i => f i + g i) n = sumI f n + sumI g n
  | 0 => rfl
  | n + 1 => by simp only [sumI]; rw [sumI_add f g n]; omega
theorem sumI_mul (c : Int) (f : Nat → Int) : ∀ n : Nat, sumI (fun i => c * f i) n = c * sumI f n
  | 0 => by simp [sumI]
  | n + 1 => by simp only [sumI]; rw [sumI_mul c f n, Int.mul_add]
theorem sumI_const (c : Int) : ∀ n : Nat, sumI (fun _ => c) n = n * c
  | 0 => by simp [sumI]
  | n + 1 => by simp only [sumI]; rw [sumI_const c n]; grind
theorem sumI_le {f g : Nat → Int} : ∀ {n : Nat}, (∀ i, i < n → f i ≤ g i) → sumI f n ≤ sumI g n
  | 0, _ => Int.le_refl _
  | n + 1, h => by
    have h1 := sumI_le (n := n) (fun i hi => h i (by omega))
    have h2 := h n (by omega)
    simp only [sumI]
    omega
theorem sumI_shift (f : Nat → Int) : ∀ n : Nat, sumI f (n + 1) = f 0 + sumI (fun i => f (i + 1)) n
  | 0 => by simp [sumI]
  | n + 1 => by
    have := sumI_shift f n
    simp only [sumI] at this ⊢
    omega
theorem sumI_swap (f : Nat → Nat → Int) (m : Nat) : ∀ n : Nat, sumI (fun i => sumI (fun j => f i j) m) n = sumI (fun j => sumI (fun i => f i j) n) m
  | 0 => by
    simp only [sumI]
    have := sumI_const 0 m
    omega
  | n + 1 => by simp only [sumI]; rw [sumI_swap f m n, ← sumI_add]
theorem sum_id : ∀ n : Nat, 2 * sumI (fun i => (i : Int)) n = n * ((n : Int) - 1)
  | 0 => by simp [sumI]
  | n + 1 => by have := sum_id n; simp only [sumI]; grind
theorem sum_sq : ∀ n : Nat, 6 * sumI (fun i => (i : Int) * i) n = ((n : Int) - 1) * n * (2 * n - 1)
  | 0 => by simp [sumI]
  | n + 1 => by have := sum_sq n; simp only [sumI]; grind
/-! ### a permutation -/
theorem sum_erase {l : List Nat} {n : Nat} (f : Nat → Int) (h : n ∈ l) : (l.map f).sum = f n + ((l.erase n).map f).sum := by
  induction l with
  | nil => cases h
  | cons x l ih =>
    by_cases hx : x = n
    · subst hx; simp
    · rw [List.erase_cons_tail (by simpa using hx)]
      rcases List.mem_cons.1 h with h1 | h1
      · exact absurd h1.symm hx
      · simp only [List.map_cons, List.sum_cons, ih h1]; omega
theorem nodup_sum (f : Nat → Int) : ∀ (n : Nat) (l : List Nat), l.Nodup → (∀ x ∈ l, x < n) → l.length ≤ n ∧ (l.length = n → (l.map f).sum = sumI f n)
  | 0, l, _, hl => by
    have : l = [] := by
      cases l with
      | nil => rfl
      | cons x l => exact absurd (hl x List.mem_cons_self) (by omega)
    subst this
    simp [sumI]
  | n + 1, l, hd, hl => by
    by_cases hn : n ∈ l
    · have h1 := nodup_sum f n (l.erase n) (hd.erase n) (fun x hx => by
        have h2 := hl x (List.mem_of_mem_erase hx)
        have h3 : x ≠ n := by
          rintro rfl
          exact (List.Nodup.not_mem_erase hd) hx
        omega)
      rw [List.length_erase_of_mem hn] at h1
      have hpos : 0 < l.length := List.length_pos_of_mem hn
      refine ⟨by omega, fun he => ?_⟩
      rw [sum_erase f hn, h1.2 (by omega)]
      simp only [sumI]
      omega
    · have h1 := nodup_sum f n l hd (fun x hx => by
        have h2 := hl x hx
        have h3 : x ≠ n := by rintro rfl; exact hn hx
        omega)
      exact ⟨by omega, fun he => by omega⟩
theorem sum_range_list (g : Nat → Int) : ∀ n : Nat, ((List.range n).map g).sum = sumI g n
  | 0 => rfl
  | n + 1 => by rw [List.range_succ, List.map_append, List.sum_append_int, sum_range_list g n]; simp [sumI]
/-- Multiples of a number prime to b run through all rests. -/
theorem sum_perm {a b : Nat} (hb : 0 < b) (hg : Nat.gcd a b = 1) (f : Nat → Int) : sumI (fun i => f (a * i % b)) b = sumI f b := by
  have hinj : ((List.range b).map (fun i => a * i % b)).Nodup := by
    rw [List.nodup_iff_pairwise_ne, List.pairwise_map]
    refine List.Pairwise.imp_of_mem ?_ (List.pairwise_lt_range (n := b))
    intro i j hi hj hij he
    rw [List.mem_range] at hi hj
    have h1 : (a * i) % b = (a * j) % b := he
    have h2 : b ∣ a * j - a * i := Nat.dvd_of_mod_eq_zero (Nat.sub_mod_eq_zero_of_mod_eq h1.symm)
    rw [← Nat.mul_sub] at h2
    have h3 : b ∣ j - i := (Nat.Coprime.symm hg).dvd_of_dvd_mul_left h2
    have := Nat.le_of_dvd (by omega) h3
    omega
  have h := nodup_sum f b _ hinj (fun x hx => by
    obtain ⟨i, _, rfl⟩ := List.mem_map.1 hx
    exact Nat.mod_lt _ hb)
  have h2 := h.2 (by simp)
  rw [List.map_map, sum_range_list] at h2
  exact h2

/-! ### Dedekind's sums -/
/-- i's rest and quotient. -/
def rI (a b i : Nat) : Int := ((a * i % b : Nat) : Int)
def qI (a b i : Nat) : Int := ((a * i / b : Nat) : Int)
theorem rq (a b i : Nat) : (a : Int) * i = b * qI a b i + rI a b i := by
  have := Nat.div_add_mod (a * i) b
  have h : ((a * i : Nat) : Int) = ((b * (a * i / b) + a * i % b : Nat) : Int) := by rw [this]
  simpa [rI, qI] using h
def term (a b i : Nat) : Int := (2 * (i : Int) - b) * (2 * rI a b i - b)
/-- The saw's sum, of i = 1 .. b - 1. -/
def saw (a b : Nat) : Int := sumI (fun i => term a b (i + 1)) (b - 1)
theorem saw_all {a b : Nat} (hb : 0 < b) : sumI (term a b) b = saw a b + b * b := by
  have := sumI_shift (term a b) (b - 1)
  rw [show b - 1 + 1 = b by omega] at this
  rw [this]
  have h0 : term a b 0 = b * b := by simp [term, rI, Int.neg_mul_neg]
  rw [h0]
  simp only [saw]
  omega
theorem sum_r {a b : Nat} (hb : 0 < b) (hg : Nat.gcd a b = 1) : 2 * sumI (rI a b) b = b * ((b : Int) - 1) := by
  rw [← sum_id b, ← sum_perm hb hg (fun i => (i : Int))]
  rfl
theorem sum_rr {a b : Nat} (hb : 0 < b) (hg : Nat.gcd a b = 1) : 6 * sumI (fun i => rI a b i * rI a b i) b = ((b : Int) - 1) * b * (2 * b - 1) := by
  rw [← sum_sq b, ← sum_perm hb hg (fun i => (i : Int) * i)]
  rfl
/-- The sum, from the numbers i times their rests. -/
theorem saw_ir {a b : Nat} (hb : 0 < b) (hg : Nat.gcd a b = 1) : saw a b = 4 * sumI (fun i => (i : Int) * rI a b i) b - b * b * b + b * b := by
  have h1 : sumI (term a b) b = 4 * sumI (fun i => (i : Int) * rI a b i) b + (-(2 * (b : Int))) * sumI (rI a b) b + (-(2 * (b : Int))) * sumI (fun i => (i : Int)) b + b * (b * b) := by
    rw [← sumI_mul, ← sumI_mul, ← sumI_mul, ← sumI_const, ← sumI_add, ← sumI_add, ← sumI_add]
    refine sumI_congr (fun i _ => ?_)
    simp only [term]
    grind
  have h2 := sum_r hb hg
  have h3 := sum_id b
  have h4 := saw_all (a := a) hb
  rw [h4] at h1
  grind
/-- The sum of i times the quotients. -/
def qSum (a b : Nat) : Int := sumI (fun i => (i : Int) * qI a b i) b
theorem sum_ir (a b : Nat) : sumI (fun i => (i : Int) * rI a b i) b = a * sumI (fun i => (i : Int) * i) b - b * qSum a b := by
  have h1 : sumI (fun i => (i : Int) * rI a b i) b = (a : Int) * sumI (fun i => (i : Int) * i) b + (-(b : Int)) * qSum a b := by
    rw [qSum, ← sumI_mul, ← sumI_mul, ← sumI_add]
    refine sumI_congr (fun i _ => ?_)
    have := rq a b i
    grind
  rw [h1]; grind
theorem saw_q {a b : Nat} (hb : 0 < b) (hg : Nat.gcd a b = 1) : 3 * saw a b = 2 * a * (((b : Int) - 1) * b * (2 * b - 1)) - 12 * (b * qSum a b) - 3 * (b * b * b) + 3 * (b * b) := by
  have h1 := saw_ir hb hg
  have h2 := sum_ir a b
  have h3 := sum_sq b
  grind
/-- Three times the sum is a multiple of twice b. -/
theorem saw_dvd {a b : Nat} (hb : 0 < b) (hg : Nat.gcd a b = 1) : (2 * (b : Int)) ∣ 3 * saw a b := by
  have h1 := saw_q hb hg
  have h2 := sum_id b
  obtain ⟨t, ht⟩ : ∃ t, t = sumI (fun i => (i : Int)) b := ⟨_, rfl⟩
  rw [← ht] at h2
  refine ⟨a * (((b : Int) - 1) * (2 * b - 1)) - 6 * qSum a b - 3 * t, ?_⟩
  rw [h1]
  have h3 : (b : Int) * b * b - b * b = b * (2 * t) := by rw [h2]; grind
  grind
/-- How large the sum can be. -/
theorem saw_le {a b : Nat} (hb : 0 < b) (hg : Nat.gcd a b = 1) : 3 * saw a b ≤ b * ((b : Int) - 1) * (b - 2) ∧ -(b * ((b : Int) - 1) * (b - 2)) ≤ 3 * saw a b := by
  have sq : ∀ x : Int, 0 ≤ x * x := fun x => by
    rcases Int.le_total 0 x with h | h
    · exact Int.mul_nonneg h h
    · have := Int.mul_nonneg (show 0 ≤ -x by omega) (show 0 ≤ -x by omega)
      rw [Int.neg_mul_neg] at this
      exact this
  have hx : sumI (fun i => (2 * (i : Int) - b) * (2 * (i : Int) - b)) b = 4 * sumI (fun i => (i : Int) * i) b + (-(4 * (b : Int))) * sumI (fun i => (i : Int)) b + b * (b * b) := by
    rw [← sumI_mul, ← sumI_mul, ← sumI_const, ← sumI_add, ← sumI_add]
    exact sumI_congr (fun i _ => by grind)
  have hy : sumI (fun i => (2 * rI a b i - b) * (2 * rI a b i - b)) b = sumI (fun i => (2 * (i : Int) - b) * (2 * (i : Int) - b)) b :=
    sum_perm hb hg (fun i => (2 * (i : Int) - b) * (2 * (i : Int) - b))
  have sx := sumI_shift (fun i => (2 * (i : Int) - b) * (2 * (i : Int) - b)) (b - 1)
  have sy := sumI_shift (fun i => (2 * rI a b i - b) * (2 * rI a b i - b)) (b - 1)
  rw [show b - 1 + 1 = b by omega] at sx sy
  have e0 : (2 * rI a b 0 - b) * (2 * rI a b 0 - b) = (b : Int) * b := by simp [rI, Int.neg_mul_neg]
  rw [e0] at sy
  have u1 : 2 * saw a b ≤ sumI (fun i => (2 * ((i + 1 : Nat) : Int) - b) * (2 * ((i + 1 : Nat) : Int) - b)) (b - 1) + sumI (fun i => (2 * rI a b (i + 1) - b) * (2 * rI a b (i + 1) - b)) (b - 1) := by
    rw [saw, ← sumI_mul, ← sumI_add]
    refine sumI_le (fun i _ => ?_)
    have := sq ((2 * ((i + 1 : Nat) : Int) - b) - (2 * rI a b (i + 1) - b))
    simp only [term]
    grind
  have u2 : (-2) * saw a b ≤ sumI (fun i => (2 * ((i + 1 : Nat) : Int) - b) * (2 * ((i + 1 : Nat) : Int) - b)) (b - 1) + sumI (fun i => (2 * rI a b (i + 1) - b) * (2 * rI a b (i + 1) - b)) (b - 1) := by
    rw [saw, ← sumI_mul, ← sumI_add]
    refine sumI_le (fun i _ => ?_)
    have := sq ((2 * ((i + 1 : Nat) : Int) - b) + (2 * rI a b (i + 1) - b))
    simp only [term]
    grind
  have h3 := sum_sq b
  have h4 := sum_id b
  rw [hy] at sy
  obtain ⟨t2, ht2⟩ : ∃ t, t = sumI (fun i => (i : Int) * i) b := ⟨_, rfl⟩
  obtain ⟨t1, ht1⟩ : ∃ t, t = sumI (fun i => (i : Int)) b := ⟨_, rfl⟩
  rw [← ht2] at hx h3
  rw [← ht1] at hx h4
  rw [hx] at sx sy
  have e1 : (2 * ((0 : Nat) : Int) - b) * (2 * ((0 : Nat) : Int) - b) = (b : Int) * b := by simp [Int.neg_mul_neg]
  rw [e1] at sx
  have key : 3 * (4 * t2 + -(4 * (b : Int)) * t1 + b * (b * b) - b * b) = b * ((b : Int) - 1) * (b - 2) := by grind
  omega
/-! ### reciprocity -/
theorem qI_lt {a b i : Nat} (ha : 0 < a) (hi : i < b) : a * i / b < a := by
  rw [Nat.div_lt_iff_lt_mul (by omega)]
  exact Nat.mul_lt_mul_of_pos_left hi ha
theorem ind_sum (t : Nat) (f : Nat → Int) : ∀ n : Nat, sumI (fun j => if j < t then f j else 0) n = sumI f (if n ≤ t then n else t)
  | 0 => by simp [sumI]
  | n + 1 => by
    simp only [sumI]
    rw [ind_sum t f n]
    by_cases h : n < t
    · rw [if_pos h, if_pos (by omega), if_pos (by omega)]; rfl
    · rw [if_neg h, if_neg (show ¬ n + 1 ≤ t by omega)]
      by_cases h2 : n ≤ t
      · rw [if_pos h2, show n = t by omega]; omega
      · rw [if_neg h2]; omega
/-- Counting the pairs under the line both ways. -/
theorem q_swap {a b : Nat} (ha : 0 < a) (hb : 0 < b) (hg : Nat.gcd a b = 1) : sumI (fun i => qI a b i * (qI a b i + 1)) b = ((b : Int) - 1) * (a * ((a : Int) - 1)) - 2 * qSum b a := by
  -- each quotient's triangle
  have h1 : ∀ i, i < b → qI a b i * (qI a b i + 1) = sumI (fun j => if j < a * i / b + 1 then 2 * (j : Int) else 0) a := by
    intro i hi
    have hq := qI_lt ha hi
    have h2 := sum_id (a * i / b + 1)
    have hif : (if a ≤ a * i / b + 1 then a else a * i / b + 1) = a * i / b + 1 := by split <;> omega
    rw [ind_sum, hif, sumI_mul, h2]
    simp only [qI]
    grind
  have h2 : ∀ j, j < a → sumI (fun i => if j < a * i / b + 1 then 2 * (j : Int) else 0) b = (2 * (b : Int) - 2) * j + (-2) * ((j : Int) * qI b a j) := by
    intro j hj
    rcases Nat.eq_zero_or_pos j with rfl | hj0
    · have : sumI (fun i => if 0 < a * i / b + 1 then 2 * ((0 : Nat) : Int) else 0) b = sumI (fun _ => 0) b := sumI_congr (fun i _ => by split <;> rfl)
      rw [this, sumI_const]
      simp
    · have hq := qI_lt hb hj
      have h3 : sumI (fun i => if j < a * i / b + 1 then 2 * (j : Int) else 0) b = sumI (fun i => 2 * (j : Int) + (-1) * (if i < b * j / a + 1 then 2 * (j : Int) else 0)) b := by
        refine sumI_congr (fun i hi => ?_)
        have e1 : j < a * i / b + 1 ↔ j * b ≤ a * i := by rw [← Nat.le_div_iff_mul_le hb]; omega
        have e2 : i < b * j / a + 1 ↔ i * a ≤ b * j := by rw [← Nat.le_div_iff_mul_le ha]; omega
        have hne : a * i ≠ b * j := by
          intro he
          have hd : b ∣ a * i := ⟨j, he⟩
          have hd2 : b ∣ i := (Nat.Coprime.symm hg).dvd_of_dvd_mul_left hd
          have hi0 : i = 0 := Nat.eq_zero_of_dvd_of_lt hd2 hi
          subst hi0
          have := Nat.mul_pos hb hj0
          omega
        have e3 : j * b = b * j := Nat.mul_comm ..
        have e4 : i * a = a * i := Nat.mul_comm ..
        by_cases hc : j * b ≤ a * i
        · rw [if_pos (e1.2 hc), if_neg (by rw [e2]; omega)]; omega
        · rw [if_neg (by rw [e1]; exact hc), if_pos (e2.2 (by omega))]; omega
      have hif : (if b ≤ b * j / a + 1 then b else b * j / a + 1) = b * j / a + 1 := by split <;> omega
      rw [h3, sumI_add, sumI_mul (-1) (fun i => if i < b * j / a + 1 then 2 * (j : Int) else 0), sumI_const, ind_sum, hif, sumI_const]
      simp only [qI]
      grind
  rw [sumI_congr h1, sumI_swap, sumI_congr h2, sumI_add, sumI_mul, sumI_mul]
  have h3 := sum_id a
  simp only [qSum]
  grind
theorem q_sum {a b : Nat} (hb : 0 < b) (hg : Nat.gcd a b = 1) : 2 * sumI (qI a b) b = ((a : Int) - 1) * ((b : Int) - 1) := by
  have h1 : (a : Int) * sumI (fun i => (i : Int)) b = b * sumI (qI a b) b + sumI (rI a b) b := by
    rw [← sumI_mul, ← sumI_mul, ← sumI_add]
    exact sumI_congr (fun i _ => rq a b i)
  have h2 := sum_r hb hg
  have h3 := sum_id b
  have h4 : (b : Int) * (2 * sumI (qI a b) b) = b * (((a : Int) - 1) * ((b : Int) - 1)) := by grind
  exact Int.eq_of_mul_eq_mul_left (by omega) h4
theorem recip1 {A B Q X Z R P : Int} (e2 : R = A * A * Z + -(2 * A * B) * Q + B * B * X) (e3 : 6 * R = P) (e4 : 6 * Z = P) : 12 * (A * B * Q) = (A * A - 1) * P + 6 * (B * B * X) := by
  subst e2
  have : A * A * (6 * Z) = A * A * P := by rw [e4]
  grind
theorem recip2 {A B Q' X Y : Int} (q1 : X + Y = (B - 1) * (A * (A - 1)) - 2 * Q') (q2 : 2 * Y = (A - 1) * (B - 1)) : 12 * (B * B * Q') = 3 * (B * B) * ((A - 1) * (B - 1) * (2 * A - 1)) - 6 * (B * B * X) := by
  have h : 12 * Q' = 3 * ((A - 1) * (B - 1) * (2 * A - 1)) - 6 * X := by grind
  have : B * B * (12 * Q') = B * B * (3 * ((A - 1) * (B - 1) * (2 * A - 1)) - 6 * X) := by rw [h]
  grind
theorem recip3 {A B Q Q' S S' : Int} (s1 : 3 * S = 2 * A * ((B - 1) * B * (2 * B - 1)) - 12 * (B * Q) - 3 * (B * B * B) + 3 * (B * B)) (s2 : 3 * S' = 2 * B * ((A - 1) * A * (2 * A - 1)) - 12 * (A * Q') - 3 * (A * A * A) + 3 * (A * A))
    (k : 12 * (A * Q + B * Q') = (A * A - 1) * (B - 1) * (2 * B - 1) + 3 * B * (B - 1) * (A - 1) * (2 * A - 1)) : 3 * (A * A) * S + 3 * (B * B) * S' = A * B * (A * A + B * B + 1 - 3 * A * B) := by
  have t1 : A * A * (3 * S) = A * A * (2 * A * ((B - 1) * B * (2 * B - 1)) - 12 * (B * Q) - 3 * (B * B * B) + 3 * (B * B)) := by rw [s1]
  have t2 : B * B * (3 * S') = B * B * (2 * B * ((A - 1) * A * (2 * A - 1)) - 12 * (A * Q') - 3 * (A * A * A) + 3 * (A * A)) := by rw [s2]
  have t3 : A * B * (12 * (A * Q + B * Q')) = A * B * ((A * A - 1) * (B - 1) * (2 * B - 1) + 3 * B * (B - 1) * (A - 1) * (2 * A - 1)) := by rw [k]
  clear s1 s2 k
  grind
theorem recip4 {A B Q Q' X : Int} (f1 : 12 * (A * B * Q) = (A * A - 1) * ((B - 1) * B * (2 * B - 1)) + 6 * (B * B * X)) (f2 : 12 * (B * B * Q') = 3 * (B * B) * ((A - 1) * (B - 1) * (2 * A - 1)) - 6 * (B * B * X)) :
    B * (12 * (A * Q + B * Q')) = B * ((A * A - 1) * (B - 1) * (2 * B - 1) + 3 * B * (B - 1) * (A - 1) * (2 * A - 1)) := by
  have h : B * (12 * (A * Q + B * Q')) = 12 * (A * B * Q) + 12 * (B * B * Q') := by grind
  rw [h, f1, f2]
  grind
/-- Dedekind's law. -/
theorem recip {a b : Nat} (ha : 0 < a) (hb : 0 < b) (hg : Nat.gcd a b = 1) : 3 * ((a : Int) * a) * saw a b + 3 * ((b : Int) * b) * saw b a = a * b * ((a : Int) * a + b * b + 1 - 3 * a * b) := by
  have hg' : Nat.gcd b a = 1 := by rw [Nat.gcd_comm]; exact hg
  have s1 := saw_q hb hg
  have s2 := saw_q ha hg'
  have q1 := q_swap ha hb hg
  have q2 := q_sum hb hg
  have e1 : sumI (fun i => qI a b i * (qI a b i + 1)) b = sumI (fun i => qI a b i * qI a b i) b + sumI (qI a b) b := by
    rw [← sumI_add]
    exact sumI_congr (fun i _ => by grind)
  have e2 : sumI (fun i => rI a b i * rI a b i) b = ((a : Int) * a) * sumI (fun i => (i : Int) * i) b + (-(2 * a * b)) * qSum a b + ((b : Int) * b) * sumI (fun i => qI a b i * qI a b i) b := by
    rw [qSum, ← sumI_mul, ← sumI_mul, ← sumI_mul, ← sumI_add, ← sumI_add]
    refine sumI_congr (fun i _ => ?_)
    have h := rq a b i
    have h2 : rI a b i = a * i - b * qI a b i := by omega
    rw [h2]
    grind
  have e3 := sum_rr hb hg
  have e4 := sum_sq b
  rw [e1] at q1
  have f1 := recip1 e2 e3 e4
  have f2 := recip2 q1 q2
  refine recip3 s1 s2 (Int.eq_of_mul_eq_mul_left (a := (b : Int)) (by omega) ?_)
  exact recip4 f1 f2
end Go.Proofs.Ythjodhmkmjabbaa.PY
