import Derived.Test.YthjodhmkmjabbaaB4
import Derived.Test.YthjodhmkmjabbaaPYx6
/-! The yard's sieve counts the fractions below. -/
namespace Go.Proofs.Ythjodhmkmjabbaa.PY
open Go.RowKit Go.Proofs.YthjodhmkmjabbaaW.PrintWords Go.Proofs.YthjodhmkmjabbaaW.PrintLast

/-- f 0 + .. + f (n - 1). -/
def sumTo (f : Nat → Nat) : Nat → Nat
  | 0 => 0
  | n + 1 => sumTo f n + f n
theorem sumTo_congr {f g : Nat → Nat} : ∀ {n : Nat}, (∀ i, i < n → f i = g i) → sumTo f n = sumTo g n
  | 0, _ => rfl
  | n + 1, h => by simp only [sumTo]; rw [sumTo_congr (n := n) (fun i hi => h i (by omega)), h n (by omega)]
theorem sumTo_add (f g : Nat → Nat) : ∀ n : Nat, sumTo (fun i => f i + g i) n = sumTo f n + sumTo g n
  | 0 => rfl
  | n + 1 => by simp only [sumTo]; rw [sumTo_add f g n]; omega
theorem sumTo_zero : ∀ n : Nat, sumTo (fun _ => 0) n = 0
  | 0 => rfl
  | n + 1 => by simp only [sumTo]; rw [sumTo_zero n]
theorem sumTo_one (a : Nat) : ∀ n : Nat, sumTo (fun i => if a = i then 1 else 0) n = if a < n then 1 else 0
  | 0 => by simp [sumTo]
  | n + 1 => by simp only [sumTo]; rw [sumTo_one a n]; split <;> split <;> split <;> omega
/-- A count, split by a number. -/
theorem countP_split {α : Type} (P : α → Bool) (f : α → Nat) (N : Nat) : ∀ l : List α, (∀ x ∈ l, f x < N) → l.countP P = sumTo (fun e => l.countP (fun x => P x && f x == e)) N
  | [], _ => by simp [sumTo_zero]
  | x :: l, h => by
    have ih := countP_split P f N l (fun y hy => h y (List.mem_cons_of_mem _ hy))
    have hx := h x List.mem_cons_self
    simp only [List.countP_cons]
    rw [sumTo_add, ← ih]
    congr 1
    by_cases hp : P x = true
    · rw [if_pos hp]
      have : sumTo (fun i => if (P x && f x == i) = true then 1 else 0) N = sumTo (fun i => if f x = i then 1 else 0) N := sumTo_congr (fun i _ => by simp [hp])
      rw [this, sumTo_one, if_pos hx]
    · rw [if_neg hp]
      have : sumTo (fun i => if (P x && f x == i) = true then 1 else 0) N = sumTo (fun _ => 0) N := sumTo_congr (fun i _ => by simp [hp])
      rw [this, sumTo_zero]
/-- Counting among the multiples. -/
theorem countP_mults (g : Nat) (hg : 0 < g) (Q : Nat → Bool) : ∀ e : Nat, (List.range (g * e)).countP (fun x => decide (g ∣ x) && Q (x / g)) = (List.range e).countP Q
  | 0 => by simp
  | e + 1 => by
    have ih := countP_mults g hg Q e
    rw [List.range_succ, List.countP_append, ← ih, Nat.mul_succ, List.range_add, List.countP_append]
    congr 1
    rw [List.countP_map]
    obtain ⟨h, rfl⟩ : ∃ h, g = h + 1 := ⟨g - 1, by omega⟩
    rw [List.range_succ_eq_map, List.countP_cons]
    have h0 : (List.map Nat.succ (List.range h)).countP ((fun x => decide (h + 1 ∣ x) && Q (x / (h + 1))) ∘ fun x => (h + 1) * e + x) = 0 := by
      rw [List.countP_eq_zero]
      intro x hx
      rw [List.mem_map] at hx
      obtain ⟨y, hy, rfl⟩ := hx
      rw [List.mem_range] at hy
      simp only [Function.comp]
      have : ¬ (h + 1) ∣ (h + 1) * e + Nat.succ y := by
        rw [Nat.dvd_add_right (Nat.dvd_mul_right ..)]
        intro hd
        have := Nat.le_of_dvd (by omega) hd
        omega
      simp [this]
    rw [h0]
    have hq : (h + 1) * e / (h + 1) = e := Nat.mul_div_cancel_left _ hg
    simp [hq, Nat.dvd_mul_right]
/-- All the x below a/b of d, by what they are in lowest terms. -/
theorem all_split (a b : Int) (d : Nat) (hd : 0 < d) : (List.range d).countP (fun x : Nat => decide ((x : Int) * b < a * d)) = sumTo (fun e => if e + 1 ∣ d then cntRow a b (e + 1) else 0) d := by
  rw [countP_split _ (fun x => d / Nat.gcd x d - 1) d]
  · refine sumTo_congr (fun e he => ?_)
    by_cases hed : e + 1 ∣ d
    · rw [if_pos hed]
      obtain ⟨g, rfl⟩ := hed
      have hg : 0 < g := by
        rcases Nat.eq_zero_or_pos g with h | h
        · subst h; simp at hd
        · exact h
      have hm := countP_mults g hg (inRow a b (e + 1)) (e + 1)
      rw [show cntRow a b (e + 1) = (List.range (e + 1)).countP (inRow a b (e + 1)) from rfl, ← hm, Nat.mul_comm g (e + 1)]
      refine List.countP_congr (fun x hx => ?_)
      rw [List.mem_range] at hx
      simp only [Bool.and_eq_true, decide_eq_true_eq, beq_iff_eq, inRow_iff]
      have hgp : 0 < Nat.gcd x ((e + 1) * g) := Nat.gcd_pos_of_pos_right _ (Nat.mul_pos (by omega) hg)
      have hdv := Nat.gcd_dvd_right x ((e + 1) * g)
      have hdl := Nat.gcd_dvd_left x ((e + 1) * g)
      obtain ⟨q, hq⟩ := hdv
      have hqe : (e + 1) * g / Nat.gcd x ((e + 1) * g) = q := Nat.div_eq_of_eq_mul_right hgp hq
      have hq0 : 0 < q := by
        rcases Nat.eq_zero_or_pos q with h | h
        · subst h; omega
        · exact h
      constructor
      · rintro ⟨h1, h2⟩
        rw [hqe] at h2
        have hqe2 : q = e + 1 := by omega
        subst hqe2
        have hgg : Nat.gcd x ((e + 1) * g) = g := by
          have : (e + 1) * Nat.gcd x ((e + 1) * g) = (e + 1) * g := by rw [Nat.mul_comm]; exact hq.symm
          exact Nat.eq_of_mul_eq_mul_left (by omega) this
        rw [hgg] at hdl
        obtain ⟨y, rfl⟩ := hdl
        refine ⟨Nat.dvd_mul_right .., ?_⟩
        rw [Nat.mul_div_cancel_left _ hg]
        refine ⟨?_, ?_⟩
        · refine Int.lt_of_mul_lt_mul_left (a := (g : Int)) ?_ (by omega)
          push_cast at h1 ⊢
          grind
        · rw [Nat.mul_comm (e + 1) g, Nat.gcd_mul_left] at hgg
          exact Nat.eq_of_mul_eq_mul_left hg (by rw [hgg, Nat.mul_one])
      · rintro ⟨⟨y, rfl⟩, h1, h2⟩
        rw [Nat.mul_div_cancel_left _ hg] at h1 h2
        refine ⟨?_, ?_⟩
        · have := Int.mul_lt_mul_of_pos_left h1 (show (0 : Int) < g by omega)
          push_cast at this ⊢
          grind
        · rw [Nat.mul_comm (e + 1) g, Nat.gcd_mul_left, h2, Nat.mul_one, Nat.mul_div_cancel_left _ hg]
          rfl
    · rw [if_neg hed, List.countP_eq_zero]
      intro x hx
      rw [List.mem_range] at hx
      simp only [Bool.and_eq_true, decide_eq_true_eq, beq_iff_eq]
      rintro ⟨_, h2⟩
      have hgp : 0 < Nat.gcd x d := Nat.gcd_pos_of_pos_right _ hd
      have hdv := Nat.gcd_dvd_right x d
      have hq0 : 0 < d / Nat.gcd x d := Nat.div_pos (Nat.le_of_dvd hd hdv) hgp
      exact hed ⟨Nat.gcd x d, by rw [show e + 1 = d / Nat.gcd x d by omega, Nat.div_mul_cancel hdv]⟩
  · intro x hx
    rw [List.mem_range] at hx
    have hgp : 0 < Nat.gcd x d := Nat.gcd_pos_of_pos_right _ hd
    have := Nat.div_le_self d (Nat.gcd x d)
    omega
theorem countP_below (T : Nat) : ∀ n : Nat, (List.range n).countP (fun x => decide (x < T)) = if n ≤ T then n else T
  | 0 => by simp
  | n + 1 => by
    rw [List.range_succ, List.countP_append, countP_below T n]
    simp only [List.countP_cons, List.countP_nil, decide_eq_true_eq]
    split <;> split <;> split <;> omega
/-- How many x lie below a/b of d, as a quotient rounded up. -/
theorem all_ceil {a b : Int} (ha : 0 ≤ a) (hb : 0 < b) (hab : a ≤ b) (d : Nat) : (((List.range d).countP (fun x : Nat => decide ((x : Int) * b < a * d)) : Nat) : Int) = (d * a + b - 1) / b := by
  obtain ⟨t, ht⟩ : ∃ t, t = ((d : Int) * a + b - 1) / b := ⟨_, rfl⟩
  have hdm := Int.mul_ediv_add_emod (d * a + b - 1) b
  have hr0 := Int.emod_nonneg (d * a + b - 1) (show b ≠ 0 by omega)
  have hr := Int.emod_lt_of_pos (d * a + b - 1) hb
  rw [← ht] at hdm
  have hda : 0 ≤ (d : Int) * a := Int.mul_nonneg (by omega) ha
  have ht0 : 0 ≤ t := by rw [ht]; exact Int.ediv_nonneg (by omega) (by omega)
  have htd : t ≤ d := by
    have h1 : (d : Int) * a ≤ d * b := Int.mul_le_mul_of_nonneg_left hab (by omega)
    have h2 : b * t < b * (d + 1) := by rw [Int.mul_add, Int.mul_comm b d]; omega
    have := Int.lt_of_mul_lt_mul_left h2 (by omega)
    omega
  have hsame : ∀ x : Nat, decide ((x : Int) * b < a * d) = decide (x < t.toNat) := by
    intro x
    rw [Bool.eq_iff_iff, decide_eq_true_eq, decide_eq_true_eq]
    rw [Int.mul_comm a d]
    constructor
    · intro h
      rcases Nat.lt_or_ge x t.toNat with h1 | h1
      · exact h1
      · have : b * t ≤ b * x := Int.mul_le_mul_of_nonneg_left (by omega) (by omega)
        rw [Int.mul_comm b x] at this
        omega
    · intro h
      have : b * ((x : Int) + 1) ≤ b * t := Int.mul_le_mul_of_nonneg_left (by omega) (by omega)
      rw [Int.mul_add, Int.mul_comm b x] at this
      omega
  rw [← ht, List.countP_congr (q := fun x => decide (x < t.toNat)) (fun x _ => by rw [hsame]), countP_below]
  split <;> omega

/-! ### the sieve -/
/-- What the smaller divisors of m took. -/
def took (a b : Int) (m d : Nat) : Nat := sumTo (fun e => if e + 1 ∣ m then cntRow a b (e + 1) else 0) d
theorem rd_set (l : List Int) (i m : Nat) (v : Int) (hi : i < l.length) : rd (l.set i v) m = if m = i then v else rd l m := by
  simp only [rd, Int.toNat_natCast, List.getD_eq_getElem?_getD, List.getElem?_set]
  by_cases h : i = m
  · subst h; simp [hi]
  · rw [if_neg h, if_neg (fun e => h e.symm)]
theorem took_succ (a b : Int) (m d : Nat) : took a b m (d + 1) = took a b m d + (if d + 1 ∣ m then cntRow a b (d + 1) else 0) := rfl
theorem cntRow_le (a b : Int) (y : Nat) : cntRow a b y ≤ y := by
  have := List.countP_le_length (p := inRow a b y) (l := List.range y)
  simpa [cntRow] using this
theorem took_le (a b : Int) (m : Nat) : ∀ d : Nat, d ≤ 300 → took a b m d ≤ 300 * d
  | 0, _ => by simp [took, sumTo]
  | d + 1, h => by
    have h1 := took_le a b m d (by omega)
    have h2 := cntRow_le a b (d + 1)
    rw [took_succ]
    split <;> omega
theorem sieve_inner : ∀ (s : Nat) (n : Nat) (c : List Int) (sum : Int) (d x : Nat) (a b r : Int), n ≤ 300 → c.length = n + 1 → 1 ≤ d → d ≤ n → d < x → d ∣ x → n + 1 ≤ x + s →
    (∀ m : Nat, 1 ≤ m → m ≤ n → rd c m = if m ≤ d then (cntRow a b m : Int) else -(took a b m (if m < x then d else d - 1) : Int)) →
    (∀ c' : List Int, c'.length = n + 1 → (∀ m : Nat, 1 ≤ m → m ≤ n → rd c' m = if m < d + 1 then (cntRow a b m : Int) else -(took a b m d : Int)) → Ev (fun k => yard_below.l0 k n c' sum ((d + 1 : Nat) : Int) a b) r) → Ev (fun k => yard_below.l1 k n c sum d x a b) r := by
  intro s
  induction s with
  | zero =>
    intro n c sum d x a b r hn hc hd hdn hdx hdv hs H K
    have hK := K c hc (fun m h1 h2 => by rw [H m h1 h2, if_pos (show m < x by omega)]; by_cases hm : m ≤ d; (rw [if_pos hm, if_pos (by omega)]); (rw [if_neg hm, if_neg (by omega)]))
    refine Ev.step (fun k => ?_) hK
    show yard_below.l1 (k + 1) _ _ _ _ _ _ _ = _
    simp only [yard_below.l1]
    rw [if_neg (by omega), w64 (by omega)]
    rfl
  | succ s ih =>
    intro n c sum d x a b r hn hc hd hdn hdx hdv hs H K
    by_cases hx : x ≤ n
    · have v1 := H x (by omega) hx
      have v2 := H d hd hdn
      rw [if_neg (by omega), if_neg (by omega)] at v1
      rw [if_pos (Nat.le_refl d)] at v2
      have t1 := took_le a b x (d - 1) (by omega)
      have t2 := cntRow_le a b d
      have hts : took a b x d = took a b x (d - 1) + cntRow a b d := by
        have := took_succ a b x (d - 1)
        rw [show d - 1 + 1 = d by omega, if_pos hdv] at this
        exact this
      have hnew : wrap64 (rd c x - rd c d) = -(took a b x d : Int) := by rw [v1, v2, w64 (by omega)]; omega
      have hK := ih n (c.set x (-(took a b x d : Int))) sum d (x + d) a b r hn (by simpa using hc) hd hdn (by omega) (Nat.dvd_add hdv (Nat.dvd_refl d)) (by omega) (fun m h1 h2 => ?_) K
      · refine Ev.step (fun k => ?_) hK
        show yard_below.l1 (k + 1) _ _ _ _ _ _ _ = _
        simp only [yard_below.l1]
        rw [if_pos (by omega), if_pos (by omega), if_pos (by omega), if_pos (by omega), if_pos (by omega), hnew, w64 (n := (x : Int) + d) (by omega), Int.toNat_natCast]
        rfl
      · rw [rd_set _ _ _ _ (by omega)]
        by_cases hmx : m = x
        · subst hmx
          rw [if_pos rfl, if_neg (by omega), if_pos (by omega)]
        · rw [if_neg hmx, H m h1 h2]
          by_cases hmd : m ≤ d
          · rw [if_pos hmd, if_pos hmd]
          · rw [if_neg hmd, if_neg hmd]
            by_cases hlt : m < x
            · rw [if_pos hlt, if_pos (by omega)]
            · rw [if_neg hlt]
              by_cases hlt2 : m < x + d
              · rw [if_pos hlt2]
                have hnd : ¬ d ∣ m := by
                  intro hdm
                  have hsub := Nat.dvd_sub hdm hdv
                  have := Nat.le_of_dvd (by omega) hsub
                  omega
                have := took_succ a b m (d - 1)
                rw [show d - 1 + 1 = d by omega, if_neg hnd] at this
                rw [this]
                rfl
              · rw [if_neg hlt2]
    · have hK := K c hc (fun m h1 h2 => by rw [H m h1 h2, if_pos (show m < x by omega)]; by_cases hm : m ≤ d; (rw [if_pos hm, if_pos (by omega)]); (rw [if_neg hm, if_neg (by omega)]))
      refine Ev.step (fun k => ?_) hK
      show yard_below.l1 (k + 1) _ _ _ _ _ _ _ = _
      simp only [yard_below.l1]
      rw [if_neg (by omega), w64 (by omega)]
      rfl
theorem cnt_le (a b : Int) : ∀ n : Nat, n ≤ 300 → cnt a b n ≤ 300 * n
  | 0, _ => Nat.le_refl _
  | n + 1, h => by
    have h1 := cnt_le a b n (by omega)
    have h2 := cntRow_le a b (n + 1)
    simp only [cnt]
    omega
theorem sieve_outer : ∀ (s : Nat) (n : Nat) (c : List Int) (d : Nat) (a b : Int), n ≤ 300 → 0 ≤ a → 0 < b → a ≤ b → b ≤ 1000000 → c.length = n + 1 → 1 ≤ d → d ≤ n + 1 → n + 1 = d + s →
    (∀ m : Nat, 1 ≤ m → m ≤ n → rd c m = if m < d then (cntRow a b m : Int) else -(took a b m (d - 1) : Int)) →
    Ev (fun k => yard_below.l0 k n c (cnt a b (d - 1) : Int) d a b) (cnt a b n : Int) := by
  intro s
  induction s with
  | zero =>
    intro n c d a b hn ha hb hab hbm hc hd hdn hs H
    refine ⟨1, fun k hk => ?_⟩
    obtain ⟨j, rfl⟩ : ∃ j, k = j + 1 := ⟨k - 1, by omega⟩
    simp only [yard_below.l0]
    rw [if_neg (by omega), show d - 1 = n by omega]
  | succ s ih =>
    intro n c d a b hn ha hb hab hbm hc hd hdn hs H
    have hceil := all_ceil ha hb hab d
    rw [all_split a b d (by omega)] at hceil
    have hts := took_succ a b d (d - 1)
    rw [show d - 1 + 1 = d by omega, if_pos (Nat.dvd_refl d)] at hts
    have hceil2 : ((d : Int) * a + b - 1) / b = (took a b d (d - 1) + cntRow a b d : Nat) := by rw [← hts]; exact hceil.symm
    have v := H d hd (by omega)
    rw [if_neg (by omega)] at v
    have t1 := took_le a b d (d - 1) (by omega)
    have t2 := cntRow_le a b d
    have m1 : (d : Int) * a ≤ 300 * 1000000 := Int.mul_le_mul (by omega) (by omega) ha (by omega)
    have m0 : 0 ≤ (d : Int) * a := Int.mul_nonneg (by omega) ha
    have hc0 := cnt_le a b (d - 1) (by omega)
    have hcs : cnt a b d = cnt a b (d - 1) + cntRow a b d := by
      obtain ⟨e, rfl⟩ : ∃ e, d = e + 1 := ⟨d - 1, by omega⟩
      rfl
    have hq : wrap64 (Int.tdiv (wrap64 (wrap64 (wrap64 ((d : Int) * a) + b) - 1)) b) = ((took a b d (d - 1) + cntRow a b d : Nat) : Int) := by
      rw [w64 (n := (d : Int) * a) (by omega), w64 (n := (d : Int) * a + b) (by omega), w64 (n := (d : Int) * a + b - 1) (by omega), Int.tdiv_eq_ediv_of_nonneg (by omega), hceil2, w64 (by omega)]
    have hnew : wrap64 (rd c d + wrap64 (Int.tdiv (wrap64 (wrap64 (wrap64 ((d : Int) * a) + b) - 1)) b)) = (cntRow a b d : Int) := by
      rw [hq, v, w64 (by omega)]; omega
    have hK := sieve_inner (n + 1) n (c.set d (cntRow a b d : Int)) (cnt a b d : Int) d (2 * d) a b (cnt a b n : Int) hn (by simpa using hc) hd (by omega) (by omega) ⟨2, Nat.mul_comm ..⟩ (by omega) (fun m h1 h2 => ?_) (fun c' hc' H' => ?_)
    · refine Ev.step (fun k => ?_) hK
      show yard_below.l0 (k + 1) _ _ _ _ _ _ = _
      simp only [yard_below.l0]
      rw [if_pos (by omega), if_pos (by omega), if_pos (by omega), if_neg (by omega), hnew, w64 (n := (cnt a b (d - 1) : Int) + cntRow a b d) (by omega), w64 (n := 2 * (d : Int)) (by omega), Int.toNat_natCast, hcs]
      rfl
    · rw [rd_set _ _ _ _ (by omega)]
      by_cases hmd : m = d
      · subst hmd
        rw [if_pos rfl, if_pos (Nat.le_refl _)]
      · rw [if_neg hmd, H m h1 h2]
        by_cases hlt : m < d
        · rw [if_pos hlt, if_pos (by omega)]
        · rw [if_neg hlt, if_neg (by omega)]
          by_cases hlt2 : m < 2 * d
          · rw [if_pos hlt2]
            have hnd : ¬ d ∣ m := by
              intro hdm
              have hsub := Nat.dvd_sub hdm (Nat.dvd_refl d)
              have := Nat.le_of_dvd (by omega) hsub
              omega
            have := took_succ a b m (d - 1)
            rw [show d - 1 + 1 = d by omega, if_neg hnd] at this
            rw [this]
            rfl
          · rw [if_neg hlt2]
    · have := ih n c' (d + 1) a b hn ha hb hab hbm hc' (by omega) (by omega) (by omega) (by simpa using H')
      simpa using this
theorem below_ev {n : Nat} {a b : Int} (hn : n ≤ 300) (ha : 0 ≤ a) (hb : 0 < b) (hab : a ≤ b) (hbm : b ≤ 1000000) : Ev (fun k => yard_below.f k n a b) (cnt a b n : Int) := by
  have h := sieve_outer n n (List.replicate (n + 1) 0) 1 a b hn ha hb hab hbm (by simp) (by omega) (by omega) (by omega) (fun m h1 h2 => by
    rw [if_neg (by omega)]
    simp [took, sumTo, rd, List.getD_eq_getElem?_getD, show m < n + 1 by omega])
  simp only [yard_below.f]
  rw [w64 (n := (n : Int) + 1) (by omega)]
  refine Ev.ite_true (by omega) (Ev.ite_true (by omega) ?_)
  simpa [cnt] using h
end Go.Proofs.Ythjodhmkmjabbaa.PY
