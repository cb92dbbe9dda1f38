import Derived.Test.YthjodhmkmjabbaaPYx25
import Derived.Test.YthjodhmkmjabbaaPYx3
/-! Plain laws, gathered for one claim. -/
namespace Go.Proofs.Ythjodhmkmjabbaa.PY
open Go.RowKit Go.Proofs.YthjodhmkmjabbaaW.PrintWords Go.Proofs.YthjodhmkmjabbaaW.PrintLast
theorem Ev.ite_true {α : Type} {c : Prop} [Decidable c] {g f : Nat → Option α} {r : α} (hc : c) (h : Ev g r) : Ev (fun n => if c then g n else f n) r := by simpa only [if_pos hc] using h
theorem Ev.ite_false {α : Type} {c : Prop} [Decidable c] {g f : Nat → Option α} {r : α} (hc : ¬ c) (h : Ev f r) : Ev (fun n => if c then g n else f n) r := by simpa only [if_neg hc] using h
theorem Ev.to {α : Type} {g : Nat → Option α} {r s : α} (h : Ev g r) (e : r = s) : Ev g s := e ▸ h
theorem gcd_nat : ∀ (y x : Nat), Ev (fun k => yard_gcd.l0 k x y) (Nat.gcd x y : Int) := by
  intro y
  induction y using Nat.strongRecOn with
  | ind y ih =>
    intro x
    rcases Nat.eq_zero_or_pos y with rfl | hy
    · refine ⟨1, fun k hk => ?_⟩
      obtain ⟨j, rfl⟩ : ∃ j, k = j + 1 := ⟨k - 1, by omega⟩
      simp [yard_gcd.l0]
    · have h1 := ih (x % y) (Nat.mod_lt _ hy) y
      refine Ev.to (Ev.step (f := fun k => yard_gcd.l0 k (y : Int) ((x % y : Nat) : Int)) (fun k => ?_) h1) (by rw [Nat.gcd_comm x y, Nat.gcd_rec y x, Nat.gcd_comm])
      show yard_gcd.l0 (k + 1) x y = _
      simp only [yard_gcd.l0]
      rw [if_pos (by omega), if_neg (by omega), Int.tmod_eq_emod_of_nonneg (by omega)]
      rfl
theorem gcd_ev {x y : Int} (hx : 0 ≤ x) (hy : 0 ≤ y) : Ev (fun k => yard_gcd.f k x y) (Int.gcd x y : Int) := by
  obtain ⟨a, rfl⟩ := Int.eq_ofNat_of_zero_le hx
  obtain ⟨b, rfl⟩ := Int.eq_ofNat_of_zero_le hy
  exact gcd_nat b a

/-- num/den is a fraction of the yard. -/
def okF (a b : Int) : Bool := decide (1 ≤ b ∧ b ≤ 1000000 ∧ 0 ≤ a ∧ a ≤ b) && (Int.gcd a b == 1)
theorem isFrac_ev (a b : Int) : Ev (fun k => yard_isFrac.f k a b) (okF a b) := by
  simp only [yard_isFrac.f, yard_within.f, okF]
  by_cases h1 : b ≥ 1
  · by_cases h2 : b ≤ 1000000
    · by_cases h3 : a ≥ 0
      · by_cases h4 : a ≤ b
        · simp only [h1, h2, h3, h4, if_true, decide_true, Option.bind_some, and_self, Bool.true_and]
          refine Ev.bind (gcd_ev h3 (by omega)) (Ev.to (Ev.now _) ?_)
          rw [Bool.eq_iff_iff]; simp; omega
        · simp only [h1, h2, h3, h4, if_true, decide_true, Option.bind_some, decide_false, and_false, Bool.false_and, if_false, Bool.false_eq_true]
          exact Ev.now _
      · simp only [h1, h2, h3, if_true, decide_true, Option.bind_some, if_false, Bool.false_eq_true]
        refine Ev.to (Ev.now _) ?_
        first | (simp; done) | (simp; omega)
    · simp only [h1, h2, if_true, Option.bind_some, decide_false, if_false, Bool.false_eq_true, and_false, false_and, Bool.false_and]
      exact Ev.now _
  · simp only [h1, if_false, Option.bind_some, Bool.false_eq_true]
    refine Ev.to (Ev.now _) ?_
    first | (simp; done) | (simp; omega)
theorem okF_iff {a b : Int} : okF a b = true ↔ 1 ≤ b ∧ b ≤ 1000000 ∧ 0 ≤ a ∧ a ≤ b ∧ Int.gcd a b = 1 := by
  simp [okF, and_assoc]

theorem w64 {n : Int} (h : -9223372036854775808 ≤ n ∧ n ≤ 9223372036854775807) : wrap64 n = n := by unfold wrap64; omega
/-- Two fractions in lowest terms that are the same number are the same. -/
theorem okF_inj' {a b c d : Int} (ha : 0 ≤ a) (hb : 0 < b) (h5 : Int.gcd a b = 1) (hc : 0 ≤ c) (hd : 0 < d) (g5 : Int.gcd c d = 1) (e : a * d = c * b) : a = c ∧ b = d := by
  obtain ⟨a, rfl⟩ := Int.eq_ofNat_of_zero_le ha
  obtain ⟨b, rfl⟩ := Int.eq_ofNat_of_zero_le (show 0 ≤ b by omega)
  obtain ⟨c, rfl⟩ := Int.eq_ofNat_of_zero_le hc
  obtain ⟨d, rfl⟩ := Int.eq_ofNat_of_zero_le (show 0 ≤ d by omega)
  have e' : a * d = c * b := by exact_mod_cast e
  have h5 : Nat.Coprime a b := h5
  have g5 : Nat.Coprime c d := g5
  have k1 : b ∣ d := h5.symm.dvd_of_dvd_mul_left (show b ∣ a * d from ⟨c, by rw [e', Nat.mul_comm]⟩)
  have k2 : d ∣ b := g5.symm.dvd_of_dvd_mul_left (show d ∣ c * b from ⟨a, by rw [← e', Nat.mul_comm]⟩)
  have hbd : b = d := Nat.dvd_antisymm k1 k2
  subst hbd
  exact ⟨by have := Nat.eq_of_mul_eq_mul_right (by omega) e'; omega, rfl⟩

/-- a/b and c/d stand side by side in the row of order n. -/
structure Nb (n a b c d : Int) : Prop where
  b1 : 1 ≤ b
  bn : b ≤ n
  d1 : 1 ≤ d
  dn : d ≤ n
  a0 : 0 ≤ a
  c0 : 0 ≤ c
  det : c * b - a * d = 1
  far : n < b + d
theorem Nb.step {n a b c d : Int} (h : Nb n a b c d) : Nb n c d ((n + b) / d * c - a) ((n + b) / d * d - b) := by
  obtain ⟨b1, bn, d1, dn, a0, c0, det, far⟩ := h
  have hdm := Int.mul_ediv_add_emod (n + b) d
  have hr0 := Int.emod_nonneg (n + b) (show d ≠ 0 by omega)
  have hr := Int.emod_lt_of_pos (n + b) (show 0 < d by omega)
  obtain ⟨e, he⟩ : ∃ e, e = (n + b) / d := ⟨_, rfl⟩
  obtain ⟨r, hre⟩ : ∃ r, r = (n + b) % d := ⟨_, rfl⟩
  rw [← he, ← hre] at hdm
  rw [← hre] at hr hr0
  rw [← he]
  have hq : e * d - b = n - r := by rw [Int.mul_comm]; omega
  have hdet : (e * c - a) * d - c * (e * d - b) = 1 := by grind
  have hcq : 0 ≤ c * (n - r) := Int.mul_nonneg c0 (by omega)
  refine ⟨d1, dn, by omega, by omega, c0, ?_, hdet, by omega⟩
  rw [hq] at hdet
  have hp : 0 < (e * c - a) * d := by omega
  have := Int.pos_of_mul_pos_left hp (by omega)
  omega
theorem Nb.gcd {n a b c d : Int} (h : Nb n a b c d) : Int.gcd a b = 1 ∧ Int.gcd c d = 1 := by
  obtain ⟨b1, bn, d1, dn, a0, c0, det, far⟩ := h
  have key : ∀ x y u v : Int, u * x + v * y = 1 → Int.gcd x y = 1 := by
    intro x y u v e
    have h1 : ((Int.gcd x y : Nat) : Int) ∣ 1 := by
      rw [← e]
      exact Int.dvd_add (Int.dvd_mul_of_dvd_right (Int.gcd_dvd_left ..)) (Int.dvd_mul_of_dvd_right (Int.gcd_dvd_right ..))
    have := Int.natAbs_dvd_natAbs.2 h1
    simpa using this
  exact ⟨key a b (-d) c (by grind), key c d b (-a) (by grind)⟩
theorem Nb.le {n a b c d : Int} (h : Nb n a b c d) (hab : a < b) : c ≤ d := by
  obtain ⟨b1, bn, d1, dn, a0, c0, det, far⟩ := h
  have h1 : a * d ≤ (b - 1) * d := Int.mul_le_mul_of_nonneg_right (by omega) (by omega)
  have h2 : b * (c - d) ≤ 0 + (1 - d) := by grind
  rcases Int.lt_or_le d c with h3 | h3
  · have : b * 1 ≤ b * (c - d) := Int.mul_le_mul_of_nonneg_left (by omega) (by omega)
    omega
  · exact h3
/-- Nothing of the row lies between. -/
theorem Nb.none {n a b c d x y : Int} (h : Nb n a b c d) (h1 : a * y < x * b) (h2 : x * d < c * y) : n < y := by
  obtain ⟨b1, bn, d1, dn, a0, c0, det, far⟩ := h
  have e : y = b * (c * y - x * d) + d * (x * b - a * y) := by
    have : y = (c * b - a * d) * y := by rw [det, Int.one_mul]
    grind
  have k1 : b * 1 ≤ b * (c * y - x * d) := Int.mul_le_mul_of_nonneg_left (by omega) (by omega)
  have k2 : d * 1 ≤ d * (x * b - a * y) := Int.mul_le_mul_of_nonneg_left (by omega) (by omega)
  omega
def okN (n : Int) : Bool := decide (1 ≤ n ∧ n ≤ 300)
theorem isRow_eval (n : Int) : yard_isRow.f n = some (okN n) := by
  simp only [yard_isRow.f, yard_within.f, okN]
  by_cases h1 : n ≥ 1
  · rw [if_pos h1]; simp; omega
  · rw [if_neg h1]; simp; omega
/-- A fraction, brought to its lowest terms. -/
theorem frac_ev {p q : Int} (hp : 0 ≤ p) (hq : 0 < q) (hpm : p ≤ 1000000000) (hqm : q ≤ 1000000000) : ∃ x y, Ev (fun k => yard_frac.f k p q) (x, y) ∧ 0 ≤ x ∧ 1 ≤ y ∧ y ≤ q ∧ x ≤ p ∧ Int.gcd x y = 1 ∧ x * q = p * y ∧ (Int.gcd p q = 1 → x = p ∧ y = q) := by
  have hg := gcd_ev hp (show 0 ≤ q by omega)
  have hpos : 0 < Int.gcd p q := Int.gcd_pos_of_ne_zero_right _ (by omega)
  obtain ⟨g, hge⟩ : ∃ g, g = Int.gcd p q := ⟨_, rfl⟩
  obtain ⟨x, hx⟩ : (g : Int) ∣ p := by rw [hge]; exact Int.gcd_dvd_left ..
  obtain ⟨y, hy⟩ : (g : Int) ∣ q := by rw [hge]; exact Int.gcd_dvd_right ..
  have hgp : (0 : Int) < g := by omega
  have hxe : p / g = x := by rw [hx]; exact Int.mul_ediv_cancel_left _ (by omega)
  have hye : q / g = y := by rw [hy]; exact Int.mul_ediv_cancel_left _ (by omega)
  have hx0 : 0 ≤ x := by rw [← hxe]; exact Int.ediv_nonneg hp (by omega)
  have hy0 : 0 < y := Int.pos_of_mul_pos_right (show 0 < (g : Int) * y by omega) (by omega)
  have hxl : x ≤ p := by rw [← hxe]; exact Int.ediv_le_self _ hp
  have hyl : y ≤ q := by rw [← hye]; exact Int.ediv_le_self _ (by omega)
  refine ⟨x, y, ?_, hx0, by omega, hyl, hxl, ?_, by rw [hx, hy]; grind, ?_⟩
  · refine Ev.bind hg (Ev.ite_false (by omega) (Ev.to (Ev.now _) ?_))
    rw [← hge, Int.tdiv_eq_ediv_of_nonneg hp, Int.tdiv_eq_ediv_of_nonneg (by omega), hxe, hye, w64 (by omega), w64 (by omega)]
  · have h2 : Int.gcd (g * x) (g * y) = g * Int.gcd x y := by
      have := Int.gcd_mul_left (g : Int) x y
      simpa using this
    rw [← hx, ← hy, ← hge] at h2
    exact Nat.eq_of_mul_eq_mul_left (by omega) (h2.symm.trans (Nat.mul_one g).symm)
  · intro h1
    rw [← hge] at h1
    subst h1
    constructor
    · omega
    · omega
/-- c/d is the first of the row of order n above a/b. -/
structure Succ (n a b c d : Int) : Prop where
  d1 : 1 ≤ d
  dn : d ≤ n
  c0 : 0 ≤ c
  cd : c ≤ d
  low : Int.gcd c d = 1
  gt : a * d < c * b
  first : ∀ x y, 1 ≤ y → y ≤ n → a * y < x * b → c * y ≤ x * d
theorem next_loop {n a b c d : Int} (hn : n ≤ 300) (ha : 0 ≤ a) (hb : 0 < b) (hab : a ≤ b) (hbm : b ≤ 1000000) (S : Succ n a b c d) : ∀ (s : Nat) (q : Int) (found : Bool) (x y : Int), 1 ≤ q → n + 1 = q + s →
    (found = true → 1 ≤ y ∧ y ≤ n ∧ 0 ≤ x ∧ x ≤ y ∧ Int.gcd x y = 1 ∧ a * y < x * b) → (d < q → found = true ∧ x = c ∧ y = d) →
    Ev (fun k => yard_next.l0 k n found q a b x y) (c, d, true) := by
  obtain ⟨d1, dn, c0, cd, low, gt, first⟩ := S
  intro s
  induction s with
  | zero =>
    intro q found x y hq hs hF hD
    obtain ⟨rfl, rfl, rfl⟩ := hD (by omega)
    refine ⟨1, fun k hk => ?_⟩
    obtain ⟨i, rfl⟩ : ∃ i, k = i + 1 := ⟨k - 1, by omega⟩
    simp only [yard_next.l0]
    rw [if_neg (by omega)]
  | succ s ih =>
    intro q found x y hq hs hF hD
    have hqa0 : 0 ≤ q * a := Int.mul_nonneg (by omega) ha
    have hqa : q * a ≤ 300 * 1000000 := Int.mul_le_mul (by omega) (by omega) ha (by omega)
    have hdm := Int.mul_ediv_add_emod (q * a) b
    have hr0 := Int.emod_nonneg (q * a) (show b ≠ 0 by omega)
    have hr := Int.emod_lt_of_pos (q * a) hb
    obtain ⟨f, hf⟩ : ∃ f, f = q * a / b := ⟨_, rfl⟩
    have hf0 : 0 ≤ f := by rw [hf]; exact Int.ediv_nonneg hqa0 (by omega)
    have hfl : f ≤ q * a := by rw [hf]; exact Int.ediv_le_self _ hqa0
    rw [← hf] at hdm
    have hpe : wrap64 (wrap64 (Int.tdiv (wrap64 (q * a)) b) + 1) = f + 1 := by
      rw [w64 (n := q * a) (by omega), Int.tdiv_eq_ediv_of_nonneg hqa0, ← hf, w64 (n := f) (by omega), w64 (by omega)]
    have hq1 : wrap64 (q + 1) = q + 1 := w64 (by omega)
    have hgt : a * q < (f + 1) * b := by grind
    by_cases hp : f + 1 ≤ q
    · obtain ⟨u, v, hfr, u0, v1, vq, up, ug, ue, uid⟩ := frac_ev (p := f + 1) (q := q) (by omega) (by omega) (by omega) (by omega)
      have hgt2 : a * v < u * b := by
        have h1 : (a * q) * v < ((f + 1) * b) * v := Int.mul_lt_mul_of_pos_right hgt (by omega)
        refine Int.lt_of_mul_lt_mul_right (a := q) ?_ (by omega)
        rw [show a * v * q = a * q * v from Int.mul_right_comm .., show u * b * q = (f + 1) * b * v from by rw [Int.mul_right_comm u b q, ue, Int.mul_right_comm]]
        exact h1
      have huv : u ≤ v := by
        have h1 : (f + 1) * v ≤ q * v := Int.mul_le_mul_of_nonneg_right hp (by omega)
        have h2 : u * q ≤ v * q := by rw [ue, Int.mul_comm v q]; exact h1
        exact Int.le_of_mul_le_mul_right h2 (by omega)
      have hge := first u v v1 (by omega) hgt2
      have hud : q = d → u = c ∧ v = d := by
        intro hqd
        subst hqd
        have h1 : f + 1 ≤ c := by
          have : f * b < c * b := by
            have : f * b ≤ a * q := by rw [Int.mul_comm f b, Int.mul_comm a q]; omega
            omega
          have := Int.lt_of_mul_lt_mul_right this (by omega)
          omega
        have h2 := first (f + 1) q hq (by omega) hgt
        have h3 := Int.le_of_mul_le_mul_right h2 (by omega)
        have h4 : f + 1 = c := by omega
        rw [h4] at uid
        exact uid low
      have hlw : wrap64 (u * y) = u * y ∧ wrap64 (x * v) = x * v ∨ found = false := by
        cases hfd : found with
        | false => exact .inr rfl
        | true =>
          left
          obtain ⟨y1, yn, x0, xy, xg, xgt⟩ := hF hfd
          have m1 : u * y ≤ 300 * 300 := Int.mul_le_mul (by omega) (by omega) (by omega) (by omega)
          have m2 : x * v ≤ 300 * 300 := Int.mul_le_mul (by omega) (by omega) (by omega) (by omega)
          have m3 : 0 ≤ u * y := Int.mul_nonneg (by omega) (by omega)
          have m4 : 0 ≤ x * v := Int.mul_nonneg (by omega) (by omega)
          exact ⟨w64 (by omega), w64 (by omega)⟩
      -- what the new best is
      have hnew : ∃ x' y', (1 ≤ y' ∧ y' ≤ n ∧ 0 ≤ x' ∧ x' ≤ y' ∧ Int.gcd x' y' = 1 ∧ a * y' < x' * b) ∧ (d < q + 1 → x' = c ∧ y' = d) ∧
          (∀ r, Ev (fun k => yard_next.l0 k n true (q + 1) a b x' y') r → Ev (fun k => if found = true then ((yard_less.f u v x y).bind fun t342 => (if t342 = true then (yard_next.l0 k n true (q + 1) a b u v) else (yard_next.l0 k n found (q + 1) a b x y))) else (yard_next.l0 k n true (q + 1) a b u v)) r) := by
        cases hfd : found with
        | false =>
          refine ⟨u, v, ⟨v1, by omega, u0, huv, ug, hgt2⟩, fun h => ?_, fun r hr => Ev.ite_false (by decide) hr⟩
          rcases Int.lt_or_eq_of_le (show d ≤ q by omega) with h2 | h2
          · have := (hD h2).1
            rw [hfd] at this
            cases this
          · exact hud h2.symm
        | true =>
          obtain ⟨y1, yn, x0, xy, xg, xgt⟩ := hF hfd
          obtain ⟨e1, e2⟩ := hlw.resolve_right (by rw [hfd]; decide)
          by_cases hl : u * y < x * v
          · refine ⟨u, v, ⟨v1, by omega, u0, huv, ug, hgt2⟩, fun h => ?_, fun r hr => Ev.ite_true rfl ?_⟩
            · rcases Int.lt_or_eq_of_le (show d ≤ q by omega) with h2 | h2
              · obtain ⟨_, rfl, rfl⟩ := hD h2
                omega
              · exact hud h2.symm
            · simp only [yard_less.f, e1, e2, Option.bind_some]
              exact Ev.ite_true (by simpa using hl) hr
          · refine ⟨x, y, ⟨y1, yn, x0, xy, xg, xgt⟩, fun h => ?_, fun r hr => Ev.ite_true rfl ?_⟩
            · rcases Int.lt_or_eq_of_le (show d ≤ q by omega) with h2 | h2
              · exact (hD h2).2
              · obtain ⟨rfl, rfl⟩ := hud h2.symm
                have hge2 := first x y y1 yn xgt
                exact okF_inj' x0 (by omega) xg u0 (by omega) ug (by omega)
            · simp only [yard_less.f, e1, e2, Option.bind_some]
              exact Ev.ite_false (by simpa using hl) hr
      obtain ⟨x', y', hF', hD', hstep⟩ := hnew
      have h := hstep _ (ih (q + 1) true x' y' (by omega) (by omega) (fun _ => hF') (fun h => ⟨rfl, hD' h⟩))
      refine Ev.step (f := fun k => (yard_frac.f k (f + 1) q).bind fun bt339 => (if found = true then ((yard_less.f bt339.1 bt339.2 x y).bind fun t342 => (if t342 = true then (yard_next.l0 k n true (q + 1) a b bt339.1 bt339.2) else (yard_next.l0 k n found (q + 1) a b x y))) else (yard_next.l0 k n true (q + 1) a b bt339.1 bt339.2))) (fun k => ?_) (Ev.bind hfr h)
      simp only [yard_next.l0]
      rw [if_pos (by omega), if_neg (by omega), hpe, if_pos hp, hq1]
    · refine Ev.step (fun k => ?_) (ih (q + 1) found x y (by omega) (by omega) hF (fun h => ?_))
      · show yard_next.l0 (k + 1) _ _ _ _ _ _ _ = _
        simp only [yard_next.l0]
        rw [if_pos (by omega), if_neg (by omega), hpe, if_neg hp, hq1]
      · rcases Int.lt_or_eq_of_le (show d ≤ q by omega) with h2 | h2
        · exact hD h2
        · subst h2
          exfalso
          apply hp
          have : f * b < c * b := by
            have : f * b ≤ a * d := by rw [Int.mul_comm f b, Int.mul_comm a d]; omega
            omega
          have := Int.lt_of_mul_lt_mul_right this (by omega)
          omega
theorem next_ev {n a b c d : Int} (hn : n ≤ 300) (ha : 0 ≤ a) (hb : 0 < b) (hab : a ≤ b) (hbm : b ≤ 1000000) (S : Succ n a b c d) : Ev (fun k => yard_next.f k n a b) (c, d, true) := by
  have h1 := S.d1
  have h2 := S.dn
  exact next_loop hn ha hb hab hbm S n.toNat 1 false 0 0 (by omega) (by omega) (fun h => by cases h) (fun h => by omega)
theorem Nb.succ {n a b c d : Int} (h : Nb n a b c d) (hab : a < b) : Succ n a b c d := by
  have hle := h.le hab
  refine ⟨h.d1, h.dn, h.c0, hle, h.gcd.2, by have := h.det; omega, fun x y hy hyn hlt => ?_⟩
  rcases Int.lt_or_le (x * d) (c * y) with h1 | h1
  · have := h.none hlt h1
    omega
  · exact h1
theorem Nb.mirror {n a b c d : Int} (h : Nb n a b c d) (hab : a ≤ b) (hcd : c ≤ d) : Nb n (d - c) d (b - a) b := by
  obtain ⟨b1, bn, d1, dn, a0, c0, det, far⟩ := h
  exact ⟨d1, dn, b1, bn, by omega, by omega, by grind, by omega⟩
theorem Next_ev {n a b c d : Int} (hok : okN n = true) (hf : okF a b = true) (S : Succ n a b c d) : Ev (fun k => yard_Next.f k n a b) (c, d, 0) := by
  obtain ⟨h1, h2, h3, h4, _⟩ := okF_iff.1 hf
  have hfr := isFrac_ev a b
  rw [hf] at hfr
  have hn := hok
  simp [okN] at hn
  simp only [yard_Next.f, isRow_eval, Option.bind_some]
  refine Ev.ite_true hok (Ev.bind hfr ?_)
  refine Ev.step (f := fun k => (yard_next.f k n a b).bind fun bt369 => ((yard_found.f bt369.1 bt369.2.1 bt369.2.2).bind fun bt372 => (some (bt372.1, bt372.2.1, bt372.2.2)))) (fun k => ?_) (Ev.bind (next_ev hn.2 h3 (by omega) h4 h2 S) (Ev.to (Ev.now _) rfl))
  simp only [yard_Next.j0]
  rw [if_neg (by decide)]
theorem Before_ev {n a b c d : Int} (hok : okN n = true) (hf : okF a b = true) (hdm : d ≤ 1000000) (hc0 : 0 ≤ c) (hcd : c ≤ d) (S : Succ n (b - a) b (d - c) d) : Ev (fun k => yard_Before.f k n a b) (c, d, 0) := by
  obtain ⟨h1, h2, h3, h4, _⟩ := okF_iff.1 hf
  have hfr := isFrac_ev a b
  rw [hf] at hfr
  have hn := hok
  simp [okN] at hn
  simp only [yard_Before.f, isRow_eval, Option.bind_some]
  refine Ev.ite_true hok (Ev.bind hfr ?_)
  have hbe : Ev (fun k => yard_before.f k n a b) (c, d, true) := by
    simp only [yard_before.f, yard_mirrored.f, Option.bind_some]
    rw [w64 (n := b - a) (by omega)]
    refine Ev.bind (next_ev hn.2 (by omega) (by omega) (by omega) h2 S) (Ev.to (Ev.now _) ?_)
    show (wrap64 (d - (d - c)), d, true) = (c, d, true)
    rw [w64 (by omega), show d - (d - c) = c by omega]
  refine Ev.step (f := fun k => (yard_before.f k n a b).bind fun bt369 => ((yard_found.f bt369.1 bt369.2.1 bt369.2.2).bind fun bt372 => (some (bt372.1, bt372.2.1, bt372.2.2)))) (fun k => ?_) (Ev.bind hbe (Ev.to (Ev.now _) rfl))
  simp only [yard_Before.j0]
  rw [if_neg (by decide)]
end Go.Proofs.Ythjodhmkmjabbaa.PY
