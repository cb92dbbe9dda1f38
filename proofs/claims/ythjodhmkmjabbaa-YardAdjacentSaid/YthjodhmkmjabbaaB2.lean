import Derived.Test.YthjodhmkmjabbaaB1
import Derived.Test.YthjodhmkmjabbaaPYx14
/-! The simplest fraction between two. -/
namespace Go.Proofs.Ythjodhmkmjabbaa.PY
open Go.RowKit Go.Proofs.YthjodhmkmjabbaaW.PrintWords Go.Proofs.YthjodhmkmjabbaaW.PrintLast

/-- p/q lies strictly between a/b and c/d, and no x/y between them has a smaller part. -/
structure Simp (a b c d p q : Int) : Prop where
  q1 : 1 ≤ q
  p1 : 1 ≤ p
  lo : a * q < p * b
  hi : p * d < c * q
  pm : p ≤ a + c
  qm : q ≤ b + d
  least : ∀ x y, 1 ≤ y → a * y < x * b → x * d < c * y → p ≤ x ∧ q ≤ y

theorem simp_base {a b c d f r : Int} (hb : 0 < b) (hf : 0 ≤ f) (hr0 : 0 ≤ r) (hr : r < b) (ha : a = f * b + r) (hd : 0 ≤ d) (hc : 0 < c) (h : (f + 1) * d < c) : Simp a b c d (f + 1) 1 := by
  have h1 : f * 1 ≤ f * b := Int.mul_le_mul_of_nonneg_left (by omega) hf
  refine ⟨by omega, by omega, by subst ha; grind, by omega, by omega, by omega, fun x y hy hx hx2 => ?_⟩
  have h2 : 0 ≤ r * y := Int.mul_nonneg hr0 (by omega)
  have h3 : (f * y) * b < x * b := by subst ha; grind
  have h4 : f * y < x := Int.lt_of_mul_lt_mul_right h3 (by omega)
  have h5 : f * 1 ≤ f * y := Int.mul_le_mul_of_nonneg_left hy hf
  omega
theorem simp_up {a b c d f a' c' p q : Int} (hb : 0 < b) (hf : 0 ≤ f) (hr0 : 0 ≤ a') (ha : a = f * b + a') (hc : c = f * d + c') (H : Simp d c' b a' p q) : Simp a b c d (q + f * p) p := by
  obtain ⟨q1, p1, lo, hi, pm, qm, least⟩ := H
  have hfp : 0 ≤ f * p := Int.mul_nonneg hf (by omega)
  refine ⟨by omega, by omega, by subst ha; grind, by subst hc; grind, ?_, by omega, fun x y hy hx hx2 => ?_⟩
  · have : f * p ≤ f * (d + b) := Int.mul_le_mul_of_nonneg_left pm hf
    grind
  · have h2 : 0 ≤ a' * y := Int.mul_nonneg hr0 (by omega)
    have h3 : (f * y) * b < x * b := by subst ha; grind
    have h4 : f * y < x := Int.lt_of_mul_lt_mul_right h3 (by omega)
    have h5 := least y (x - f * y) (by omega) (by subst hc; grind) (by subst ha; grind)
    refine ⟨?_, h5.1⟩
    have : f * p ≤ f * y := Int.mul_le_mul_of_nonneg_left h5.1 hf
    omega
/-- The two sides' walks to the simplest fraction. -/
theorem simplest_ev : ∀ (n : Nat) (a b c d : Int), b + d ≤ n → 0 < b → 0 ≤ a → 0 < c → 0 ≤ d → a * d < c * b → a ≤ 2000000 → b ≤ 1000000 → c ≤ 1000000 → d ≤ 1000000 →
    ∃ p q, Simp a b c d p q ∧ Ev (fun k => yard_simplest.f k a b c d) (p, q) ∧ (0 < d → Ev (fun k => galloonref03_Between.f k a b c d) (p, q))
  | 0, a, b, c, d, hn, hb, _, _, hd, _, _, _, _, _ => by omega
  | n + 1, a, b, c, d, hn, hb, ha, hc, hd, hlt, ma, mb, mc, md => by
    have hdm := Int.mul_ediv_add_emod a b
    have hr0 := Int.emod_nonneg a (show b ≠ 0 by omega)
    have hr := Int.emod_lt_of_pos a hb
    have hf : 0 ≤ a / b := Int.ediv_nonneg ha (by omega)
    have htd : Int.tdiv a b = a / b := Int.tdiv_eq_ediv_of_nonneg ha
    obtain ⟨f, hfe⟩ : ∃ f, f = a / b := ⟨_, rfl⟩
    obtain ⟨r, hre⟩ : ∃ r, r = a % b := ⟨_, rfl⟩
    rw [← hfe, ← hre] at hdm
    rw [← hre] at hr0 hr
    rw [← hfe] at hf htd
    clear hfe hre
    have hae : a = f * b + r := by grind
    have hfb : f * 1 ≤ f * b := Int.mul_le_mul_of_nonneg_left (by omega) hf
    have hfa : f ≤ a := by omega
    have hfd : f * d ≤ f * 1000000 := Int.mul_le_mul_of_nonneg_left md hf
    have hfd0 : 0 ≤ f * d := Int.mul_nonneg hf hd
    have hfd1 : (f + 1) * d = f * d + d := by grind
    have w1 : wrap64 f = f := w64 (by omega)
    have w2 : wrap64 (f + 1) = f + 1 := w64 (by omega)
    have w3 : wrap64 ((f + 1) * d) = (f + 1) * d := w64 (by omega)
    have w4 : wrap64 (f * d) = f * d := w64 (by omega)
    have w5 : wrap64 (f * b) = f * b := w64 (by omega)
    have w6 : wrap64 (a - f * b) = r := by rw [w64 (by omega)]; omega
    have w7 : wrap64 (c - f * d) = c - f * d := w64 (by omega)
    by_cases hcase : (f + 1) * d < c
    · refine ⟨f + 1, 1, simp_base hb hf hr0 hr hae hd hc hcase, ?_, fun _ => ?_⟩
      · refine Ev.step (f := fun _ => some (f + 1, 1)) (fun k => ?_) (Ev.now _)
        simp only [yard_simplest.f, htd, w1, w2, w3]
        rw [if_neg (by omega), if_pos hcase]
      · refine Ev.step (f := fun _ => some (f + 1, 1)) (fun k => ?_) (Ev.now _)
        simp only [galloonref03_Between.f, htd, w1, w2, w3]
        rw [if_neg (by omega), if_pos hcase]
    · have hd0 : 0 < d := by
        rcases Int.lt_or_eq_of_le hd with h | h
        · exact h
        · subst h; simp at hcase; omega
      -- c - f d is positive
      have hc' : 0 < c - f * d := by
        have h2 : 0 ≤ r * d := Int.mul_nonneg hr0 hd
        have h3 : (f * d) * b < c * b := by subst hae; grind
        have := Int.lt_of_mul_lt_mul_right h3 (by omega)
        omega
      have hstep : d * r < b * (c - f * d) := by subst hae; grind
      obtain ⟨p, q, hs, hy, hrf⟩ := simplest_ev n d (c - f * d) b r (by omega) hc' hd hb hr0 hstep (by omega) (by omega) mb (by omega)
      have hup := simp_up hb hf hr0 hae (show c = f * d + (c - f * d) by omega) hs
      have hfp : 0 ≤ f * p := Int.mul_nonneg hf (by have := hs.p1; omega)
      have hpm := hup.pm
      have hq1 := hs.q1
      have w8 : wrap64 (f * p) = f * p := w64 (by omega)
      have w9 : wrap64 (q + f * p) = q + f * p := w64 (by omega)
      refine ⟨q + f * p, p, hup, ?_, fun _ => ?_⟩
      · refine Ev.step (f := fun k => (yard_simplest.f k d (c - f * d) b r).bind fun x => some (wrap64 (x.2 + wrap64 (f * x.1)), x.1)) (fun k => ?_) (Ev.bind hy (Ev.to (Ev.now _) (by simp only [w8, w9])))
        simp only [yard_simplest.f, htd, w1, w2, w3, w4, w5, w6, w7]
        rw [if_neg (by omega), if_neg hcase]
      · by_cases hr1 : r = 0
        · -- closed at once
          obtain ⟨t, hte⟩ : ∃ t, t = d / (c - f * d) := ⟨_, rfl⟩
          have ht0 : 0 ≤ t := by rw [hte]; exact Int.ediv_nonneg hd (by omega)
          have htl : t ≤ d := by rw [hte]; exact Int.ediv_le_self _ hd
          have htt : Int.tdiv d (c - f * d) = t := by rw [hte]; exact Int.tdiv_eq_ediv_of_nonneg hd
          have hpq : p = t + 1 ∧ q = 1 := by
            have h1 : Ev (fun k => yard_simplest.f k d (c - f * d) b r) (t + 1, 1) := by
              refine Ev.step (f := fun _ => some (t + 1, 1)) (fun k => ?_) (Ev.now _)
              simp only [yard_simplest.f, htt]
              rw [w64 (n := t) (by omega), w64 (n := t + 1) (by omega), if_neg (by omega), if_pos (by rw [hr1]; simpa [wrap64] using hb)]
            obtain ⟨K1, h1⟩ := h1
            obtain ⟨K2, h2⟩ := hy
            have := (h1 (K1 + K2) (by omega)).symm.trans (h2 (K1 + K2) (by omega))
            simp at this
            omega
          obtain ⟨rfl, rfl⟩ := hpq
          refine Ev.step (f := fun _ => some (1 + f * (t + 1), t + 1)) (fun k => ?_) (Ev.now _)
          simp only [galloonref03_Between.f, htd, w1, w2, w3, w4, w5, w6, w7, htt]
          rw [if_neg (by omega), if_neg hcase, if_pos hr1, if_neg (by omega), w64 (n := t) (by omega), w64 (n := t + 1) (by omega), w8, w64 (by omega)]
          rw [Int.add_comm (f * (t + 1)) 1]
        · refine Ev.step (f := fun k => (galloonref03_Between.f k d (c - f * d) b r).bind fun x => some (wrap64 (wrap64 (f * x.1) + x.2), x.1)) (fun k => ?_) (Ev.bind (hrf (by omega)) (Ev.to (Ev.now _) ?_))
          · simp only [galloonref03_Between.f, htd, w1, w2, w3, w4, w5, w6, w7]
            rw [if_neg (by omega), if_neg hcase, if_neg hr1]
          · simp only [w8]
            rw [Int.add_comm (f * p) q, w9]
/-- Between, as the yard tells it. -/
theorem less_ok {a b c d : Int} (h : okF a b = true) (h' : okF c d = true) : wrap64 (a * d) = a * d ∧ wrap64 (c * b) = c * b := by
  obtain ⟨h1, h2, h3, h4, _⟩ := okF_iff.1 h
  obtain ⟨g1, g2, g3, g4, _⟩ := okF_iff.1 h'
  have m1 : a * d ≤ 1000000 * 1000000 := Int.mul_le_mul (by omega) g2 (by omega) (by omega)
  have m2 : c * b ≤ 1000000 * 1000000 := Int.mul_le_mul (by omega) h2 (by omega) (by omega)
  have m3 : 0 ≤ a * d := Int.mul_nonneg h3 (by omega)
  have m4 : 0 ≤ c * b := Int.mul_nonneg g3 (by omega)
  exact ⟨w64 (by omega), w64 (by omega)⟩
theorem between_ok {a b c d : Int} (h : okF a b = true) (h' : okF c d = true) (hlt : a * d < c * b) : ∃ p q, Simp a b c d p q ∧ Ev (fun k => galloonref03_Between.f k a b c d) (p, q) ∧ Ev (fun k => yard_Between.f k a b c d) (if q ≤ 1000000 then (p, q, 0) else (0, 0, 6)) := by
  obtain ⟨h1, h2, h3, h4, _⟩ := okF_iff.1 h
  obtain ⟨g1, g2, g3, g4, _⟩ := okF_iff.1 h'
  have hc : 0 < c := by
    rcases Int.lt_or_eq_of_le g3 with hh | hh
    · exact hh
    · subst hh
      have := Int.mul_nonneg h3 (show 0 ≤ d by omega)
      omega
  obtain ⟨p, q, hs, hy, hr⟩ := simplest_ev (b + d).toNat a b c d (by omega) (by omega) h3 hc (by omega) hlt (by omega) h2 (by omega) g2
  refine ⟨p, q, hs, hr (by omega), ?_⟩
  have e1 := isFrac_ev a b
  have e2 := isFrac_ev c d
  rw [h] at e1
  rw [h'] at e2
  obtain ⟨w1, w2⟩ := less_ok h h'
  refine Ev.bind e1 (Ev.ite_true rfl (Ev.bind e2 (Ev.ite_true rfl ?_)))
  simp only [yard_less.f, Option.bind_some, w1, w2]
  refine Ev.ite_true (by simpa using hlt) (Ev.bind hy ?_)
  by_cases hq : q ≤ 1000000
  · simp only [if_pos hq]; exact Ev.now _
  · simp only [if_neg hq]; exact Ev.now _
theorem between_no {a b c d : Int} (h : okF a b = false ∨ okF c d = false ∨ ¬ a * d < c * b) : Ev (fun k => yard_Between.f k a b c d) (0, 0, 2) := by
  refine Ev.bind (isFrac_ev a b) ?_
  by_cases h1 : okF a b = true
  · refine Ev.ite_true h1 (Ev.bind (isFrac_ev c d) ?_)
    by_cases h2 : okF c d = true
    · refine Ev.ite_true h2 ?_
      obtain ⟨w1, w2⟩ := less_ok h1 h2
      simp only [yard_less.f, Option.bind_some, w1, w2]
      refine Ev.ite_false ?_ (Ev.now _)
      rcases h with h | h | h
      · rw [h1] at h; cases h
      · rw [h2] at h; cases h
      · simpa using h
    · exact Ev.ite_false h2 (Ev.now _)
  · exact Ev.ite_false h1 (Ev.now _)
end Go.Proofs.Ythjodhmkmjabbaa.PY
