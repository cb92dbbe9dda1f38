import Derived.Test.YthjodhmkmjabbaaPYx13
import Derived.Test.YthjodhmkmjabbaaB2
import Derived.Test.YthjodhmkmjabbaaB3
namespace Go.Proofs.Ythjodhmkmjabbaa.Pure
open Go.RowKit Go.Proofs.Ythjodhmkmjabbaa.PY Go.Proofs.YthjodhmkmjabbaaW.PrintWords Go.Proofs.YthjodhmkmjabbaaW.PrintLast

theorem simple_awake : Ev (fun k => (galloonlaw03_awake.f k).bind fun t => some t) true := Ev.bind awake_ev (Ev.now _)
theorem refLess_ok {a b c d : Int} (h : okF a b = true) (h' : okF c d = true) : galloonref03_Less.f a b c d = some (decide (a * d < c * b)) := by
  obtain ⟨w1, w2⟩ := less_ok h h'
  simp only [galloonref03_Less.f, w1, w2]
/-- The simplest fraction is in lowest terms. -/
theorem simp_okF {a b c d p q : Int} (h : okF a b = true) (h' : okF c d = true) (hs : Simp a b c d p q) (hq : q ≤ 1000000) : okF p q = true := by
  obtain ⟨h1, h2, h3, h4, h5⟩ := okF_iff.1 h
  obtain ⟨g1, g2, g3, g4, g5⟩ := okF_iff.1 h'
  have q1 := hs.q1
  have p1 := hs.p1
  have hlt : p * d < q * d := by
    have := hs.hi
    have h6 : c * q ≤ d * q := Int.mul_le_mul_of_nonneg_right g4 (by omega)
    have h7 : d * q = q * d := Int.mul_comm ..
    omega
  have hpq : p < q := Int.lt_of_mul_lt_mul_right hlt (by omega)
  refine okF_iff.2 ⟨q1, hq, by omega, by omega, ?_⟩
  have hp : 0 < Int.gcd p q := Int.gcd_pos_of_ne_zero_right _ (by omega)
  obtain ⟨g, hge⟩ : ∃ g, g = Int.gcd p q := ⟨_, rfl⟩
  obtain ⟨x, hx⟩ : (g : Int) ∣ p := by rw [hge]; exact Int.gcd_dvd_left ..
  obtain ⟨y, hy⟩ : (g : Int) ∣ q := by rw [hge]; exact Int.gcd_dvd_right ..
  have hgp : (0 : Int) < g := by omega
  have hy0 : 0 < y := Int.pos_of_mul_pos_right (show 0 < (g : Int) * y by omega) (by omega)
  have hx0 : 0 < x := Int.pos_of_mul_pos_right (show 0 < (g : Int) * x by omega) (by omega)
  have l1 : a * y < x * b := by
    have := hs.lo
    refine Int.lt_of_mul_lt_mul_left (a := (g : Int)) ?_ (by omega)
    rw [hx, hy] at this
    grind
  have l2 : x * d < c * y := by
    have := hs.hi
    refine Int.lt_of_mul_lt_mul_left (a := (g : Int)) ?_ (by omega)
    rw [hx, hy] at this
    grind
  have := (hs.least x y (by omega) l1 l2).1
  have hgx : (g : Int) * x ≤ 1 * x := by omega
  have := Int.le_of_mul_le_mul_right hgx hx0
  omega
/-- The law's own part, for two fractions in order and a third. -/
theorem simple_j0 {a b c d e f : Int} (h : okF a b = true) (h' : okF c d = true) (h'' : okF e f = true) (hle : a * d ≤ c * b) : Ev (fun k => galloonlaw03_YardSimple.j0 k a b c d e f) true := by
  obtain ⟨f1, f2, f3, f4, f5⟩ := okF_iff.1 h''
  obtain ⟨b1, b2, b3, b4, b5⟩ := okF_iff.1 h
  obtain ⟨d1, d2, d3, d4, d5⟩ := okF_iff.1 h'
  -- the third between
  obtain ⟨x, hxe⟩ : ∃ x : Bool, x = (decide (a * f < e * b) && decide (e * d < c * f)) := ⟨_, rfl⟩
  have hbet : x = true → a * f < e * b ∧ e * d < c * f := by rw [hxe]; simp
  have key : ∀ r : Int × Int × Int, Ev (fun k => yard_Between.f k a b c d) r → Ev (fun k => galloonlaw03_YardSimple.j1 k r.2.2 x a b c d e f r.1 r.2.1) true → Ev (fun k => galloonlaw03_YardSimple.j0 k a b c d e f) true := by
    intro r h1 h2
    refine Ev.step (f := fun k => (yard_Between.f k a b c d).bind fun r => galloonlaw03_YardSimple.j1 k r.2.2 x a b c d e f r.1 r.2.1) (fun k => ?_) (Ev.bind h1 h2)
    show galloonlaw03_YardSimple.j0 (k + 1) a b c d e f = _
    simp only [galloonlaw03_YardSimple.j0, refLess_ok h h'', refLess_ok h'' h', Option.bind_some]
    rw [hxe]
    by_cases hh : a * f < e * b
    · simp [hh]
    · simp [hh]
  by_cases hlt : a * d < c * b
  · obtain ⟨p, q, hs, _, hy⟩ := between_ok h h' hlt
    refine key _ hy ?_
    by_cases hq : q ≤ 1000000
    · have hpq := simp_okF h h' hs hq
      simp only [if_pos hq]
      have hv := valid_ev p q
      rw [hpq] at hv
      refine Ev.step (f := fun k => (galloonref03_Valid.f k p q).bind fun t => if t = true then (galloonlaw03_awake.f k).bind fun t => some t else some false) (fun k => ?_) (Ev.bind hv (Ev.ite_true rfl simple_awake))
      show galloonlaw03_YardSimple.j1 (k + 1) _ _ _ _ _ _ _ _ _ _ = _
      simp only [galloonlaw03_YardSimple.j1, if_true]
      congr 1
      funext t
      cases t with
      | false => simp
      | true =>
        simp only [if_true, refLess_ok h hpq, refLess_ok hpq h', Option.bind_some, hs.lo, hs.hi, decide_true]
        by_cases hx : x = true
        · have hb := hbet hx
          have hl := hs.least e f f1 hb.1 hb.2
          have : galloonref03_Simpler.f e f p q = some false := by
            simp only [galloonref03_Simpler.f]
            rw [if_neg (by omega)]
            split
            · rw [decide_eq_false (by omega)]
            · rfl
          simp [hx, this]
        · simp [hx]
    · simp only [if_neg hq]
      refine Ev.step (f := fun k => (galloonlaw03_awake.f k).bind fun t => some t) (fun k => ?_) simple_awake
      have hx : x = false := by
        cases hx : x with
        | false => rfl
        | true =>
          have hb := hbet hx
          have hl := hs.least e f f1 hb.1 hb.2
          omega
      have hne : (!(a == c) || (!(b == d))) = true := by
        cases hac : a == c with
        | false => rfl
        | true =>
          cases hbd : b == d with
          | false => rfl
          | true =>
            have e1 := eq_of_beq hac
            have e2 := eq_of_beq hbd
            subst e1 e2
            omega
      simp [galloonlaw03_YardSimple.j1, hx, hne]
  · refine key _ (between_no (.inr (.inr hlt))) ?_
    obtain ⟨rfl, rfl⟩ := okF_inj h h' (by omega)
    have hx : x = false := by
      cases hx : x with
      | false => rfl
      | true =>
        have hb := hbet hx
        omega
    refine Ev.step (f := fun k => (galloonlaw03_awake.f k).bind fun t => some t) (fun k => ?_) simple_awake
    simp [galloonlaw03_YardSimple.j1, hx]
theorem YardSimple : galloonlaw03_YardSimple.Pure := by
  intro a b c d e f _ _ _ _ _ _
  refine Ev.rounds (?_ : Ev (fun k => galloonlaw03_YardSimple.f k a b c d e f) true)
  obtain ⟨a1, b1, h1, h1', _⟩ := tame_ev a b 1000000 (by omega) (by omega)
  obtain ⟨c1, d1, h2, h2', _⟩ := tame_ev c d 1000000 (by omega) (by omega)
  obtain ⟨e1, f1, h3, h3', _⟩ := tame_ev e f 1000000 (by omega) (by omega)
  refine Ev.bind h1 (Ev.bind h2 (Ev.bind h3 ?_))
  simp only [refLess_ok h2' h1', Option.bind_some]
  by_cases hlt : c1 * b1 < a1 * d1
  · exact Ev.ite_true (by simpa using hlt) (simple_j0 h2' h1' h3' (by omega))
  · exact Ev.ite_false (by simpa using hlt) (simple_j0 h1' h2' h3' (by omega))

end Go.Proofs.Ythjodhmkmjabbaa.Pure
