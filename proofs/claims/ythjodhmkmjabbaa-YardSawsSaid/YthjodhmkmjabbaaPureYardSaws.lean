import Derived.Test.YthjodhmkmjabbaaPYx11
import Derived.Test.YthjodhmkmjabbaaB11
namespace Go.Proofs.Ythjodhmkmjabbaa.Pure
open Go.RowKit Go.Proofs.Ythjodhmkmjabbaa.PY Go.Proofs.YthjodhmkmjabbaaW.PrintWords Go.Proofs.YthjodhmkmjabbaaW.PrintLast

theorem saws_awake : Ev (fun k => (galloonlaw03_awake.f k).bind fun t => some t) true := Ev.bind awake_ev (Ev.now _)
/-- The saw's sum in lowest terms. -/
def sG (a b : Nat) : Int := Int.gcd (saw a b) (4 * b * b)
def sN (a b : Nat) : Int := saw a b / sG a b
def sD (a b : Nat) : Int := (4 * b * b) / sG a b
theorem sG_pos {a b : Nat} (hb : 0 < b) : 0 < sG a b := by
  have : (0 : Int) < 4 * b * b := by rw [Int.mul_assoc]; have := Int.mul_pos (show (0 : Int) < b by omega) (show (0 : Int) < b by omega); omega
  have := Int.gcd_pos_of_ne_zero_right (saw a b) (show (4 * b * b : Int) ≠ 0 by omega)
  simp only [sG]
  omega
theorem sN_eq (a b : Nat) : saw a b = sG a b * sN a b := (Int.mul_ediv_cancel' (Int.gcd_dvd_left ..)).symm
theorem sD_eq (a b : Nat) : (4 * b * b : Int) = sG a b * sD a b := (Int.mul_ediv_cancel' (Int.gcd_dvd_right ..)).symm
theorem sD_pos {a b : Nat} (hb : 0 < b) : 1 ≤ sD a b := by
  have h1 := sD_eq a b
  have h2 := sG_pos (a := a) hb
  have : (0 : Int) < 4 * b * b := by rw [Int.mul_assoc]; have := Int.mul_pos (show (0 : Int) < b by omega) (show (0 : Int) < b by omega); omega
  rw [h1] at this
  have := Int.pos_of_mul_pos_right this (by omega)
  omega
theorem sD_le {a b : Nat} (hb : 0 < b) : sD a b ≤ 4 * b * b := by
  have h1 := sD_eq a b
  have h2 := sG_pos (a := a) hb
  have h3 := sD_pos (a := a) hb
  have : 1 * sD a b ≤ sG a b * sD a b := Int.mul_le_mul_of_nonneg_right (by omega) (by omega)
  omega
theorem sD_dvd {a b : Nat} (hb : 0 < b) (hg : Nat.gcd a b = 1) : sD a b ∣ 6 * (b : Int) := by
  have h1 := sD_eq a b
  have h2 := sG_pos (a := a) hb
  have hd := saw_dvd hb hg
  have e : ((6 * b : Int).natAbs : Int) = 6 * b := by omega
  have k : (4 * b * b : Int) ∣ 6 * b * sG a b := by
    have hgm : (6 * b : Int) * sG a b = ((Int.gcd (6 * b * saw a b) (6 * b * (4 * b * b)) : Nat) : Int) := by
      rw [Int.gcd_mul_left, Int.natCast_mul, e]
      rfl
    rw [hgm]
    refine Int.dvd_coe_gcd ?_ ?_
    · obtain ⟨t, ht⟩ := hd
      exact ⟨t, by grind⟩
    · exact ⟨6 * b, by grind⟩
  rw [h1, Int.mul_comm (6 * (b : Int))] at k
  exact Int.dvd_of_mul_dvd_mul_left (by omega) k
theorem sN_le {a b : Nat} (hb : 0 < b) (hg : Nat.gcd a b = 1) : sN a b ≤ b * b ∧ -((b : Int) * b) ≤ sN a b := by
  obtain ⟨u1, u2⟩ := saw_le hb hg
  have h1 := sD_eq a b
  have h2 := sN_eq a b
  have h3 := sD_pos (a := a) hb
  have h4 := Int.le_of_dvd (by omega) (sD_dvd hb hg)
  obtain ⟨B, hB⟩ : ∃ B, B = (b : Int) := ⟨_, rfl⟩
  obtain ⟨S, hS⟩ : ∃ S, S = saw a b := ⟨_, rfl⟩
  obtain ⟨g, hgg⟩ : ∃ g, g = sG a b := ⟨_, rfl⟩
  obtain ⟨n, hn⟩ : ∃ n, n = sN a b := ⟨_, rfl⟩
  obtain ⟨d, hd⟩ : ∃ d, d = sD a b := ⟨_, rfl⟩
  rw [← hB, ← hS] at u1 u2
  rw [← hB, ← hgg, ← hd] at h1
  rw [← hS, ← hgg, ← hn] at h2
  rw [← hd] at h3 h4
  rw [← hB] at h4
  rw [← hB, ← hn]
  have hB1 : 1 ≤ B := by omega
  clear hB hS hgg hn hd hg
  have hW : 0 ≤ B * (B - 1) * (B - 2) := by
    rcases Int.lt_or_le B 2 with h | h
    · rw [show B = 1 by omega]; decide
    · exact Int.mul_nonneg (Int.mul_nonneg (by omega) (by omega)) (by omega)
  have key : ∀ m T : Int, T = g * m → 3 * T ≤ B * (B - 1) * (B - 2) → m ≤ B * B := by
    intro m T hT hu
    have e1 : (3 * T) * d = 3 * m * (4 * B * B) := by rw [h1, hT]; grind
    have e2 : (3 * T) * d ≤ (B * (B - 1) * (B - 2)) * d := Int.mul_le_mul_of_nonneg_right hu (by omega)
    have e3 : (B * (B - 1) * (B - 2)) * d ≤ (B * (B - 1) * (B - 2)) * (6 * B) := Int.mul_le_mul_of_nonneg_left h4 hW
    have e4 : (2 * m) * (6 * (B * B)) ≤ ((B - 1) * (B - 2)) * (6 * (B * B)) := by grind
    have hBB : 0 < B * B := Int.mul_pos (by omega) (by omega)
    have e5 := Int.le_of_mul_le_mul_right e4 (by omega)
    have e6 : (B - 1) * (B - 2) = B * B - 3 * B + 2 := by grind
    omega
  refine ⟨key n S h2 u1, ?_⟩
  have := key (-n) (-S) (by rw [h2]; grind) (by omega)
  omega
theorem sND_gcd {a b : Nat} (hb : 0 < b) : Int.gcd (sN a b) (sD a b) = 1 := by
  have h2 := sG_pos (a := a) hb
  have h : Int.gcd (sG a b * sN a b) (sG a b * sD a b) = (sG a b).natAbs * Int.gcd (sN a b) (sD a b) := Int.gcd_mul_left ..
  rw [← sN_eq, ← sD_eq] at h
  have e : (sG a b).natAbs = Int.gcd (saw a b) (4 * b * b) := by simp [sG]
  rw [e] at h
  have hp : 0 < Int.gcd (saw a b) (4 * b * b) := by rw [← e]; omega
  exact Nat.eq_of_mul_eq_mul_left hp (h.symm.trans (Nat.mul_one _).symm)
theorem partial_le {a b : Nat} (hb : 0 < b) (hbm : b ≤ 1000) : ∀ i, i ≤ b - 1 → -(1000000 * (i : Int)) ≤ sumI (fun j => term a b (j + 1)) i ∧ sumI (fun j => term a b (j + 1)) i ≤ 1000000 * i
  | 0, _ => by simp [sumI]
  | i + 1, h => by
    have ih := partial_le (a := a) hb hbm i (by omega)
    have hr := Nat.mod_lt (a * (i + 1)) hb
    have t1 : -(b : Int) ≤ 2 * ((i + 1 : Nat) : Int) - b ∧ 2 * ((i + 1 : Nat) : Int) - b ≤ b := by omega
    have t2 : -(b : Int) ≤ 2 * rI a b (i + 1) - b ∧ 2 * rI a b (i + 1) - b ≤ b := by simp only [rI]; omega
    have t3 : -(1000000 : Int) ≤ term a b (i + 1) ∧ term a b (i + 1) ≤ 1000000 := by
      simp only [term]
      obtain ⟨x, hx⟩ : ∃ x, x = 2 * ((i + 1 : Nat) : Int) - b := ⟨_, rfl⟩
      obtain ⟨y, hy⟩ : ∃ y, y = 2 * rI a b (i + 1) - b := ⟨_, rfl⟩
      rw [← hx] at t1 ⊢
      rw [← hy] at t2 ⊢
      have p1 : 0 ≤ (1000 - x) * (1000 + y) := Int.mul_nonneg (by omega) (by omega)
      have p2 : 0 ≤ (1000 + x) * (1000 - y) := Int.mul_nonneg (by omega) (by omega)
      have p3 : 0 ≤ (1000 - x) * (1000 - y) := Int.mul_nonneg (by omega) (by omega)
      have p4 : 0 ≤ (1000 + x) * (1000 + y) := Int.mul_nonneg (by omega) (by omega)
      constructor <;> grind
    simp only [sumI]
    omega
theorem saw_loop {a b : Nat} (hb : 0 < b) (hab : a ≤ b) (hbm : b ≤ 1000) : ∀ (s i : Nat), i + s = b - 1 →
    Ev (fun k => yard_Saw.l0 k b (sumI (fun j => term a b (j + 1)) i) ((i + 1 : Nat) : Int) a b) (sN a b, sD a b, 0) := by
  intro s
  induction s with
  | zero =>
    intro i hi
    have hi' : i = b - 1 := by omega
    subst hi'
    rw [show sumI (fun j => term a b (j + 1)) (b - 1) = saw a b from rfl]
    have hp := partial_le (a := a) hb hbm (b - 1) (by omega)
    rw [show sumI (fun j => term a b (j + 1)) (b - 1) = saw a b from rfl] at hp
    have hBB : (b : Int) * b ≤ 1000 * 1000 := Int.mul_le_mul (by omega) (by omega) (by omega) (by omega)
    have hBB0 : 0 < (b : Int) * b := Int.mul_pos (by omega) (by omega)
    have hw : wrap64 (wrap64 (4 * (b : Int)) * b) = 4 * b * b := by
      rw [w64 (n := 4 * (b : Int)) (by omega), w64 (by rw [Int.mul_assoc]; omega)]
    have hmx : mx (saw a b) (wrap64 (-saw a b)) = ((saw a b).natAbs : Int) := by
      rw [w64 (by omega)]
      unfold mx
      split <;> omega
    have hgc : ((Int.gcd ((saw a b).natAbs : Int) (4 * b * b) : Nat) : Int) = sG a b := by simp [sG, Int.gcd]
    have hg := gcd_ev (x := ((saw a b).natAbs : Int)) (y := 4 * b * b) (by omega) (by rw [Int.mul_assoc]; omega)
    rw [hgc] at hg
    have hgp := sG_pos (a := a) hb
    have hDp := sD_pos (a := a) hb
    have hDl := sD_le (a := a) hb
    have hDl2 : sD a b ≤ 4000000 := by rw [Int.mul_assoc] at hDl; omega
    have htd : Int.tdiv (saw a b) (sG a b) = sN a b := by
      conv => lhs; rw [sN_eq a b]
      exact Int.mul_tdiv_cancel_left _ (by omega)
    have htd2 : Int.tdiv (4 * b * b) (sG a b) = sD a b := by
      conv => lhs; rw [sD_eq a b]
      exact Int.mul_tdiv_cancel_left _ (by omega)
    have hNr : -(1000000000 : Int) ≤ sN a b ∧ sN a b ≤ 1000000000 := by
      have e := sN_eq a b
      have hp2 : -(1000000000 : Int) ≤ saw a b ∧ saw a b ≤ 1000000000 := by omega
      rcases Int.le_total 0 (sN a b) with h | h
      · have : 1 * sN a b ≤ sG a b * sN a b := Int.mul_le_mul_of_nonneg_right (by omega) h
        omega
      · have : 1 * (-sN a b) ≤ sG a b * (-sN a b) := Int.mul_le_mul_of_nonneg_right (by omega) (by omega)
        rw [Int.mul_neg (sG a b), ← e] at this
        omega
    refine Ev.step (f := fun k => (yard_gcd.f k ((saw a b).natAbs : Int) (4 * b * b)).bind fun t114 => (if t114 = 0 then (none) else (some (wrap64 (Int.tdiv (saw a b) t114), wrap64 (Int.tdiv (wrap64 ((wrap64 (4 * (b : Int))) * b)) t114), 0)))) (fun k => ?_) (Ev.bind hg (Ev.ite_false (by omega) (Ev.to (Ev.now _) ?_)))
    · simp only [yard_Saw.l0]
      rw [if_neg (by omega), hmx, hw]
    · rw [hw, htd, htd2, w64 (by omega), w64 (by omega)]
  | succ s ih =>
    intro i hi
    have hi2 := ih (i + 1) (by omega)
    have hp := partial_le (a := a) hb hbm i (by omega)
    have hp2 := partial_le (a := a) hb hbm (i + 1) (by omega)
    have hr := Nat.mod_lt (a * (i + 1)) hb
    have hai : (a : Int) * ((i + 1 : Nat) : Int) ≤ 1000 * 1000 := Int.mul_le_mul (by omega) (by omega) (by omega) (by omega)
    have hai0 : 0 ≤ (a : Int) * ((i + 1 : Nat) : Int) := Int.mul_nonneg (by omega) (by omega)
    have hrm : Int.tmod (wrap64 ((a : Int) * ((i + 1 : Nat) : Int))) b = rI a b (i + 1) := by
      rw [w64 (by omega), Int.tmod_eq_emod_of_nonneg hai0, ← Int.natCast_mul, ← Int.natCast_emod]
      simp only [rI]
    have hrr : 0 ≤ rI a b (i + 1) ∧ rI a b (i + 1) < b := by simp only [rI]; omega
    have hterm : wrap64 (wrap64 (wrap64 (2 * ((i + 1 : Nat) : Int)) - b) * wrap64 (wrap64 (2 * Int.tmod (wrap64 ((a : Int) * ((i + 1 : Nat) : Int))) b) - b)) = term a b (i + 1) := by
      rw [hrm, w64 (n := 2 * ((i + 1 : Nat) : Int)) (by omega), w64 (n := 2 * ((i + 1 : Nat) : Int) - b) (by omega), w64 (n := 2 * rI a b (i + 1)) (by omega), w64 (n := 2 * rI a b (i + 1) - b) (by omega)]
      simp only [sumI] at hp2
      have : term a b (i + 1) = (2 * ((i + 1 : Nat) : Int) - b) * (2 * rI a b (i + 1) - b) := rfl
      rw [← this, w64 (by omega)]
    have hsum : sumI (fun j => term a b (j + 1)) (i + 1) = sumI (fun j => term a b (j + 1)) i + term a b (i + 1) := rfl
    rw [hsum] at hi2 hp2
    obtain ⟨S, hS⟩ : ∃ S, S = sumI (fun j => term a b (j + 1)) i := ⟨_, rfl⟩
    obtain ⟨t, htt⟩ : ∃ t, t = term a b (i + 1) := ⟨_, rfl⟩
    rw [← hS] at hi2 hp2 ⊢
    rw [← htt] at hi2 hp2 hterm
    refine Ev.step (f := fun k => yard_Saw.l0 k b (S + t) ((i + 1 + 1 : Nat) : Int) a b) (fun k => ?_) hi2
    simp only [yard_Saw.l0]
    rw [if_pos (by omega), if_neg (by omega), hterm, w64 (n := S + t) (by omega), w64 (n := ((i + 1 : Nat) : Int) + 1) (by omega), show ((i + 1 : Nat) : Int) + 1 = ((i + 1 + 1 : Nat) : Int) by omega]
theorem saw_ev {a b : Nat} (h : okF a b = true) (hbm : b ≤ 1000) : Ev (fun k => yard_Saw.f k a b) (sN a b, sD a b, 0) := by
  obtain ⟨h1, h2, h3, h4, _⟩ := okF_iff.1 h
  have h0 := isFrac_ev a b
  rw [h] at h0
  refine Ev.bind h0 (Ev.ite_true rfl ?_)
  have h9 := saw_loop (a := a) (b := b) (by omega) (by omega) hbm (b - 1) 0 (by omega)
  rw [show sumI (fun j => term a b (j + 1)) 0 = 0 from rfl, show ((0 + 1 : Nat) : Int) = 1 from rfl] at h9
  refine Ev.step (f := fun k => yard_Saw.l0 k b 0 1 a b) (fun k => ?_) h9
  simp only [yard_Saw.j0]
  rw [if_neg (by simp; omega)]
theorem saw_mirror {a b : Nat} (hb : 0 < b) (hab : a ≤ b) (hg : Nat.gcd a b = 1) : saw (b - a) b = -saw a b := by
  have : saw (b - a) b = (-1) * saw a b := by
    rw [saw, saw, ← sumI_mul]
    refine sumI_congr (fun i hi => ?_)
    have hr := Nat.mod_lt (a * (i + 1)) hb
    have hr0 : 0 < a * (i + 1) % b := by
      rcases Nat.eq_zero_or_pos (a * (i + 1) % b) with h | h
      · exfalso
        have hd := Nat.dvd_of_mod_eq_zero h
        have hd2 : b ∣ i + 1 := (Nat.Coprime.symm hg).dvd_of_dvd_mul_left hd
        have := Nat.le_of_dvd (by omega) hd2
        omega
      · exact h
    have e : (b - a) * (i + 1) % b = b - a * (i + 1) % b := by
      have hdm := Nat.div_add_mod (a * (i + 1)) b
      have hle : a * (i + 1) ≤ b * (i + 1) := Nat.mul_le_mul_right _ hab
      have hq : a * (i + 1) / b < i + 1 := by
        rw [Nat.div_lt_iff_lt_mul hb]
        rcases Nat.lt_or_eq_of_le hab with h | h
        · rw [Nat.mul_comm (i + 1) b]; exact Nat.mul_lt_mul_of_pos_right h (by omega)
        · exfalso
          subst h
          rw [Nat.mul_mod_right] at hr0
          omega
      rw [Nat.sub_mul]
      obtain ⟨q, hqe⟩ : ∃ q, q = a * (i + 1) / b := ⟨_, rfl⟩
      obtain ⟨r, hre⟩ : ∃ r, r = a * (i + 1) % b := ⟨_, rfl⟩
      rw [← hqe] at hdm hq
      rw [← hre] at hdm hr hr0 ⊢
      have h5 : b * (i + 1) - a * (i + 1) = b * (i - q) + (b - r) := by
        have h6 : b * (i + 1) = b * (i - q) + b * q + b := by
          rw [← Nat.mul_add, show i - q + q = i by omega, Nat.mul_succ]
        omega
      rw [h5, Nat.mul_add_mod, Nat.mod_eq_of_lt (by omega)]
    simp only [term, rI]
    rw [e, Int.natCast_sub (by omega)]
    grind
  rw [this]; omega
theorem saw_mod {a b : Nat} : saw (b % a) a = saw b a := by
  rw [saw, saw]
  refine sumI_congr (fun i hi => ?_)
  simp only [term, rI]
  rw [Nat.mod_mul_mod]
theorem okF_nat {a b : Nat} : okF a b = true ↔ 1 ≤ b ∧ b ≤ 1000000 ∧ a ≤ b ∧ Nat.gcd a b = 1 := by
  rw [okF_iff]
  constructor
  · rintro ⟨h1, h2, h3, h4, h5⟩
    exact ⟨by omega, by omega, by omega, h5⟩
  · rintro ⟨h1, h2, h3, h4⟩
    exact ⟨by omega, by omega, by omega, by omega, h4⟩
/-- The law's last equation. -/
theorem saws_eq {a b : Nat} (ha : 0 < a) (hb : 0 < b) (hg : Nat.gcd a b = 1) {u v : Int} (hu : 12 * (b : Int) * a = sD a b * u) (hv : 12 * (b : Int) * a = sD b a * v) : u * sN a b + v * sN b a = (a : Int) * a + b * b + 1 - 3 * a * b := by
  have r := recip ha hb hg
  have n1 := sN_eq a b
  have d1 := sD_eq a b
  have n2 := sN_eq b a
  have d2 := sD_eq b a
  obtain ⟨A, hA⟩ : ∃ A, A = (a : Int) := ⟨_, rfl⟩
  obtain ⟨B, hB⟩ : ∃ B, B = (b : Int) := ⟨_, rfl⟩
  obtain ⟨S, hS⟩ : ∃ S, S = saw a b := ⟨_, rfl⟩
  obtain ⟨S', hS'⟩ : ∃ S', S' = saw b a := ⟨_, rfl⟩
  obtain ⟨g, hgg⟩ : ∃ g, g = sG a b := ⟨_, rfl⟩
  obtain ⟨g', hgg'⟩ : ∃ g', g' = sG b a := ⟨_, rfl⟩
  obtain ⟨n, hn⟩ : ∃ n, n = sN a b := ⟨_, rfl⟩
  obtain ⟨n', hn'⟩ : ∃ n', n' = sN b a := ⟨_, rfl⟩
  obtain ⟨d, hd⟩ : ∃ d, d = sD a b := ⟨_, rfl⟩
  obtain ⟨d', hd'⟩ : ∃ d', d' = sD b a := ⟨_, rfl⟩
  rw [← hA, ← hB, ← hS, ← hS'] at r
  rw [← hS, ← hgg, ← hn] at n1
  rw [← hS', ← hgg', ← hn'] at n2
  rw [← hB, ← hgg, ← hd] at d1
  rw [← hA, ← hgg', ← hd'] at d2
  rw [← hA, ← hB, ← hd] at hu
  rw [← hA, ← hB, ← hd'] at hv
  rw [← hn, ← hn', ← hA, ← hB]
  have hA0 : A ≠ 0 := by omega
  have hB0 : B ≠ 0 := by omega
  clear hA hB hS hS' hgg hgg' hn hn' hd hd' hg
  have t1 : (4 * B * B) * (u * n) = (12 * B * A) * S := by rw [d1, hu, n1]; grind
  have t2 : (4 * A * A) * (v * n') = (12 * B * A) * S' := by rw [d2, hv, n2]; grind
  have t3 : (4 * (A * A) * (B * B)) * (u * n + v * n') = (4 * (A * A) * (B * B)) * (A * A + B * B + 1 - 3 * A * B) := by
    have e1 : (4 * (A * A) * (B * B)) * (u * n + v * n') = (A * A) * ((4 * B * B) * (u * n)) + (B * B) * ((4 * A * A) * (v * n')) := by grind
    rw [e1, t1, t2]
    have e2 : A * A * (12 * B * A * S) + B * B * (12 * B * A * S') = (4 * A * B) * (3 * (A * A) * S + 3 * (B * B) * S') := by grind
    rw [e2, r]
    grind
  refine Int.eq_of_mul_eq_mul_left (a := 4 * (A * A) * (B * B)) ?_ t3
  exact Int.mul_ne_zero (Int.mul_ne_zero (by decide) (Int.mul_ne_zero hA0 hA0)) (Int.mul_ne_zero hB0 hB0)
theorem wneg {x : Int} (h1 : 0 ≤ x) (h2 : x ≤ 1000) (h3 : 0 ≤ x * x) (h4 : x * x ≤ 1000000) : wrap64 (wrap64 (-x) * x) = -(x * x) := by
  have e : wrap64 (-x) = -x := w64 (by omega)
  rw [e, show -x * x = -(x * x) from Int.neg_mul ..]
  exact w64 (by omega)
theorem wneg1 {x y : Int} (h1 : x ≤ y) (h2 : -y ≤ x) (h3 : y ≤ 1000000) : wrap64 (-x) = -x := w64 (by omega)
theorem mx_abs {x : Int} (h : wrap64 (-x) = -x) : mx x (wrap64 (-x)) = (x.natAbs : Int) := by
  rw [h]
  unfold mx
  split <;> omega
theorem div_bound {d u M : Int} (hd : 1 ≤ d) (h : M = d * u) (hM0 : 0 < M) (hM : M ≤ 12000000) : 0 ≤ u ∧ u ≤ 12000000 := by
  have h0 : 0 < d * u := by rw [← h]; exact hM0
  have h1 := Int.pos_of_mul_pos_right h0 (by omega)
  have h2 : 1 * u ≤ d * u := Int.mul_le_mul_of_nonneg_right hd (by omega)
  rw [← h] at h2
  omega
theorem mul_bound {u n : Int} (h0 : 0 ≤ u) (h1 : u ≤ 12000000) (h2 : n ≤ 1000000) (h3 : -1000000 ≤ n) : -12000000000000 ≤ u * n ∧ u * n ≤ 12000000000000 := by
  have e1 : 0 ≤ u * (1000000 - n) := Int.mul_nonneg h0 (by omega)
  have e2 : 0 ≤ u * (1000000 + n) := Int.mul_nonneg h0 (by omega)
  rw [Int.mul_sub] at e1
  rw [Int.mul_add] at e2
  omega
theorem r2_words {a b : Int} (ha : 0 ≤ a) (ha1 : a ≤ 1000) (hb : 0 ≤ b) (hb1 : b ≤ 1000) : wrap64 (wrap64 (wrap64 (wrap64 (a * a) + wrap64 (b * b)) + 1) - wrap64 (wrap64 (3 * a) * b)) = a * a + b * b + 1 - 3 * a * b := by
  have e3 : 3 * a * b = 3 * (a * b) := Int.mul_assoc ..
  have x1 : a * a ≤ 1000 * 1000 := Int.mul_le_mul ha1 ha1 ha (by omega)
  have y1 : b * b ≤ 1000 * 1000 := Int.mul_le_mul hb1 hb1 hb (by omega)
  have z1 : a * b ≤ 1000 * 1000 := Int.mul_le_mul ha1 hb1 hb (by omega)
  have x0 := Int.mul_nonneg ha ha
  have y0 := Int.mul_nonneg hb hb
  have z0 := Int.mul_nonneg ha hb
  have e4 : wrap64 (3 * a) = 3 * a := w64 (by omega)
  rw [e4, e3]
  generalize a * a = x at *
  generalize b * b = y at *
  generalize a * b = z at *
  have f1 : wrap64 x = x := w64 (by omega)
  have f2 : wrap64 y = y := w64 (by omega)
  rw [f1, f2]
  have f3 : wrap64 (x + y) = x + y := w64 (by omega)
  rw [f3]
  have f4 : wrap64 (x + y + 1) = x + y + 1 := w64 (by omega)
  rw [f4]
  have f5 : wrap64 (3 * z) = 3 * z := w64 (by omega)
  rw [f5]
  exact w64 (by omega)
theorem M_words {a b : Int} (ha : 0 ≤ a) (ha1 : a ≤ 1000) (hb : 0 ≤ b) (hb1 : b ≤ 1000) : wrap64 (wrap64 (12 * a) * b) = 12 * b * a := by
  have e : 12 * a * b = 12 * (a * b) := Int.mul_assoc ..
  have e' : 12 * b * a = 12 * (a * b) := by rw [Int.mul_assoc, Int.mul_comm b a]
  have z1 : a * b ≤ 1000 * 1000 := Int.mul_le_mul ha1 hb1 hb (by omega)
  have z0 := Int.mul_nonneg ha hb
  have e4 : wrap64 (12 * a) = 12 * a := w64 (by omega)
  rw [e4, e, e']
  generalize a * b = z at *
  exact w64 (by omega)
theorem fin_words {u v n n' R : Int} (hu0 : 0 ≤ u) (hu1 : u ≤ 12000000) (hv0 : 0 ≤ v) (hv1 : v ≤ 12000000) (hn1 : n ≤ 1000000) (hn2 : -1000000 ≤ n) (hm1 : n' ≤ 1000000) (hm2 : -1000000 ≤ n') (h : u * n + v * n' = R) : wrap64 (wrap64 (wrap64 u * n) + wrap64 (wrap64 v * n')) = R := by
  have b1 := mul_bound hu0 hu1 hn1 hn2
  have b2 := mul_bound hv0 hv1 hm1 hm2
  have f1 : wrap64 u = u := w64 (by omega)
  have f2 : wrap64 v = v := w64 (by omega)
  rw [f1, f2]
  generalize u * n = x at *
  generalize v * n' = y at *
  have f3 : wrap64 x = x := w64 (by omega)
  have f4 : wrap64 y = y := w64 (by omega)
  rw [f3, f4, ← h]
  exact w64 (by omega)
theorem w4_words {a : Int} (ha : 0 ≤ a) (ha1 : a ≤ 1000) : wrap64 (wrap64 (4 * a) * a) = 4 * a * a := by
  have e : 4 * a * a = 4 * (a * a) := Int.mul_assoc ..
  have z1 : a * a ≤ 1000 * 1000 := Int.mul_le_mul ha1 ha1 ha (by omega)
  have z0 := Int.mul_nonneg ha ha
  have e4 : wrap64 (4 * a) = 4 * a := w64 (by omega)
  rw [e4, e]
  generalize a * a = z at *
  exact w64 (by omega)
theorem saws_in {a b : Nat} {n d n' d' u v : Int} (h1 : 1 ≤ a) (h2 : a < b) (hbm : b ≤ 1000) (hDp : 1 ≤ d) (hNu : n ≤ (b : Int) * b) (hNl : -((b : Int) * b) ≤ n) (hDp3 : 1 ≤ d') (hDl3 : d' ≤ 4 * (a : Int) * a) (hNu3 : n' ≤ (a : Int) * a) (hNl3 : -((a : Int) * a) ≤ n')
    (hu : 12 * (b : Int) * a = d * u) (hv : 12 * (b : Int) * a = d' * v) (heq : u * n + v * n' = (a : Int) * a + b * b + 1 - 3 * a * b) (hS3 : Ev (fun k => yard_Saw.f k ((b % a : Nat) : Int) a) (n', d', 0)) :
    Ev (fun k => galloonlaw03_YardSaws.j0 k a b n d false) true := by
  have a0 : (0 : Int) ≤ a := Int.natCast_nonneg a
  have b0 : (0 : Int) ≤ b := Int.natCast_nonneg b
  have a1 : (a : Int) ≤ 1000 := by omega
  have b1 : (b : Int) ≤ 1000 := by omega
  have ap : (0 : Int) < a := by omega
  have bp : (0 : Int) < b := by omega
  have hMle : 12 * (b : Int) * a ≤ 12000000 := by
    have z : (b : Int) * a ≤ 1000 * 1000 := Int.mul_le_mul b1 a1 a0 (by decide)
    rw [Int.mul_assoc]
    generalize (b : Int) * a = q at *
    omega
  have hMpos : 0 < 12 * (b : Int) * a := Int.mul_pos (Int.mul_pos (by decide) bp) ap
  obtain ⟨hu0, hu1⟩ := div_bound hDp hu hMpos hMle
  obtain ⟨hv0, hv1⟩ := div_bound hDp3 hv hMpos hMle
  have bb : (b : Int) * b ≤ 1000000 := Int.mul_le_mul b1 b1 b0 (by decide)
  have aa : (a : Int) * a ≤ 1000000 := Int.mul_le_mul a1 a1 a0 (by decide)
  have aa0 : 0 ≤ (a : Int) * a := Int.mul_nonneg a0 a0
  have hn1 : n ≤ 1000000 := Int.le_trans hNu bb
  have hn2 : -1000000 ≤ n := Int.le_trans (Int.neg_le_neg bb) hNl
  have hm1 : n' ≤ 1000000 := Int.le_trans hNu3 aa
  have hm2 : -1000000 ≤ n' := Int.le_trans (Int.neg_le_neg aa) hNl3
  have hfin := fin_words hu0 hu1 hv0 hv1 hn1 hn2 hm1 hm2 heq
  have hM := M_words a0 a1 b0 b1
  have hr2 := r2_words a0 a1 b0 b1
  have hw4a := w4_words a0 a1
  have hwna := wneg a0 a1 aa0 aa
  have hwa : wrap64 ((a : Int) * a) = a * a := by
    generalize (a : Int) * a = q at *
    exact w64 (by omega)
  have htm1 : Int.tmod (12 * (b : Int) * a) d = 0 := by rw [hu]; exact Int.mul_tmod_right ..
  have htm2 : Int.tmod (12 * (b : Int) * a) d' = 0 := by rw [hv]; exact Int.mul_tmod_right ..
  have d0 : d ≠ 0 := by omega
  have d0' : d' ≠ 0 := by omega
  have htd1 : Int.tdiv (12 * (b : Int) * a) d = u := by rw [hu]; exact Int.mul_tdiv_cancel_left _ d0
  have htd2 : Int.tdiv (12 * (b : Int) * a) d' = v := by rw [hv]; exact Int.mul_tdiv_cancel_left _ d0'
  have hbm : Int.tmod (b : Int) a = ((b % a : Nat) : Int) := by rw [Int.tmod_eq_emod_of_nonneg b0]; rfl
  have n1 : ¬ (a : Int) < 1 := by omega
  have n2 : ¬ (a : Int) ≥ b := by omega
  have n3 : ¬ (a : Int) = 0 := by omega
  refine Ev.step (f := fun k => galloonlaw03_YardSaws.j1 k a b n d false) (fun k => ?_) ?_
  · simp only [galloonlaw03_YardSaws.j0]
    rw [if_neg (by simp), if_neg n1, decide_eq_false n2]
  · refine Ev.step (f := fun k => (yard_Saw.f k ((b % a : Nat) : Int) a).bind fun bt213 => (if bt213.2.2 = 0 then (if bt213.2.1 < 1 then (some false) else (if bt213.2.1 > 4 * (a : Int) * a then (some false) else (if bt213.1 > (a : Int) * a then (some false) else (if bt213.1 < -((a : Int) * a) then (some false) else (if d = 0 then (none) else (if (Int.tmod (12 * (b : Int) * a) d) = 0 then (if bt213.2.1 = 0 then (none) else (if (Int.tmod (12 * (b : Int) * a) bt213.2.1) = 0 then (if (wrap64 ((wrap64 ((wrap64 (Int.tdiv (12 * (b : Int) * a) d)) * n)) + (wrap64 ((wrap64 (Int.tdiv (12 * (b : Int) * a) bt213.2.1)) * bt213.1)))) = (a : Int) * a + b * b + 1 - 3 * a * b then ((galloonlaw03_awake.f k).bind fun t216 => (some t216)) else (some false)) else (some false))) else (some false))))))) else (some false))) (fun k => ?_) (Ev.bind hS3 ?_)
    · simp only [galloonlaw03_YardSaws.j1]
      rw [if_neg (by decide), if_neg n3, hbm, hw4a, hwna, hM, hr2]
      rw [hwa]
    · refine Ev.ite_true rfl (Ev.ite_false (Int.not_lt.2 hDp3) (Ev.ite_false (Int.not_lt.2 hDl3) (Ev.ite_false (Int.not_lt.2 hNu3) (Ev.ite_false (Int.not_lt.2 hNl3) (Ev.ite_false d0 (Ev.ite_true htm1 (Ev.ite_false d0' (Ev.ite_true htm2 (Ev.ite_true ?_ saws_awake)))))))))
      rw [htd1]
      show wrap64 (wrap64 (wrap64 u * n) + wrap64 (wrap64 (Int.tdiv (12 * (b : Int) * a) d') * n')) = _
      rw [htd2]
      exact hfin
theorem saws_core {a b : Nat} {n d : Int} (q3 : a ≤ b) (hbp : 1 ≤ b) (hbm : b ≤ 1000) (hDp : 1 ≤ d) (hDl : d ≤ 4 * (b : Int) * b) (hNu : n ≤ (b : Int) * b) (hNl : -((b : Int) * b) ≤ n) (hND : Int.gcd n d = 1)
    (hS1 : Ev (fun k => yard_Saw.f k a b) (n, d, 0)) (hS2 : Ev (fun k => yard_Saw.f k ((b - a : Nat) : Int) b) (-n, d, 0)) (hfin : Ev (fun k => galloonlaw03_YardSaws.j0 k a b n d false) true) {a0 b0 : Int} (ht : Ev (fun k => galloonlaw03_tame.f k a0 b0 1000) ((a : Int), (b : Int))) :
    Ev (fun k => galloonlaw03_YardSaws.f k a0 b0) true := by
  have hBB : (b : Int) * b ≤ 1000 * 1000 := Int.mul_le_mul (by omega) (by omega) (by omega) (by omega)
  have hBB0 : 0 < (b : Int) * b := Int.mul_pos (by omega) (by omega)
  have hw4 : wrap64 (wrap64 (4 * (b : Int)) * b) = 4 * b * b := by
    rw [w64 (n := 4 * (b : Int)) (by omega), w64 (by rw [Int.mul_assoc]; omega)]
  have hwb : wrap64 ((b : Int) * b) = b * b := w64 (by omega)
  have hBB1 : (b : Int) * b ≤ 1000000 := hBB
  have hBB2 : 0 ≤ (b : Int) * b := Int.le_of_lt hBB0
  have hb1000 : (b : Int) ≤ 1000 := by omega
  have hwn := wneg (x := (b : Int)) (Int.natCast_nonneg b) hb1000 hBB2 hBB1
  have hnn := wneg1 hNu hNl hBB1
  have hmx := mx_abs hnn
  rw [hnn] at hmx
  have hg := gcd_ev (x := ((n).natAbs : Int)) (y := d) (by omega) (by omega)
  have hgc : ((Int.gcd ((n).natAbs : Int) (d) : Nat) : Int) = 1 := by
    have : Int.gcd ((n).natAbs : Int) (d) = Int.gcd (n) (d) := by simp [Int.gcd]
    rw [this, hND]; rfl
  rw [hgc] at hg
  have hrest : wrap64 ((b : Int) - a) = ((b - a : Nat) : Int) := by rw [w64 (by omega)]; omega
  refine Ev.bind ht (Ev.bind hS1 ?_)
  simp only [galloonlaw03_rest.f, Option.bind_some, hrest]
  refine Ev.bind hS2 (Ev.ite_true (by trivial) (Ev.ite_true (by trivial) ?_))
  simp only [hw4, hwb, hwn, hmx, hnn, gcd_sameF]
  refine Ev.ite_false (by omega) (Ev.ite_false (by omega) (Ev.ite_false (by omega) (Ev.ite_false (by omega) (Ev.bind hg (Ev.ite_true (by trivial) (Ev.ite_true (by trivial) ?_))))))
  rw [show (d != d) = false by simp]
  exact hfin
theorem YardSaws : galloonlaw03_YardSaws.Pure := by
  intro a0 b0 _ _
  refine Ev.rounds (?_ : Ev (fun k => galloonlaw03_YardSaws.f k a0 b0) true)
  obtain ⟨a', b', ht, h', hm⟩ := tame_ev a0 b0 1000 (by omega) (by omega)
  obtain ⟨p1, p2, p3, p4, p5⟩ := okF_iff.1 h'
  obtain ⟨a, rfl⟩ : ∃ a : Nat, a' = a := ⟨a'.toNat, by omega⟩
  obtain ⟨b, rfl⟩ : ∃ b : Nat, b' = b := ⟨b'.toNat, by omega⟩
  obtain ⟨q1, q2, q3, q4⟩ := okF_nat.1 h'
  have hmir := saw_mirror (a := a) (b := b) (by omega) q3 q4
  have hok2 : okF ((b - a : Nat) : Int) b = true := by
    refine okF_nat.2 ⟨q1, q2, by omega, ?_⟩
    have h6 : Nat.gcd (b - a) b = Nat.gcd (b - a) a := by
      conv => lhs; rw [show b = (b - a) + a by omega]
      rw [show b - a + a - a = b - a by omega]
      rw [Nat.gcd_comm]
      rw [Nat.gcd_comm (b - a) a]
      simp
    have h7 : Nat.gcd (b - a) a = Nat.gcd b a := by
      conv => rhs; rw [show b = (b - a) + a by omega]
      simp
    rw [h6, h7, Nat.gcd_comm]; exact q4
  have hS1 := saw_ev h' (by omega)
  have hS2 := saw_ev hok2 (by omega)
  have hG : sG (b - a) b = sG a b := by simp [sG, hmir]
  have hN2 : sN (b - a) b = -sN a b := by
    simp only [sN]
    rw [hG, hmir]
    exact Int.neg_ediv_of_dvd (Int.gcd_dvd_left ..)
  have hD2 : sD (b - a) b = sD a b := by simp only [sD]; rw [hG]
  rw [hN2, hD2] at hS2
  have hDp := sD_pos (a := a) (b := b) (by omega)
  have hDl := sD_le (a := a) (b := b) (by omega)
  obtain ⟨hNu, hNl⟩ := sN_le (a := a) (b := b) (by omega) q4
  have hND := sND_gcd (a := a) (b := b) (by omega)
  refine saws_core q3 q1 (by omega) hDp hDl hNu hNl hND hS1 hS2 ?_ ht
  clear hS2 hN2 hD2 hG hmir
  by_cases hin : 1 ≤ a ∧ a < b
  · have hokm : okF ((b % a : Nat) : Int) a = true := by
      refine okF_nat.2 ⟨hin.1, by omega, by have := Nat.mod_lt b hin.1; omega, ?_⟩
      rw [← Nat.gcd_rec]; exact q4
    have hS3 := saw_ev hokm (by omega)
    have hG3 : sG (b % a) a = sG b a := by simp [sG, saw_mod]
    have hN3 : sN (b % a) a = sN b a := by simp only [sN]; rw [hG3, saw_mod]
    have hD3 : sD (b % a) a = sD b a := by simp only [sD]; rw [hG3]
    rw [hN3, hD3] at hS3
    have q4' : Nat.gcd b a = 1 := by rw [Nat.gcd_comm]; exact q4
    have hDp3 := sD_pos (a := b) (b := a) (by omega)
    have hDl3 := sD_le (a := b) (b := a) (by omega)
    obtain ⟨hNu3, hNl3⟩ := sN_le (a := b) (b := a) (by omega) q4'
    obtain ⟨u, hu⟩ : sD a b ∣ 12 * (b : Int) * a := by
      refine Int.dvd_trans (sD_dvd (by omega) q4) ⟨2 * a, by grind⟩
    obtain ⟨v, hv⟩ : sD b a ∣ 12 * (b : Int) * a := by
      refine Int.dvd_trans (sD_dvd (by omega) q4') ⟨2 * b, by grind⟩
    have heq := saws_eq (a := a) (b := b) (by omega) (by omega) q4 hu hv
    exact saws_in hin.1 hin.2 (by omega) hDp hNu hNl hDp3 hDl3 hNu3 hNl3 hu hv heq hS3
  · -- b is 1
    have hb1 : b = 1 := by
      rcases Nat.eq_zero_or_pos a with h | h
      · subst h; rw [Nat.gcd_zero_left] at q4; exact q4
      · have : a = b := by omega
        subst this
        rw [Nat.gcd_self] at q4; exact q4
    subst hb1
    have hs0 : saw a 1 = 0 := rfl
    have hg0 : sG a 1 = 4 := by simp [sG, hs0]
    have hn0 : sN a 1 = 0 := by simp [sN, hs0]
    have hd0 : sD a 1 = 1 := by simp [sD, hg0]
    refine Ev.step (f := fun k => galloonlaw03_YardSaws.j1 k a 1 (sN a 1) (sD a 1) true) (fun k => ?_) (Ev.step (f := fun k => (galloonlaw03_awake.f k).bind fun t => some t) (fun k => ?_) saws_awake)
    · simp only [galloonlaw03_YardSaws.j0]
      rw [if_neg (by simp)]
      by_cases h1 : (a : Int) < 1
      · rw [if_pos h1]; rfl
      · rw [if_neg h1, decide_eq_true (by omega)]; rfl
    · simp [galloonlaw03_YardSaws.j1, hn0, hd0]

end Go.Proofs.Ythjodhmkmjabbaa.Pure
