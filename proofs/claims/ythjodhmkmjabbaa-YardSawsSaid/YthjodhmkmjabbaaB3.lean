import Derived.Test.YthjodhmkmjabbaaB1
import Derived.Test.YthjodhmkmjabbaaPYx10
/-! What the laws' own 'tame' tells: a fraction of the yard. -/
namespace Go.Proofs.Ythjodhmkmjabbaa.PY
open Go.RowKit Go.Proofs.YthjodhmkmjabbaaW.PrintWords Go.Proofs.YthjodhmkmjabbaaW.PrintLast

theorem mod_val (x m : Int) (h0 : 0 < m) (h1 : m ≤ 9223372036854775807) : ∃ v, galloonlaw03_mod.f x m = some v ∧ 0 ≤ v ∧ v < m := by
  have hm : IntKind.u64.wrap m = m := by simp [IntKind.wrap, IntKind.signed, IntKind.bits]; omega
  obtain ⟨y, hy⟩ : ∃ y, y = IntKind.u64.wrap x := ⟨_, rfl⟩
  have hy0 : 0 ≤ y := by rw [hy]; simp [IntKind.wrap, IntKind.signed, IntKind.bits]; omega
  have e1 := Int.emod_nonneg y (show m ≠ 0 by omega)
  have e2 := Int.emod_lt_of_pos y h0
  refine ⟨y % m, ?_, e1, e2⟩
  simp only [galloonlaw03_mod.f, hm, ← hy]
  rw [if_neg (by omega), Int.tmod_eq_emod_of_nonneg hy0, w64 (by omega)]
theorem tame_ev (a b m : Int) (h0 : 0 < m) (h1 : m ≤ 1000000) : ∃ n d, Ev (fun k => galloonlaw03_tame.f k a b m) (n, d) ∧ okF n d = true ∧ d ≤ m := by
  obtain ⟨v, hv, v0, v1⟩ := mod_val (wrap64 (b - 1)) m h0 (by omega)
  obtain ⟨u, hu, u0, u1⟩ := mod_val a (1 + v + 1) (by omega) (by omega)
  have hg := gcd_ev u0 (show 0 ≤ 1 + v by omega)
  have hp : 0 < Int.gcd u (1 + v) := Int.gcd_pos_of_ne_zero_right _ (by omega)
  obtain ⟨g, hge⟩ : ∃ g, g = Int.gcd u (1 + v) := ⟨_, rfl⟩
  obtain ⟨x, hx⟩ : (g : Int) ∣ u := by rw [hge]; exact Int.gcd_dvd_left ..
  obtain ⟨y, hy⟩ : (g : Int) ∣ 1 + v := by rw [hge]; exact Int.gcd_dvd_right ..
  have hgp : (0 : Int) < g := by omega
  have hxe : u / g = x := by rw [hx]; exact Int.mul_ediv_cancel_left _ (by omega)
  have hye : (1 + v) / g = y := by rw [hy]; exact Int.mul_ediv_cancel_left _ (by omega)
  have hx0 : 0 ≤ x := by rw [← hxe]; exact Int.ediv_nonneg u0 (by omega)
  have hy0 : 0 < y := by
    have h2 : 0 < (g : Int) * y := by omega
    exact Int.pos_of_mul_pos_right h2 (by omega) |> fun h => h
  have hxl : x ≤ u := by rw [← hxe]; exact Int.ediv_le_self _ u0
  have hyl : y ≤ 1 + v := by rw [← hye]; exact Int.ediv_le_self _ (by omega)
  have hxy : x ≤ y := by rw [← hxe, ← hye]; exact Int.ediv_le_ediv hgp (by omega)
  refine ⟨x, y, ?_, okF_iff.2 ⟨by omega, by omega, hx0, hxy, ?_⟩, by omega⟩
  · simp only [galloonlaw03_tame.f, hv, Option.bind_some, w64 (n := 1 + v) (by omega), w64 (n := 1 + v + 1) (by omega), hu, gcd_sameF]
    refine Ev.bind hg (Ev.ite_false (by omega) (Ev.to (Ev.now _) ?_))
    rw [← hge, Int.tdiv_eq_ediv_of_nonneg u0, Int.tdiv_eq_ediv_of_nonneg (by omega), hxe, hye, w64 (by omega), w64 (by omega)]
  · have h2 : Int.gcd (g * x) (g * y) = g * Int.gcd x y := by
      have := Int.gcd_mul_left (g : Int) x y
      simpa using this
    rw [← hx, ← hy, ← hge] at h2
    exact Nat.eq_of_mul_eq_mul_left (by omega) (h2.symm.trans (Nat.mul_one g).symm)
/-- Two fractions in lowest terms that are the same number are the same. -/
theorem okF_inj {a b c d : Int} (h : okF a b = true) (h' : okF c d = true) (e : a * d = c * b) : a = c ∧ b = d := by
  obtain ⟨h1, h2, h3, h4, h5⟩ := okF_iff.1 h
  obtain ⟨g1, g2, g3, g4, g5⟩ := okF_iff.1 h'
  obtain ⟨a, rfl⟩ := Int.eq_ofNat_of_zero_le h3
  obtain ⟨b, rfl⟩ := Int.eq_ofNat_of_zero_le (show 0 ≤ b by omega)
  obtain ⟨c, rfl⟩ := Int.eq_ofNat_of_zero_le g3
  obtain ⟨d, rfl⟩ := Int.eq_ofNat_of_zero_le (show 0 ≤ d by omega)
  have e' : a * d = c * b := by exact_mod_cast e
  have h5 : Nat.Coprime a b := h5
  have g5 : Nat.Coprime c d := g5
  have k1 : b ∣ d := h5.symm.dvd_of_dvd_mul_left (show b ∣ a * d from ⟨c, by rw [e', Nat.mul_comm]⟩)
  have k2 : d ∣ b := g5.symm.dvd_of_dvd_mul_left (show d ∣ c * b from ⟨a, by rw [← e', Nat.mul_comm]⟩)
  have hbd : b = d := Nat.dvd_antisymm k1 k2
  subst hbd
  exact ⟨by have := Nat.eq_of_mul_eq_mul_right (by omega) e'; omega, rfl⟩
end Go.Proofs.Ythjodhmkmjabbaa.PY
