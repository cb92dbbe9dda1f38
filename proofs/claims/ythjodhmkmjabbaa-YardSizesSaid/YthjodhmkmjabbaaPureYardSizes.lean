import Derived.Test.YthjodhmkmjabbaaPYx28
import Derived.Test.YthjodhmkmjabbaaB6
namespace Go.Proofs.Ythjodhmkmjabbaa.Pure
open Go.RowKit Go.Proofs.Ythjodhmkmjabbaa.PY Go.Proofs.YthjodhmkmjabbaaW.PrintWords Go.Proofs.YthjodhmkmjabbaaW.PrintLast

theorem sizes_awake : Ev (fun k => (galloonlaw03_awake.f k).bind fun t => some t) true := Ev.bind awake_ev (Ev.now _)
/-- The row read from its other end. -/
theorem fr_mirror {n : Nat} (hn : 1 ≤ n) : ∀ j, j ≤ cnt 1 1 n → fr n j = ((fr n (cnt 1 1 n - j)).2 - (fr n (cnt 1 1 n - j)).1, (fr n (cnt 1 1 n - j)).2)
  | 0, _ => by rw [Nat.sub_zero, fr_last hn]; rfl
  | j + 1, h => by
    have ih := fr_mirror hn j (by omega)
    have h1 := fr_nb (n := (n : Int)) (by omega) j
    have h2 := fr_nb (n := (n : Int)) (by omega) (cnt 1 1 n - (j + 1))
    rw [show cnt 1 1 n - (j + 1) + 1 = cnt 1 1 n - j by omega] at h2
    have l1 := fr_le hn (show cnt 1 1 n - j ≤ cnt 1 1 n by omega)
    have l2 := fr_le hn (show cnt 1 1 n - (j + 1) ≤ cnt 1 1 n by omega)
    have h3 : Nb n (fr n j).1 (fr n j).2 ((fr n (cnt 1 1 n - (j + 1))).2 - (fr n (cnt 1 1 n - (j + 1))).1) (fr n (cnt 1 1 n - (j + 1))).2 := by
      rw [ih]
      obtain ⟨b1, bn, d1, dn, a0, c0, det, far⟩ := h2
      exact ⟨d1, dn, b1, bn, by simp only; omega, by omega, by simp only; grind, by simp only; omega⟩
    have := h1.unique h3
    exact Prod.ext this.1 this.2
/-- The law's own count of what has no common part with n. -/
def phiTo (n : Nat) : Nat → Nat
  | 0 => 0
  | m + 1 => phiTo n m + (if Nat.gcd (m + 1) n = 1 then 1 else 0)
theorem phiTo_le (n : Nat) : ∀ m, phiTo n m ≤ m
  | 0 => Nat.le_refl _
  | m + 1 => by
    have := phiTo_le n m
    simp only [phiTo]
    split <;> omega
theorem phi_row {n : Nat} (hn : 2 ≤ n) : cntRow 1 1 n = phiTo n n := by
  have key : ∀ m, m < n → (List.range (m + 1)).countP (inRow 1 1 n) = phiTo n m := by
    intro m
    induction m with
    | zero =>
      intro _
      have : inRow 1 1 n 0 = false := by
        rw [Bool.eq_false_iff, Ne, inRow_iff]
        rintro ⟨_, h⟩
        simp at h
        omega
      simp [List.range_succ, this, phiTo]
    | succ m ih =>
      intro hm
      rw [List.range_succ, List.countP_append, ih (by omega)]
      simp only [phiTo, List.countP_cons, List.countP_nil, inRow_iff]
      congr 1
      by_cases hg : Nat.gcd (m + 1) n = 1
      · simp [hg]; omega
      · simp [hg]
  obtain ⟨p, rfl⟩ : ∃ p, n = p + 1 := ⟨n - 1, by omega⟩
  have := key p (by omega)
  rw [show cntRow 1 1 (p + 1) = (List.range (p + 1)).countP (inRow 1 1 (p + 1)) from rfl, this]
  simp only [phiTo, Nat.gcd_self]
  rw [if_neg (by omega)]
  rfl
theorem sizes_end {n : Nat} (h2 : 2 ≤ n) (h3 : n ≤ 300) (x1 : Int) : Ev (fun k => (galloonlaw03_mod.f x1 (((cnt 1 1 n : Nat) : Int) + 1)).bind fun t402 => ((yard_Item.f k n t402).bind fun bt403 => ((yard_Item.f k n (wrap64 ((wrap64 ((((cnt 1 1 n : Nat) : Int) + 1) - 1)) - t402))).bind fun bt407 => ((yard_Below.f k n bt403.1 bt403.2.1).bind fun bt411 => (if (wrap64 ((((cnt 1 1 n : Nat) : Int) + 1) - (((cnt 1 1 (n - 1) : Nat) : Int) + 1))) = (phiTo n n : Int) then (if bt403.2.2 = 0 then (if bt407.2.2 = 0 then ((galloonlaw03_rest.f bt403.1 bt403.2.1).bind fun bt413 => (if (bt413.1 == bt407.1 && (bt413.2 == bt407.2.1)) = true then (if bt411.2 = 0 then (if bt411.1 = t402 then ((galloonlaw03_awake.f k).bind fun t415 => (some t415)) else (some false)) else (some false)) else (some false))) else (some false)) else (some false)) else (some false)))))) true := by
  have hc := cnt_le 1 1 n h3
  obtain ⟨v, hv, v0, v1⟩ := mod_val x1 (((cnt 1 1 n : Nat) : Int) + 1) (by omega) (by omega)
  obtain ⟨j, rfl⟩ : ∃ j : Nat, v = j := ⟨v.toNat, by omega⟩
  simp only [hv, Option.bind_some]
  have hok : okN n = true := by simp [okN]; omega
  rw [w64 (n := (((cnt 1 1 n : Nat) : Int) + 1) - 1) (by omega), w64 (n := (((cnt 1 1 n : Nat) : Int) + 1) - 1 - j) (by omega), show (((cnt 1 1 n : Nat) : Int) + 1) - 1 - j = ((cnt 1 1 n - j : Nat) : Int) by omega]
  have hnb := fr_nb (n := (n : Int)) (by omega) j
  have hle := fr_le (show 1 ≤ n by omega) (show j ≤ cnt 1 1 n by omega)
  have hat := fr_at (show 1 ≤ n by omega) (show j ≤ cnt 1 1 n by omega)
  have hm := fr_mirror (show 1 ≤ n by omega) (cnt 1 1 n - j) (by omega)
  rw [show cnt 1 1 n - (cnt 1 1 n - j) = j by omega] at hm
  have hb1 := hnb.b1
  have hbn := hnb.bn
  have ha0 := hnb.a0
  have hB : Ev (fun k => yard_Below.f k n (fr n j).1 (fr n j).2) ((j : Int), 0) := by
    simp only [yard_Below.f, isRow_eval, Option.bind_some]
    have hfr := isFrac_ev (fr n j).1 (fr n j).2
    have hf : okF (fr n j).1 (fr n j).2 = true := okF_iff.2 ⟨by omega, by omega, ha0, hle, hnb.gcd.1⟩
    rw [hf] at hfr
    refine Ev.ite_true hok (Ev.bind hfr (Ev.ite_true rfl (Ev.bind (below_ev (by omega) ha0 (by omega) hle (by omega)) (Ev.to (Ev.now _) ?_))))
    rw [hat]
  refine Ev.bind (item_ev hok (i := j) (by omega)) (Ev.bind (item_ev hok (i := cnt 1 1 n - j) (by omega)) (Ev.bind hB ?_))
  have hphi : wrap64 ((((cnt 1 1 n : Nat) : Int) + 1) - (((cnt 1 1 (n - 1) : Nat) : Int) + 1)) = (phiTo n n : Int) := by
    rw [← phi_row h2]
    obtain ⟨p, rfl⟩ : ∃ p, n = p + 1 := ⟨n - 1, by omega⟩
    have : cnt 1 1 (p + 1) = cnt 1 1 p + cntRow 1 1 (p + 1) := rfl
    rw [show p + 1 - 1 = p from rfl, w64 (by omega)]
    omega
  refine Ev.ite_true hphi (Ev.ite_true rfl (Ev.ite_true rfl ?_))
  simp only [galloonlaw03_rest.f, Option.bind_some, hm]
  rw [w64 (by omega)]
  simpa using sizes_awake
theorem sizes_loop {n : Nat} (h2 : 2 ≤ n) (h3 : n ≤ 300) (x1 : Int) : ∀ (s i : Nat), n = i + s →
    Ev (fun k => galloonlaw03_YardSizes.l0 k n x1 (((cnt 1 1 n : Nat) : Int) + 1) (((cnt 1 1 (n - 1) : Nat) : Int) + 1) (phiTo n i) ((i + 1 : Nat) : Int)) true := by
  intro s
  induction s with
  | zero =>
    intro i hi
    obtain rfl : i = n := by omega
    refine Ev.step (fun k => ?_) (sizes_end h2 h3 x1)
    show galloonlaw03_YardSizes.l0 (k + 1) _ _ _ _ _ _ = _
    simp only [galloonlaw03_YardSizes.l0]
    rw [if_neg (by omega)]
  | succ s ih =>
    intro i hi
    have h := ih (i + 1) (by omega)
    have hp := phiTo_le n i
    refine Ev.step (f := fun k => (galloonref03_Gcd.f k ((i + 1 : Nat) : Int) n).bind fun t401 => (if t401 = 1 then (galloonlaw03_YardSizes.l0 k n x1 (((cnt 1 1 n : Nat) : Int) + 1) (((cnt 1 1 (n - 1) : Nat) : Int) + 1) ((phiTo n i + 1 : Nat) : Int) ((i + 1 + 1 : Nat) : Int)) else (galloonlaw03_YardSizes.l0 k n x1 (((cnt 1 1 n : Nat) : Int) + 1) (((cnt 1 1 (n - 1) : Nat) : Int) + 1) (phiTo n i) ((i + 1 + 1 : Nat) : Int)))) (fun k => ?_) ?_
    · simp only [galloonlaw03_YardSizes.l0]
      rw [if_pos (by omega), w64 (n := (phiTo n i : Int) + 1) (by omega), w64 (n := ((i + 1 : Nat) : Int) + 1) (by omega)]
      rfl
    · simp only [gcd_sameF]
      refine Ev.bind (gcd_ev (by omega) (by omega)) ?_
      have hgc : Int.gcd ((i + 1 : Nat) : Int) n = Nat.gcd (i + 1) n := rfl
      simp only [phiTo] at h
      by_cases hg : Nat.gcd (i + 1) n = 1
      · refine Ev.ite_true (by rw [hgc, hg]; rfl) ?_
        rw [if_pos hg] at h
        exact h
      · refine Ev.ite_false (by rw [hgc]; omega) ?_
        rw [if_neg hg] at h
        exact h
theorem YardSizes : galloonlaw03_YardSizes.Pure := by
  intro a b _ _
  refine Ev.rounds (?_ : Ev (fun k => galloonlaw03_YardSizes.f k a b) true)
  obtain ⟨v, hv, v0, v1⟩ := mod_val a 299 (by omega) (by omega)
  obtain ⟨n, hn⟩ : ∃ n : Nat, 2 + v = n := ⟨(2 + v).toNat, by omega⟩
  have h2 : 2 ≤ n := by omega
  have h3 : n ≤ 300 := by omega
  have hok : okN n = true := by simp [okN]; omega
  have hok' : okN ((n - 1 : Nat) : Int) = true := by simp [okN]; omega
  simp only [galloonlaw03_YardSizes.f, hv, Option.bind_some]
  rw [w64 (n := 2 + v) (by omega), hn, w64 (n := (n : Int) - 1) (by omega), show (n : Int) - 1 = ((n - 1 : Nat) : Int) by omega]
  refine Ev.bind (size_ev hok) (Ev.bind (size_ev hok') ?_)
  have hc := cnt_le 1 1 n h3
  have hbig : 2 ≤ cnt 1 1 n := by
    obtain ⟨p, rfl⟩ : ∃ p, n = p + 2 := ⟨n - 2, by omega⟩
    clear hok hok' hc hn h3
    induction p with
    | zero => decide
    | succ p ih =>
      have := ih (by omega)
      simp only [cnt] at this ⊢
      omega
  refine Ev.ite_true rfl (Ev.ite_true rfl ?_)
  refine Ev.step (f := fun k => galloonlaw03_YardSizes.l0 k n b (((cnt 1 1 n : Nat) : Int) + 1) (((cnt 1 1 (n - 1) : Nat) : Int) + 1) 0 1) (fun k => ?_) (sizes_loop h2 h3 b n 0 (by omega))
  simp only [galloonlaw03_YardSizes.j0]
  rw [if_neg (by simp; omega)]

end Go.Proofs.Ythjodhmkmjabbaa.Pure
