import Derived.Test.YthjodhmkmjabbaaGItem
import Derived.Test.YthjodhmkmjabbaaGTouching
import Derived.Test.YthjodhmkmjabbaaPYx0
import Derived.Test.YthjodhmkmjabbaaPYx10
import Derived.Test.YthjodhmkmjabbaaPYx14
import Derived.Test.YthjodhmkmjabbaaPYx2
import Derived.Test.YthjodhmkmjabbaaPYx3
import Derived.Test.YthjodhmkmjabbaaPYx32
import Derived.Test.YthjodhmkmjabbaaPYx4
import Derived.Test.YthjodhmkmjabbaaPYx5
import Derived.Test.YthjodhmkmjabbaaPYx6
import Derived.Test.YthjodhmkmjabbaaPYx7
import Derived.Test.YthjodhmkmjabbaaPYx8
/-! YardTouched: the plain law, with the plain laws that it leans on. -/
namespace Go.Proofs.Ythjodhmkmjabbaa.Pure
open Go.RowKit Go.Proofs.Ythjodhmkmjabbaa.PY Go.Proofs.YthjodhmkmjabbaaW.PrintWords Go.Proofs.YthjodhmkmjabbaaW.PrintLast Go.Proofs.YthjodhmkmjabbaaW.PrintMore
set_option linter.unusedVariables false
theorem awake_true : galloonlaw03_awake.f 60 = some true := by decide +kernel
theorem awake_ev : Ev (fun k => galloonlaw03_awake.f k) true := Ev.of galloonlaw03_awake.mono awake_true
theorem Ev.ite_true {α : Type} {c : Prop} [Decidable c] {g f : Nat → Option α} {r : α} (hc : c) (h : Ev g r) : Ev (fun n => if c then g n else f n) r := by simpa only [if_pos hc] using h
theorem Ev.ite_false {α : Type} {c : Prop} [Decidable c] {g f : Nat → Option α} {r : α} (hc : ¬ c) (h : Ev f r) : Ev (fun n => if c then g n else f n) r := by simpa only [if_neg hc] using h
theorem Ev.to {α : Type} {g : Nat → Option α} {r s : α} (h : Ev g r) (e : r = s) : Ev g s := e ▸ h
theorem gcd_same : ∀ k x y, galloonref03_Gcd.l0 k x y = yard_gcd.l0 k x y
  | 0, _, _ => rfl
  | k + 1, x, y => by
    simp only [galloonref03_Gcd.l0, yard_gcd.l0]
    rw [gcd_same k]
theorem gcd_sameF (k : Nat) (x y : Int) : galloonref03_Gcd.f k x y = yard_gcd.f k x y := gcd_same k x y
theorem gcd_nat : ∀ (y x : Nat), Ev (fun k => yard_gcd.l0 k x y) (Nat.gcd x y : Int) := by
  intro y
  induction y using Nat.strongRecOn with
  | ind y ih =>
    intro x
    rcases Nat.eq_zero_or_pos y with rfl | hy
    · refine ⟨1, fun k hk => ?_⟩
      obtain ⟨j, rfl⟩ : ∃ j, k = j + 1 := ⟨k - 1, by omega⟩
      simp [yard_gcd.l0]
    · have h1 := ih (x % y) (Nat.mod_lt _ hy) y
      refine Ev.to (Ev.step (f := fun k => yard_gcd.l0 k (y : Int) ((x % y : Nat) : Int)) (fun k => ?_) h1) (by rw [Nat.gcd_comm x y, Nat.gcd_rec y x, Nat.gcd_comm])
      show yard_gcd.l0 (k + 1) x y = _
      simp only [yard_gcd.l0]
      rw [if_pos (by omega), if_neg (by omega), Int.tmod_eq_emod_of_nonneg (by omega)]
      rfl
theorem gcd_ev {x y : Int} (hx : 0 ≤ x) (hy : 0 ≤ y) : Ev (fun k => yard_gcd.f k x y) (Int.gcd x y : Int) := by
  obtain ⟨a, rfl⟩ := Int.eq_ofNat_of_zero_le hx
  obtain ⟨b, rfl⟩ := Int.eq_ofNat_of_zero_le hy
  exact gcd_nat b a
/-- num/den is a fraction of the yard. -/
def okF (a b : Int) : Bool := decide (1 ≤ b ∧ b ≤ 1000000 ∧ 0 ≤ a ∧ a ≤ b) && (Int.gcd a b == 1)
theorem isFrac_ev (a b : Int) : Ev (fun k => yard_isFrac.f k a b) (okF a b) := by
  simp only [yard_isFrac.f, yard_within.f, okF]
  by_cases h1 : b ≥ 1
  · by_cases h2 : b ≤ 1000000
    · by_cases h3 : a ≥ 0
      · by_cases h4 : a ≤ b
        · simp only [h1, h2, h3, h4, if_true, decide_true, Option.bind_some, and_self, Bool.true_and]
          refine Ev.bind (gcd_ev h3 (by omega)) (Ev.to (Ev.now _) ?_)
          rw [Bool.eq_iff_iff]; simp; omega
        · simp only [h1, h2, h3, h4, if_true, decide_true, Option.bind_some, decide_false, and_false, Bool.false_and, if_false, Bool.false_eq_true]
          exact Ev.now _
      · simp only [h1, h2, h3, if_true, decide_true, Option.bind_some, if_false, Bool.false_eq_true]
        refine Ev.to (Ev.now _) ?_
        first | (simp; done) | (simp; omega)
    · simp only [h1, h2, if_true, Option.bind_some, decide_false, if_false, Bool.false_eq_true, and_false, false_and, Bool.false_and]
      exact Ev.now _
  · simp only [h1, if_false, Option.bind_some, Bool.false_eq_true]
    refine Ev.to (Ev.now _) ?_
    first | (simp; done) | (simp; omega)
theorem valid_ev (a b : Int) : Ev (fun k => galloonref03_Valid.f k a b) (okF a b) := by
  simp only [galloonref03_Valid.f, okF, gcd_sameF]
  by_cases h1 : b ≥ 1
  · by_cases h2 : b ≤ 1000000
    · by_cases h3 : a ≥ 0
      · by_cases h4 : a ≤ b
        · simp only [h1, h2, h3, h4, if_true, decide_true, and_self, Bool.true_and]
          refine Ev.bind (gcd_ev h3 (by omega)) (Ev.to (Ev.now _) ?_)
          rw [Bool.eq_iff_iff]; simp; omega
        · simp only [h1, h2, h3, h4, if_true, and_false, Bool.false_and, if_false, decide_false]
          exact Ev.now _
      · simp only [h1, h2, h3, if_true, if_false]
        refine Ev.to (Ev.now _) ?_
        first | (simp; done) | (simp; omega)
    · simp only [h1, h2, if_true, if_false]
      refine Ev.to (Ev.now _) ?_
      first | (simp; done) | (simp; omega)
  · simp only [h1, if_false]
    refine Ev.to (Ev.now _) ?_
    first | (simp; done) | (simp; omega)
theorem okF_iff {a b : Int} : okF a b = true ↔ 1 ≤ b ∧ b ≤ 1000000 ∧ 0 ≤ a ∧ a ≤ b ∧ Int.gcd a b = 1 := by
  simp [okF, and_assoc]
theorem w64 {n : Int} (h : -9223372036854775808 ≤ n ∧ n ≤ 9223372036854775807) : wrap64 n = n := by unfold wrap64; omega
theorem mod_val (x m : Int) (h0 : 0 < m) (h1 : m ≤ 9223372036854775807) : ∃ v, galloonlaw03_mod.f x m = some v ∧ 0 ≤ v ∧ v < m := by
  have hm : IntKind.u64.wrap m = m := by simp [IntKind.wrap, IntKind.signed, IntKind.bits]; omega
  obtain ⟨y, hy⟩ : ∃ y, y = IntKind.u64.wrap x := ⟨_, rfl⟩
  have hy0 : 0 ≤ y := by rw [hy]; simp [IntKind.wrap, IntKind.signed, IntKind.bits]; omega
  have e1 := Int.emod_nonneg y (show m ≠ 0 by omega)
  have e2 := Int.emod_lt_of_pos y h0
  refine ⟨y % m, ?_, e1, e2⟩
  simp only [galloonlaw03_mod.f, hm, ← hy]
  rw [if_neg (by omega), Int.tmod_eq_emod_of_nonneg hy0, w64 (by omega)]
theorem tame_ev (a b m : Int) (h0 : 0 < m) (h1 : m ≤ 1000000) : ∃ n d, Ev (fun k => galloonlaw03_tame.f k a b m) (n, d) ∧ okF n d = true ∧ d ≤ m := by
  obtain ⟨v, hv, v0, v1⟩ := mod_val (wrap64 (b - 1)) m h0 (by omega)
  obtain ⟨u, hu, u0, u1⟩ := mod_val a (1 + v + 1) (by omega) (by omega)
  have hg := gcd_ev u0 (show 0 ≤ 1 + v by omega)
  have hp : 0 < Int.gcd u (1 + v) := Int.gcd_pos_of_ne_zero_right _ (by omega)
  obtain ⟨g, hge⟩ : ∃ g, g = Int.gcd u (1 + v) := ⟨_, rfl⟩
  obtain ⟨x, hx⟩ : (g : Int) ∣ u := by rw [hge]; exact Int.gcd_dvd_left ..
  obtain ⟨y, hy⟩ : (g : Int) ∣ 1 + v := by rw [hge]; exact Int.gcd_dvd_right ..
  have hgp : (0 : Int) < g := by omega
  have hxe : u / g = x := by rw [hx]; exact Int.mul_ediv_cancel_left _ (by omega)
  have hye : (1 + v) / g = y := by rw [hy]; exact Int.mul_ediv_cancel_left _ (by omega)
  have hx0 : 0 ≤ x := by rw [← hxe]; exact Int.ediv_nonneg u0 (by omega)
  have hy0 : 0 < y := by
    have h2 : 0 < (g : Int) * y := by omega
    exact Int.pos_of_mul_pos_right h2 (by omega) |> fun h => h
  have hxl : x ≤ u := by rw [← hxe]; exact Int.ediv_le_self _ u0
  have hyl : y ≤ 1 + v := by rw [← hye]; exact Int.ediv_le_self _ (by omega)
  have hxy : x ≤ y := by rw [← hxe, ← hye]; exact Int.ediv_le_ediv hgp (by omega)
  refine ⟨x, y, ?_, okF_iff.2 ⟨by omega, by omega, hx0, hxy, ?_⟩, by omega⟩
  · simp only [galloonlaw03_tame.f, hv, Option.bind_some, w64 (n := 1 + v) (by omega), w64 (n := 1 + v + 1) (by omega), hu, gcd_sameF]
    refine Ev.bind hg (Ev.ite_false (by omega) (Ev.to (Ev.now _) ?_))
    rw [← hge, Int.tdiv_eq_ediv_of_nonneg u0, Int.tdiv_eq_ediv_of_nonneg (by omega), hxe, hye, w64 (by omega), w64 (by omega)]
  · have h2 : Int.gcd (g * x) (g * y) = g * Int.gcd x y := by
      have := Int.gcd_mul_left (g : Int) x y
      simpa using this
    rw [← hx, ← hy, ← hge] at h2
    exact Nat.eq_of_mul_eq_mul_left (by omega) (h2.symm.trans (Nat.mul_one g).symm)
theorem countP_also {α : Type} [BEq α] [LawfulBEq α] (P : α → Bool) (a : α) (ha : P a = false) (l : List α) : l.countP (fun x => P x || x == a) = l.countP P + l.countP (· == a) := by
  induction l with
  | nil => rfl
  | cons x l ih =>
    simp only [List.countP_cons, ih]
    by_cases hx : x = a
    · subst hx
      simp [ha]; omega
    · simp [hx]; omega
theorem countP_one (a n : Nat) : (List.range n).countP (· == a) = if a < n then 1 else 0 := by
  induction n with
  | zero => rfl
  | succ n ih =>
    rw [List.range_succ, List.countP_append, ih]
    simp only [List.countP_cons, List.countP_nil]
    by_cases h : n = a
    · subst h; simp
    · simp only [beq_iff_eq, h, if_false]
      split <;> split <;> omega
/-- x/y is in lowest terms and strictly below a/b. -/
def inRow (a b : Int) (y x : Nat) : Bool := decide ((x : Int) * b < a * y) && (Nat.gcd x y == 1)
def cntRow (a b : Int) (y : Nat) : Nat := (List.range y).countP (inRow a b y)
/-- How many fractions of denominator up to n lie strictly below a/b. -/
def cnt (a b : Int) : Nat → Nat
  | 0 => 0
  | n + 1 => cnt a b n + cntRow a b (n + 1)
theorem inRow_iff {a b : Int} {y x : Nat} : inRow a b y x = true ↔ (x : Int) * b < a * y ∧ Nat.gcd x y = 1 := by simp [inRow]
theorem cntRow_mono {a b c d : Int} (hb : 0 < b) (hd : 0 < d) (h : a * d ≤ c * b) (y : Nat) : cntRow a b y ≤ cntRow c d y := by
  refine List.countP_mono_left (fun x _ hx => ?_)
  rw [inRow_iff] at hx ⊢
  refine ⟨?_, hx.2⟩
  have h1 : ((x : Int) * b) * d < (a * y) * d := Int.mul_lt_mul_of_pos_right hx.1 hd
  have h2 : (a * d) * y ≤ (c * b) * y := Int.mul_le_mul_of_nonneg_right h (by omega)
  exact Int.lt_of_mul_lt_mul_right (a := b) (by grind) (by omega)
theorem cnt_mono {a b c d : Int} (hb : 0 < b) (hd : 0 < d) (h : a * d ≤ c * b) : ∀ n, cnt a b n ≤ cnt c d n
  | 0 => Nat.le_refl _
  | n + 1 => Nat.add_le_add (cnt_mono hb hd h n) (cntRow_mono hb hd h _)
theorem cntRow_more {a b c d : Int} (ha : 0 ≤ a) (hb : 0 < b) (hd : 0 < d) (hg : Int.gcd a b = 1) (h : a * d < c * b) (hcd : c ≤ d) (y : Nat) : cntRow a b y + (if (y : Int) = b then 1 else 0) ≤ cntRow c d y := by
  by_cases hy : (y : Int) = b
  · rw [if_pos hy]
    have hab : a < b := by
      have : c * b ≤ d * b := Int.mul_le_mul_of_nonneg_right hcd (by omega)
      have : a * d < b * d := by rw [Int.mul_comm b d]; omega
      exact Int.lt_of_mul_lt_mul_right this (by omega)
    have hnot : inRow a b y a.toNat = false := by
      rw [Bool.eq_false_iff, Ne, inRow_iff]
      rintro ⟨h1, _⟩
      rw [Int.toNat_of_nonneg ha, hy] at h1
      omega
    have h1 := countP_also (inRow a b y) a.toNat hnot (List.range y)
    have h2 := countP_one a.toNat y
    rw [if_pos (by omega)] at h2
    rw [show cntRow a b y = (List.range y).countP (inRow a b y) from rfl, ← h2, ← h1]
    refine List.countP_mono_left (fun x _ hx => ?_)
    rw [Bool.or_eq_true, inRow_iff, beq_iff_eq] at hx
    rw [inRow_iff]
    rcases hx with hx | hx
    · refine ⟨?_, hx.2⟩
      have h1 : ((x : Int) * b) * d < (a * y) * d := Int.mul_lt_mul_of_pos_right hx.1 hd
      have h2 : (a * d) * y ≤ (c * b) * y := Int.mul_le_mul_of_nonneg_right (by omega) (by omega)
      exact Int.lt_of_mul_lt_mul_right (a := b) (by grind) (by omega)
    · subst hx
      rw [Int.toNat_of_nonneg ha, hy]
      refine ⟨h, ?_⟩
      have : Nat.gcd a.toNat b.toNat = 1 := by
        have := hg
        rw [← Int.toNat_of_nonneg ha, ← Int.toNat_of_nonneg (show 0 ≤ b by omega)] at this
        exact this
      rw [show y = b.toNat by omega]
      exact this
  · rw [if_neg hy]
    exact cntRow_mono hb hd (by omega) y
theorem cnt_more {a b c d : Int} (ha : 0 ≤ a) (hb : 0 < b) (hd : 0 < d) (hg : Int.gcd a b = 1) (h : a * d < c * b) (hcd : c ≤ d) : ∀ n : Nat, cnt a b n + (if b ≤ n then 1 else 0) ≤ cnt c d n
  | 0 => by rw [if_neg (by omega)]; exact Nat.le_refl _
  | n + 1 => by
    have h1 := cnt_more ha hb hd hg h hcd n
    have h2 := cntRow_more ha hb hd hg h hcd (n + 1)
    simp only [cnt]
    by_cases h3 : ((n + 1 : Nat) : Int) = b
    · rw [if_pos h3] at h2
      rw [if_pos (by omega)]
      rw [if_neg (by omega)] at h1
      omega
    · rw [if_neg h3] at h2
      by_cases h4 : b ≤ (n : Int)
      · rw [if_pos h4] at h1
        rw [if_pos (by omega)]
        omega
      · rw [if_neg h4] at h1
        rw [if_neg (by omega)]
        omega
/-- a/b and c/d stand side by side in the row of order n. -/
structure Nb (n a b c d : Int) : Prop where
  b1 : 1 ≤ b
  bn : b ≤ n
  d1 : 1 ≤ d
  dn : d ≤ n
  a0 : 0 ≤ a
  c0 : 0 ≤ c
  det : c * b - a * d = 1
  far : n < b + d
theorem Nb.step {n a b c d : Int} (h : Nb n a b c d) : Nb n c d ((n + b) / d * c - a) ((n + b) / d * d - b) := by
  obtain ⟨b1, bn, d1, dn, a0, c0, det, far⟩ := h
  have hdm := Int.mul_ediv_add_emod (n + b) d
  have hr0 := Int.emod_nonneg (n + b) (show d ≠ 0 by omega)
  have hr := Int.emod_lt_of_pos (n + b) (show 0 < d by omega)
  obtain ⟨e, he⟩ : ∃ e, e = (n + b) / d := ⟨_, rfl⟩
  obtain ⟨r, hre⟩ : ∃ r, r = (n + b) % d := ⟨_, rfl⟩
  rw [← he, ← hre] at hdm
  rw [← hre] at hr hr0
  rw [← he]
  have hq : e * d - b = n - r := by rw [Int.mul_comm]; omega
  have hdet : (e * c - a) * d - c * (e * d - b) = 1 := by grind
  have hcq : 0 ≤ c * (n - r) := Int.mul_nonneg c0 (by omega)
  refine ⟨d1, dn, by omega, by omega, c0, ?_, hdet, by omega⟩
  rw [hq] at hdet
  have hp : 0 < (e * c - a) * d := by omega
  have := Int.pos_of_mul_pos_left hp (by omega)
  omega
theorem Nb.gcd {n a b c d : Int} (h : Nb n a b c d) : Int.gcd a b = 1 ∧ Int.gcd c d = 1 := by
  obtain ⟨b1, bn, d1, dn, a0, c0, det, far⟩ := h
  have key : ∀ x y u v : Int, u * x + v * y = 1 → Int.gcd x y = 1 := by
    intro x y u v e
    have h1 : ((Int.gcd x y : Nat) : Int) ∣ 1 := by
      rw [← e]
      exact Int.dvd_add (Int.dvd_mul_of_dvd_right (Int.gcd_dvd_left ..)) (Int.dvd_mul_of_dvd_right (Int.gcd_dvd_right ..))
    have := Int.natAbs_dvd_natAbs.2 h1
    simpa using this
  exact ⟨key a b (-d) c (by grind), key c d b (-a) (by grind)⟩
theorem Nb.le {n a b c d : Int} (h : Nb n a b c d) (hab : a < b) : c ≤ d := by
  obtain ⟨b1, bn, d1, dn, a0, c0, det, far⟩ := h
  have h1 : a * d ≤ (b - 1) * d := Int.mul_le_mul_of_nonneg_right (by omega) (by omega)
  have h2 : b * (c - d) ≤ 0 + (1 - d) := by grind
  rcases Int.lt_or_le d c with h3 | h3
  · have : b * 1 ≤ b * (c - d) := Int.mul_le_mul_of_nonneg_left (by omega) (by omega)
    omega
  · exact h3
/-- Nothing of the row lies between. -/
theorem Nb.none {n a b c d x y : Int} (h : Nb n a b c d) (h1 : a * y < x * b) (h2 : x * d < c * y) : n < y := by
  obtain ⟨b1, bn, d1, dn, a0, c0, det, far⟩ := h
  have e : y = b * (c * y - x * d) + d * (x * b - a * y) := by
    have : y = (c * b - a * d) * y := by rw [det, Int.one_mul]
    grind
  have k1 : b * 1 ≤ b * (c * y - x * d) := Int.mul_le_mul_of_nonneg_left (by omega) (by omega)
  have k2 : d * 1 ≤ d * (x * b - a * y) := Int.mul_le_mul_of_nonneg_left (by omega) (by omega)
  omega
/-- A neighbor on the right is the only one. -/
theorem Nb.unique {n a b c d c' d' : Int} (h : Nb n a b c d) (h' : Nb n a b c' d') : c = c' ∧ d = d' := by
  have hb := h.b1
  have e1 := h.det
  have e2 := h'.det
  have key : ∀ {c d c' d' : Int}, Nb n a b c d → Nb n a b c' d' → ¬ d < d' := by
    intro c d c' d' h h' hlt
    have e1 := h.det
    have e2 := h'.det
    have hb := h.b1
    have := h.far
    have := h'.dn
    -- b divides d' - d, which is below b
    have hdv : b ∣ a * (d' - d) := ⟨c' - c, by grind⟩
    have hg := h.gcd.1
    have hdv2 : b ∣ d' - d := by
      have : d' - d = b * (c * (d' - d)) - d * (a * (d' - d)) := by
        have : d' - d = (c * b - a * d) * (d' - d) := by rw [e1, Int.one_mul]
        grind
      rw [this]
      exact Int.dvd_sub (Int.dvd_mul_right ..) (Int.dvd_mul_of_dvd_right hdv)
    have := Int.le_of_dvd (by omega) hdv2
    omega
  have hd : d = d' := by
    have := key h h'
    have := key h' h
    omega
  subst hd
  refine ⟨?_, rfl⟩
  have : (c - c') * b = 0 := by grind
  rcases Int.mul_eq_zero.1 this with h3 | h3 <;> omega
/-- One step on: one more lies below. -/
theorem Nb.cnt {n : Nat} {a b c d : Int} (h : Nb n a b c d) (hab : a < b) : cnt c d n = cnt a b n + 1 := by
  have hg := h.gcd.1
  have hb := h.b1
  have hd := h.d1
  have ha := h.a0
  have hdet := h.det
  have row : ∀ y : Nat, y ≤ n → cntRow c d y = cntRow a b y + (if (y : Int) = b then 1 else 0) := by
    intro y hyn
    have hsame : ∀ x : Nat, inRow c d y x = (inRow a b y x || ((x : Int) == a && (y : Int) == b)) := by
      intro x
      rw [Bool.eq_iff_iff, Bool.or_eq_true, inRow_iff, inRow_iff]
      constructor
      · rintro ⟨h1, h2⟩
        by_cases h3 : (x : Int) * b < a * y
        · exact .inl ⟨h3, h2⟩
        · right
          rcases Int.lt_or_eq_of_le (show a * y ≤ (x : Int) * b by omega) with h4 | h4
          · have := h.none h4 h1
            omega
          · -- the same number
            obtain ⟨a', rfl⟩ := Int.eq_ofNat_of_zero_le ha
            obtain ⟨b', rfl⟩ := Int.eq_ofNat_of_zero_le (show 0 ≤ b by omega)
            have e' : a' * y = x * b' := by exact_mod_cast h4
            have h5 : Nat.Coprime a' b' := hg
            have k1 : b' ∣ y := h5.symm.dvd_of_dvd_mul_left (show b' ∣ a' * y from ⟨x, by rw [e', Nat.mul_comm]⟩)
            have k2 : y ∣ b' := (Nat.Coprime.symm h2).dvd_of_dvd_mul_left (show y ∣ x * b' from ⟨a', by rw [← e', Nat.mul_comm]⟩)
            have hbd : b' = y := Nat.dvd_antisymm k1 k2
            subst hbd
            have := Nat.eq_of_mul_eq_mul_right (by omega) e'
            simp [this]
      · rintro (⟨h1, h2⟩ | h1)
        · refine ⟨?_, h2⟩
          have h3 : ((x : Int) * b) * d < (a * y) * d := Int.mul_lt_mul_of_pos_right h1 (by omega)
          have h4 : (a * d) * y ≤ (c * b) * y := Int.mul_le_mul_of_nonneg_right (by omega) (by omega)
          exact Int.lt_of_mul_lt_mul_right (a := b) (by grind) (by omega)
        · rw [Bool.and_eq_true, beq_iff_eq, beq_iff_eq] at h1
          obtain ⟨rfl, rfl⟩ := h1
          exact ⟨by omega, hg⟩
    by_cases hy : (y : Int) = b
    · rw [if_pos hy]
      have hnot : inRow a b y a.toNat = false := by
        rw [Bool.eq_false_iff, Ne, inRow_iff]
        rintro ⟨h1, _⟩
        rw [Int.toNat_of_nonneg ha, hy] at h1
        omega
      have h1 := countP_also (inRow a b y) a.toNat hnot (List.range y)
      have h2 := countP_one a.toNat y
      rw [if_pos (by omega)] at h2
      rw [show cntRow a b y = (List.range y).countP (inRow a b y) from rfl, ← h2, ← h1]
      refine List.countP_congr (fun x _ => ?_)
      rw [hsame, hy]
      have : ((x : Int) == a) = (x == a.toNat) := by rw [Bool.eq_iff_iff, beq_iff_eq, beq_iff_eq]; omega
      simp [this]
    · rw [if_neg hy]
      refine List.countP_congr (fun x _ => ?_)
      rw [hsame]
      simp [hy]
  have sum : ∀ m : Nat, m ≤ n → Go.Proofs.Ythjodhmkmjabbaa.Pure.cnt c d m = Go.Proofs.Ythjodhmkmjabbaa.Pure.cnt a b m + (if b ≤ m then 1 else 0) := by
    intro m
    induction m with
    | zero => intro _; rw [if_neg (by omega)]; rfl
    | succ m ih =>
      intro hm
      have h1 := ih (by omega)
      have h2 := row (m + 1) hm
      simp only [Go.Proofs.Ythjodhmkmjabbaa.Pure.cnt]
      rw [h1, h2]
      by_cases h3 : ((m + 1 : Nat) : Int) = b
      · rw [if_pos h3, if_neg (by omega), if_pos (by omega)]; omega
      · rw [if_neg h3]
        by_cases h4 : b ≤ (m : Int)
        · rw [if_pos h4, if_pos (by omega)]; omega
        · rw [if_neg h4, if_neg (by omega)]; omega
  have := sum n (Nat.le_refl _)
  rw [if_pos h.bn] at this
  exact this
def fr (n : Int) : Nat → Int × Int
  | 0 => (0, 1)
  | 1 => (1, n)
  | k + 2 => ((n + (fr n k).2) / (fr n (k + 1)).2 * (fr n (k + 1)).1 - (fr n k).1, (n + (fr n k).2) / (fr n (k + 1)).2 * (fr n (k + 1)).2 - (fr n k).2)
theorem fr_nb {n : Int} (hn : 1 ≤ n) : ∀ k, Nb n (fr n k).1 (fr n k).2 (fr n (k + 1)).1 (fr n (k + 1)).2
  | 0 => ⟨by simp [fr], by simpa [fr] using hn, by simpa [fr] using hn, by simp [fr], by simp [fr], by simp [fr], by simp [fr], by simp [fr]; omega⟩
  | k + 1 => (fr_nb hn k).step
theorem cnt_zero (n : Nat) : cnt 0 1 n = 0 := by
  induction n with
  | zero => rfl
  | succ n ih =>
    simp only [cnt, ih, cntRow, Nat.zero_add]
    rw [List.countP_eq_zero]
    intro x _
    rw [inRow_iff]
    rintro ⟨h, _⟩
    simp at h
    omega
theorem fr_cnt {n : Nat} (hn : 1 ≤ n) : ∀ k, (∀ j, j < k → (fr n j).1 < (fr n j).2) → cnt (fr n k).1 (fr n k).2 n = k ∧ (fr n k).1 ≤ (fr n k).2
  | 0, _ => ⟨cnt_zero n, by simp [fr]⟩
  | k + 1, h => by
    have h1 := fr_cnt hn k (fun j hj => h j (by omega))
    have h2 := h k (by omega)
    have h3 := fr_nb (n := (n : Int)) (by omega) k
    exact ⟨by rw [h3.cnt h2, h1.1], h3.le h2⟩
theorem fr_one {n : Int} (hn : 1 ≤ n) {k : Nat} (h : (fr n k).1 = (fr n k).2) : fr n k = (1, 1) := by
  have h3 := fr_nb hn k
  have hg := h3.gcd.1
  rw [h, Int.gcd_self] at hg
  have := h3.b1
  have : (fr n k).2 = 1 := by omega
  exact Prod.ext (h.trans this) this
/-- Before the last all lie below one; the last is one. -/
theorem fr_below {n : Nat} (hn : 1 ≤ n) : ∀ k, k ≤ cnt 1 1 n → ∀ j, j < k → (fr n j).1 < (fr n j).2
  | 0, _, j, hj => by omega
  | k + 1, hk, j, hj => by
    have ih := fr_below hn k (by omega)
    rcases Nat.lt_or_eq_of_le (Nat.le_of_lt_succ hj) with h | h
    · exact ih j h
    · subst h
      have h1 := fr_cnt hn j ih
      rcases Int.lt_or_eq_of_le h1.2 with h2 | h2
      · exact h2
      · have h3 := fr_one (n := (n : Int)) (by omega) h2
        rw [h3] at h1
        have h6 : cnt 1 1 n = j := h1.1
        omega
theorem fr_at {n : Nat} (hn : 1 ≤ n) {k : Nat} (hk : k ≤ cnt 1 1 n) : cnt (fr n k).1 (fr n k).2 n = k := (fr_cnt hn k (fr_below hn k hk)).1
theorem fr_le {n : Nat} (hn : 1 ≤ n) {k : Nat} (hk : k ≤ cnt 1 1 n) : (fr n k).1 ≤ (fr n k).2 := (fr_cnt hn k (fr_below hn k hk)).2
theorem fr_lt {n : Nat} (hn : 1 ≤ n) {k : Nat} (hk : k < cnt 1 1 n) : (fr n k).1 < (fr n k).2 := fr_below hn (k + 1) (by omega) k (by omega)
theorem fr_last {n : Nat} (hn : 1 ≤ n) : fr n (cnt 1 1 n) = (1, 1) := by
  have h1 := fr_at hn (Nat.le_refl (cnt 1 1 n))
  have h2 := fr_le hn (Nat.le_refl (cnt 1 1 n))
  have h3 := fr_nb (n := (n : Int)) (by omega) (cnt 1 1 n)
  refine fr_one (by omega) ?_
  rcases Int.lt_or_eq_of_le h2 with h4 | h4
  · have := cnt_more (c := 1) (d := 1) h3.a0 (by have := h3.b1; omega) (by omega) h3.gcd.1 (by omega) (Int.le_refl _) n
    rw [if_pos h3.bn] at this
    omega
  · exact h4
/-- f 0 + .. + f (n - 1). -/
def sumTo (f : Nat → Nat) : Nat → Nat
  | 0 => 0
  | n + 1 => sumTo f n + f n
theorem sumTo_congr {f g : Nat → Nat} : ∀ {n : Nat}, (∀ i, i < n → f i = g i) → sumTo f n = sumTo g n
  | 0, _ => rfl
  | n + 1, h => by simp only [sumTo]; rw [sumTo_congr (n := n) (fun i hi => h i (by omega)), h n (by omega)]
theorem sumTo_add (f g : Nat → Nat) : ∀ n : Nat, sumTo (fun i => f i + g i) n = sumTo f n + sumTo g n
  | 0 => rfl
  | n + 1 => by simp only [sumTo]; rw [sumTo_add f g n]; omega
theorem sumTo_zero : ∀ n : Nat, sumTo (fun _ => 0) n = 0
  | 0 => rfl
  | n + 1 => by simp only [sumTo]; rw [sumTo_zero n]
theorem sumTo_one (a : Nat) : ∀ n : Nat, sumTo (fun i => if a = i then 1 else 0) n = if a < n then 1 else 0
  | 0 => by simp [sumTo]
  | n + 1 => by simp only [sumTo]; rw [sumTo_one a n]; split <;> split <;> split <;> omega
/-- A count, split by a number. -/
theorem countP_split {α : Type} (P : α → Bool) (f : α → Nat) (N : Nat) : ∀ l : List α, (∀ x ∈ l, f x < N) → l.countP P = sumTo (fun e => l.countP (fun x => P x && f x == e)) N
  | [], _ => by simp [sumTo_zero]
  | x :: l, h => by
    have ih := countP_split P f N l (fun y hy => h y (List.mem_cons_of_mem _ hy))
    have hx := h x List.mem_cons_self
    simp only [List.countP_cons]
    rw [sumTo_add, ← ih]
    congr 1
    by_cases hp : P x = true
    · rw [if_pos hp]
      have : sumTo (fun i => if (P x && f x == i) = true then 1 else 0) N = sumTo (fun i => if f x = i then 1 else 0) N := sumTo_congr (fun i _ => by simp [hp])
      rw [this, sumTo_one, if_pos hx]
    · rw [if_neg hp]
      have : sumTo (fun i => if (P x && f x == i) = true then 1 else 0) N = sumTo (fun _ => 0) N := sumTo_congr (fun i _ => by simp [hp])
      rw [this, sumTo_zero]
/-- Counting among the multiples. -/
theorem countP_mults (g : Nat) (hg : 0 < g) (Q : Nat → Bool) : ∀ e : Nat, (List.range (g * e)).countP (fun x => decide (g ∣ x) && Q (x / g)) = (List.range e).countP Q
  | 0 => by simp
  | e + 1 => by
    have ih := countP_mults g hg Q e
    rw [List.range_succ, List.countP_append, ← ih, Nat.mul_succ, List.range_add, List.countP_append]
    congr 1
    rw [List.countP_map]
    obtain ⟨h, rfl⟩ : ∃ h, g = h + 1 := ⟨g - 1, by omega⟩
    rw [List.range_succ_eq_map, List.countP_cons]
    have h0 : (List.map Nat.succ (List.range h)).countP ((fun x => decide (h + 1 ∣ x) && Q (x / (h + 1))) ∘ fun x => (h + 1) * e + x) = 0 := by
      rw [List.countP_eq_zero]
      intro x hx
      rw [List.mem_map] at hx
      obtain ⟨y, hy, rfl⟩ := hx
      rw [List.mem_range] at hy
      simp only [Function.comp]
      have : ¬ (h + 1) ∣ (h + 1) * e + Nat.succ y := by
        rw [Nat.dvd_add_right (Nat.dvd_mul_right ..)]
        intro hd
        have := Nat.le_of_dvd (by omega) hd
        omega
      simp [this]
    rw [h0]
    have hq : (h + 1) * e / (h + 1) = e := Nat.mul_div_cancel_left _ hg
    simp [hq, Nat.dvd_mul_right]
/-- All the x below a/b of d, by what they are in lowest terms. -/
theorem all_split (a b : Int) (d : Nat) (hd : 0 < d) : (List.range d).countP (fun x : Nat => decide ((x : Int) * b < a * d)) = sumTo (fun e => if e + 1 ∣ d then cntRow a b (e + 1) else 0) d := by
  rw [countP_split _ (fun x => d / Nat.gcd x d - 1) d]
  · refine sumTo_congr (fun e he => ?_)
    by_cases hed : e + 1 ∣ d
    · rw [if_pos hed]
      obtain ⟨g, rfl⟩ := hed
      have hg : 0 < g := by
        rcases Nat.eq_zero_or_pos g with h | h
        · subst h; simp at hd
        · exact h
      have hm := countP_mults g hg (inRow a b (e + 1)) (e + 1)
      rw [show cntRow a b (e + 1) = (List.range (e + 1)).countP (inRow a b (e + 1)) from rfl, ← hm, Nat.mul_comm g (e + 1)]
      refine List.countP_congr (fun x hx => ?_)
      rw [List.mem_range] at hx
      simp only [Bool.and_eq_true, decide_eq_true_eq, beq_iff_eq, inRow_iff]
      have hgp : 0 < Nat.gcd x ((e + 1) * g) := Nat.gcd_pos_of_pos_right _ (Nat.mul_pos (by omega) hg)
      have hdv := Nat.gcd_dvd_right x ((e + 1) * g)
      have hdl := Nat.gcd_dvd_left x ((e + 1) * g)
      obtain ⟨q, hq⟩ := hdv
      have hqe : (e + 1) * g / Nat.gcd x ((e + 1) * g) = q := Nat.div_eq_of_eq_mul_right hgp hq
      have hq0 : 0 < q := by
        rcases Nat.eq_zero_or_pos q with h | h
        · subst h; omega
        · exact h
      constructor
      · rintro ⟨h1, h2⟩
        rw [hqe] at h2
        have hqe2 : q = e + 1 := by omega
        subst hqe2
        have hgg : Nat.gcd x ((e + 1) * g) = g := by
          have : (e + 1) * Nat.gcd x ((e + 1) * g) = (e + 1) * g := by rw [Nat.mul_comm]; exact hq.symm
          exact Nat.eq_of_mul_eq_mul_left (by omega) this
        rw [hgg] at hdl
        obtain ⟨y, rfl⟩ := hdl
        refine ⟨Nat.dvd_mul_right .., ?_⟩
        rw [Nat.mul_div_cancel_left _ hg]
        refine ⟨?_, ?_⟩
        · refine Int.lt_of_mul_lt_mul_left (a := (g : Int)) ?_ (by omega)
          push_cast at h1 ⊢
          grind
        · rw [Nat.mul_comm (e + 1) g, Nat.gcd_mul_left] at hgg
          exact Nat.eq_of_mul_eq_mul_left hg (by rw [hgg, Nat.mul_one])
      · rintro ⟨⟨y, rfl⟩, h1, h2⟩
        rw [Nat.mul_div_cancel_left _ hg] at h1 h2
        refine ⟨?_, ?_⟩
        · have := Int.mul_lt_mul_of_pos_left h1 (show (0 : Int) < g by omega)
          push_cast at this ⊢
          grind
        · rw [Nat.mul_comm (e + 1) g, Nat.gcd_mul_left, h2, Nat.mul_one, Nat.mul_div_cancel_left _ hg]
          rfl
    · rw [if_neg hed, List.countP_eq_zero]
      intro x hx
      rw [List.mem_range] at hx
      simp only [Bool.and_eq_true, decide_eq_true_eq, beq_iff_eq]
      rintro ⟨_, h2⟩
      have hgp : 0 < Nat.gcd x d := Nat.gcd_pos_of_pos_right _ hd
      have hdv := Nat.gcd_dvd_right x d
      have hq0 : 0 < d / Nat.gcd x d := Nat.div_pos (Nat.le_of_dvd hd hdv) hgp
      exact hed ⟨Nat.gcd x d, by rw [show e + 1 = d / Nat.gcd x d by omega, Nat.div_mul_cancel hdv]⟩
  · intro x hx
    rw [List.mem_range] at hx
    have hgp : 0 < Nat.gcd x d := Nat.gcd_pos_of_pos_right _ hd
    have := Nat.div_le_self d (Nat.gcd x d)
    omega
theorem countP_below (T : Nat) : ∀ n : Nat, (List.range n).countP (fun x => decide (x < T)) = if n ≤ T then n else T
  | 0 => by simp
  | n + 1 => by
    rw [List.range_succ, List.countP_append, countP_below T n]
    simp only [List.countP_cons, List.countP_nil, decide_eq_true_eq]
    split <;> split <;> split <;> omega
/-- How many x lie below a/b of d, as a quotient rounded up. -/
theorem all_ceil {a b : Int} (ha : 0 ≤ a) (hb : 0 < b) (hab : a ≤ b) (d : Nat) : (((List.range d).countP (fun x : Nat => decide ((x : Int) * b < a * d)) : Nat) : Int) = (d * a + b - 1) / b := by
  obtain ⟨t, ht⟩ : ∃ t, t = ((d : Int) * a + b - 1) / b := ⟨_, rfl⟩
  have hdm := Int.mul_ediv_add_emod (d * a + b - 1) b
  have hr0 := Int.emod_nonneg (d * a + b - 1) (show b ≠ 0 by omega)
  have hr := Int.emod_lt_of_pos (d * a + b - 1) hb
  rw [← ht] at hdm
  have hda : 0 ≤ (d : Int) * a := Int.mul_nonneg (by omega) ha
  have ht0 : 0 ≤ t := by rw [ht]; exact Int.ediv_nonneg (by omega) (by omega)
  have htd : t ≤ d := by
    have h1 : (d : Int) * a ≤ d * b := Int.mul_le_mul_of_nonneg_left hab (by omega)
    have h2 : b * t < b * (d + 1) := by rw [Int.mul_add, Int.mul_comm b d]; omega
    have := Int.lt_of_mul_lt_mul_left h2 (by omega)
    omega
  have hsame : ∀ x : Nat, decide ((x : Int) * b < a * d) = decide (x < t.toNat) := by
    intro x
    rw [Bool.eq_iff_iff, decide_eq_true_eq, decide_eq_true_eq]
    rw [Int.mul_comm a d]
    constructor
    · intro h
      rcases Nat.lt_or_ge x t.toNat with h1 | h1
      · exact h1
      · have : b * t ≤ b * x := Int.mul_le_mul_of_nonneg_left (by omega) (by omega)
        rw [Int.mul_comm b x] at this
        omega
    · intro h
      have : b * ((x : Int) + 1) ≤ b * t := Int.mul_le_mul_of_nonneg_left (by omega) (by omega)
      rw [Int.mul_add, Int.mul_comm b x] at this
      omega
  rw [← ht, List.countP_congr (q := fun x => decide (x < t.toNat)) (fun x _ => by rw [hsame]), countP_below]
  split <;> omega
/-- What the smaller divisors of m took. -/
def took (a b : Int) (m d : Nat) : Nat := sumTo (fun e => if e + 1 ∣ m then cntRow a b (e + 1) else 0) d
theorem rd_set (l : List Int) (i m : Nat) (v : Int) (hi : i < l.length) : rd (l.set i v) m = if m = i then v else rd l m := by
  simp only [rd, Int.toNat_natCast, List.getD_eq_getElem?_getD, List.getElem?_set]
  by_cases h : i = m
  · subst h; simp [hi]
  · rw [if_neg h, if_neg (fun e => h e.symm)]
theorem took_succ (a b : Int) (m d : Nat) : took a b m (d + 1) = took a b m d + (if d + 1 ∣ m then cntRow a b (d + 1) else 0) := rfl
theorem cntRow_le (a b : Int) (y : Nat) : cntRow a b y ≤ y := by
  have := List.countP_le_length (p := inRow a b y) (l := List.range y)
  simpa [cntRow] using this
theorem took_le (a b : Int) (m : Nat) : ∀ d : Nat, d ≤ 300 → took a b m d ≤ 300 * d
  | 0, _ => by simp [took, sumTo]
  | d + 1, h => by
    have h1 := took_le a b m d (by omega)
    have h2 := cntRow_le a b (d + 1)
    rw [took_succ]
    split <;> omega
theorem sieve_inner : ∀ (s : Nat) (n : Nat) (c : List Int) (sum : Int) (d x : Nat) (a b r : Int), n ≤ 300 → c.length = n + 1 → 1 ≤ d → d ≤ n → d < x → d ∣ x → n + 1 ≤ x + s →
    (∀ m : Nat, 1 ≤ m → m ≤ n → rd c m = if m ≤ d then (cntRow a b m : Int) else -(took a b m (if m < x then d else d - 1) : Int)) →
    (∀ c' : List Int, c'.length = n + 1 → (∀ m : Nat, 1 ≤ m → m ≤ n → rd c' m = if m < d + 1 then (cntRow a b m : Int) else -(took a b m d : Int)) → Ev (fun k => yard_below.l0 k n c' sum ((d + 1 : Nat) : Int) a b) r) → Ev (fun k => yard_below.l1 k n c sum d x a b) r := by
  intro s
  induction s with
  | zero =>
    intro n c sum d x a b r hn hc hd hdn hdx hdv hs H K
    have hK := K c hc (fun m h1 h2 => by rw [H m h1 h2, if_pos (show m < x by omega)]; by_cases hm : m ≤ d; (rw [if_pos hm, if_pos (by omega)]); (rw [if_neg hm, if_neg (by omega)]))
    refine Ev.step (fun k => ?_) hK
    show yard_below.l1 (k + 1) _ _ _ _ _ _ _ = _
    simp only [yard_below.l1]
    rw [if_neg (by omega), w64 (by omega)]
    rfl
  | succ s ih =>
    intro n c sum d x a b r hn hc hd hdn hdx hdv hs H K
    by_cases hx : x ≤ n
    · have v1 := H x (by omega) hx
      have v2 := H d hd hdn
      rw [if_neg (by omega), if_neg (by omega)] at v1
      rw [if_pos (Nat.le_refl d)] at v2
      have t1 := took_le a b x (d - 1) (by omega)
      have t2 := cntRow_le a b d
      have hts : took a b x d = took a b x (d - 1) + cntRow a b d := by
        have := took_succ a b x (d - 1)
        rw [show d - 1 + 1 = d by omega, if_pos hdv] at this
        exact this
      have hnew : wrap64 (rd c x - rd c d) = -(took a b x d : Int) := by rw [v1, v2, w64 (by omega)]; omega
      have hK := ih n (c.set x (-(took a b x d : Int))) sum d (x + d) a b r hn (by simpa using hc) hd hdn (by omega) (Nat.dvd_add hdv (Nat.dvd_refl d)) (by omega) (fun m h1 h2 => ?_) K
      · refine Ev.step (fun k => ?_) hK
        show yard_below.l1 (k + 1) _ _ _ _ _ _ _ = _
        simp only [yard_below.l1]
        rw [if_pos (by omega), if_pos (by omega), if_pos (by omega), if_pos (by omega), if_pos (by omega), hnew, w64 (n := (x : Int) + d) (by omega), Int.toNat_natCast]
        rfl
      · rw [rd_set _ _ _ _ (by omega)]
        by_cases hmx : m = x
        · subst hmx
          rw [if_pos rfl, if_neg (by omega), if_pos (by omega)]
        · rw [if_neg hmx, H m h1 h2]
          by_cases hmd : m ≤ d
          · rw [if_pos hmd, if_pos hmd]
          · rw [if_neg hmd, if_neg hmd]
            by_cases hlt : m < x
            · rw [if_pos hlt, if_pos (by omega)]
            · rw [if_neg hlt]
              by_cases hlt2 : m < x + d
              · rw [if_pos hlt2]
                have hnd : ¬ d ∣ m := by
                  intro hdm
                  have hsub := Nat.dvd_sub hdm hdv
                  have := Nat.le_of_dvd (by omega) hsub
                  omega
                have := took_succ a b m (d - 1)
                rw [show d - 1 + 1 = d by omega, if_neg hnd] at this
                rw [this]
                rfl
              · rw [if_neg hlt2]
    · have hK := K c hc (fun m h1 h2 => by rw [H m h1 h2, if_pos (show m < x by omega)]; by_cases hm : m ≤ d; (rw [if_pos hm, if_pos (by omega)]); (rw [if_neg hm, if_neg (by omega)]))
      refine Ev.step (fun k => ?_) hK
      show yard_below.l1 (k + 1) _ _ _ _ _ _ _ = _
      simp only [yard_below.l1]
      rw [if_neg (by omega), w64 (by omega)]
      rfl
theorem cnt_le (a b : Int) : ∀ n : Nat, n ≤ 300 → cnt a b n ≤ 300 * n
  | 0, _ => Nat.le_refl _
  | n + 1, h => by
    have h1 := cnt_le a b n (by omega)
    have h2 := cntRow_le a b (n + 1)
    simp only [cnt]
    omega
theorem sieve_outer : ∀ (s : Nat) (n : Nat) (c : List Int) (d : Nat) (a b : Int), n ≤ 300 → 0 ≤ a → 0 < b → a ≤ b → b ≤ 1000000 → c.length = n + 1 → 1 ≤ d → d ≤ n + 1 → n + 1 = d + s →
    (∀ m : Nat, 1 ≤ m → m ≤ n → rd c m = if m < d then (cntRow a b m : Int) else -(took a b m (d - 1) : Int)) →
    Ev (fun k => yard_below.l0 k n c (cnt a b (d - 1) : Int) d a b) (cnt a b n : Int) := by
  intro s
  induction s with
  | zero =>
    intro n c d a b hn ha hb hab hbm hc hd hdn hs H
    refine ⟨1, fun k hk => ?_⟩
    obtain ⟨j, rfl⟩ : ∃ j, k = j + 1 := ⟨k - 1, by omega⟩
    simp only [yard_below.l0]
    rw [if_neg (by omega), show d - 1 = n by omega]
  | succ s ih =>
    intro n c d a b hn ha hb hab hbm hc hd hdn hs H
    have hceil := all_ceil ha hb hab d
    rw [all_split a b d (by omega)] at hceil
    have hts := took_succ a b d (d - 1)
    rw [show d - 1 + 1 = d by omega, if_pos (Nat.dvd_refl d)] at hts
    have hceil2 : ((d : Int) * a + b - 1) / b = (took a b d (d - 1) + cntRow a b d : Nat) := by rw [← hts]; exact hceil.symm
    have v := H d hd (by omega)
    rw [if_neg (by omega)] at v
    have t1 := took_le a b d (d - 1) (by omega)
    have t2 := cntRow_le a b d
    have m1 : (d : Int) * a ≤ 300 * 1000000 := Int.mul_le_mul (by omega) (by omega) ha (by omega)
    have m0 : 0 ≤ (d : Int) * a := Int.mul_nonneg (by omega) ha
    have hc0 := cnt_le a b (d - 1) (by omega)
    have hcs : cnt a b d = cnt a b (d - 1) + cntRow a b d := by
      obtain ⟨e, rfl⟩ : ∃ e, d = e + 1 := ⟨d - 1, by omega⟩
      rfl
    have hq : wrap64 (Int.tdiv (wrap64 (wrap64 (wrap64 ((d : Int) * a) + b) - 1)) b) = ((took a b d (d - 1) + cntRow a b d : Nat) : Int) := by
      rw [w64 (n := (d : Int) * a) (by omega), w64 (n := (d : Int) * a + b) (by omega), w64 (n := (d : Int) * a + b - 1) (by omega), Int.tdiv_eq_ediv_of_nonneg (by omega), hceil2, w64 (by omega)]
    have hnew : wrap64 (rd c d + wrap64 (Int.tdiv (wrap64 (wrap64 (wrap64 ((d : Int) * a) + b) - 1)) b)) = (cntRow a b d : Int) := by
      rw [hq, v, w64 (by omega)]; omega
    have hK := sieve_inner (n + 1) n (c.set d (cntRow a b d : Int)) (cnt a b d : Int) d (2 * d) a b (cnt a b n : Int) hn (by simpa using hc) hd (by omega) (by omega) ⟨2, Nat.mul_comm ..⟩ (by omega) (fun m h1 h2 => ?_) (fun c' hc' H' => ?_)
    · refine Ev.step (fun k => ?_) hK
      show yard_below.l0 (k + 1) _ _ _ _ _ _ = _
      simp only [yard_below.l0]
      rw [if_pos (by omega), if_pos (by omega), if_pos (by omega), if_neg (by omega), hnew, w64 (n := (cnt a b (d - 1) : Int) + cntRow a b d) (by omega), w64 (n := 2 * (d : Int)) (by omega), Int.toNat_natCast, hcs]
      rfl
    · rw [rd_set _ _ _ _ (by omega)]
      by_cases hmd : m = d
      · subst hmd
        rw [if_pos rfl, if_pos (Nat.le_refl _)]
      · rw [if_neg hmd, H m h1 h2]
        by_cases hlt : m < d
        · rw [if_pos hlt, if_pos (by omega)]
        · rw [if_neg hlt, if_neg (by omega)]
          by_cases hlt2 : m < 2 * d
          · rw [if_pos hlt2]
            have hnd : ¬ d ∣ m := by
              intro hdm
              have hsub := Nat.dvd_sub hdm (Nat.dvd_refl d)
              have := Nat.le_of_dvd (by omega) hsub
              omega
            have := took_succ a b m (d - 1)
            rw [show d - 1 + 1 = d by omega, if_neg hnd] at this
            rw [this]
            rfl
          · rw [if_neg hlt2]
    · have := ih n c' (d + 1) a b hn ha hb hab hbm hc' (by omega) (by omega) (by omega) (by simpa using H')
      simpa using this
theorem below_ev {n : Nat} {a b : Int} (hn : n ≤ 300) (ha : 0 ≤ a) (hb : 0 < b) (hab : a ≤ b) (hbm : b ≤ 1000000) : Ev (fun k => yard_below.f k n a b) (cnt a b n : Int) := by
  have h := sieve_outer n n (List.replicate (n + 1) 0) 1 a b hn ha hb hab hbm (by simp) (by omega) (by omega) (by omega) (fun m h1 h2 => by
    rw [if_neg (by omega)]
    simp [took, sumTo, rd, List.getD_eq_getElem?_getD, show m < n + 1 by omega])
  simp only [yard_below.f]
  rw [w64 (n := (n : Int) + 1) (by omega)]
  refine Ev.ite_true (by omega) (Ev.ite_true (by omega) ?_)
  simpa [cnt] using h
def okN (n : Int) : Bool := decide (1 ≤ n ∧ n ≤ 300)
theorem isRow_eval (n : Int) : yard_isRow.f n = some (okN n) := by
  simp only [yard_isRow.f, yard_within.f, okN]
  by_cases h1 : n ≥ 1
  · rw [if_pos h1]; simp; omega
  · rw [if_neg h1]; simp; omega
theorem size_ev {n : Nat} (h : okN n = true) : Ev (fun k => yard_Size.f k n) (((cnt 1 1 n : Nat) : Int) + 1, 0) := by
  simp [okN] at h
  have hc := cnt_le 1 1 n (by omega)
  simp only [yard_Size.f, isRow_eval, Option.bind_some]
  refine Ev.ite_true (by simp [okN]; omega) (Ev.bind (below_ev (by omega) (by omega) (by omega) (by omega) (by omega)) (Ev.to (Ev.now _) ?_))
  rw [w64 (by omega), Int.add_comm]
theorem cnt_pos {n : Nat} (hn : 1 ≤ n) : 1 ≤ cnt 1 1 n := by
  induction n with
  | zero => omega
  | succ n ih =>
    rcases Nat.eq_zero_or_pos n with rfl | h
    · decide
    · have := ih h
      simp only [cnt]
      omega
theorem item_loop {n : Nat} (h1 : 1 ≤ n) (h2 : n ≤ 300) : ∀ (s j : Nat) (rem : Nat), s = cnt 1 1 n - j → j ≤ cnt 1 1 n → rem < 1000000 →
    Ev (fun k => yard_Item.l0 k n (fr n j).1 (fr n j).2 (fr n (j + 1)).1 (fr n (j + 1)).2 rem) (if j + rem ≤ cnt 1 1 n then ((fr n (j + rem)).1, (fr n (j + rem)).2, 0) else (0, 0, 2)) := by
  intro s
  induction s with
  | zero =>
    intro j rem hs hj hr
    have hje : j = cnt 1 1 n := by omega
    subst hje
    refine ⟨1, fun k hk => ?_⟩
    obtain ⟨i, rfl⟩ : ∃ i, k = i + 1 := ⟨k - 1, by omega⟩
    simp only [yard_Item.l0]
    by_cases h0 : (rem : Int) = 0
    · rw [if_pos h0, if_pos (by omega), show rem = 0 by omega]
      rfl
    · rw [if_neg h0, if_neg (by rw [fr_last h1]; decide), if_neg (by omega)]
  | succ s ih =>
    intro j rem hs hj hr
    by_cases h0 : (rem : Int) = 0
    · refine ⟨1, fun k hk => ?_⟩
      obtain ⟨i, rfl⟩ : ∃ i, k = i + 1 := ⟨k - 1, by omega⟩
      simp only [yard_Item.l0]
      rw [if_pos h0, if_pos (by omega), show rem = 0 by omega]
      rfl
    · have hlt := fr_lt h1 (show j < cnt 1 1 n by omega)
      have hnb := fr_nb (n := (n : Int)) (by omega) j
      have hle := fr_le h1 (show j + 1 ≤ cnt 1 1 n by omega)
      have hi := ih (j + 1) (rem - 1) (by omega) (by omega) (by omega)
      have e1 : j + 1 + (rem - 1) = j + rem := by omega
      rw [e1] at hi
      have hb1 := hnb.b1
      have hbn := hnb.bn
      have hd1 := hnb.d1
      have hdn := hnb.dn
      have ha0 := hnb.a0
      have hc0 := hnb.c0
      have hst := hnb.step
      have hs1 := hst.d1
      have hs2 := hst.dn
      have hs3 := hst.c0
      obtain ⟨e, he⟩ : ∃ e, e = ((n : Int) + (fr n j).2) / (fr n (j + 1)).2 := ⟨_, rfl⟩
      have he0 : 0 ≤ e := by rw [he]; exact Int.ediv_nonneg (by omega) (by omega)
      have hen : e ≤ n + (fr n j).2 := by rw [he]; exact Int.ediv_le_self _ (by omega)
      rw [← he] at hs1 hs2 hs3
      have m1 : e * (fr n (j + 1)).1 ≤ 600 * 300 := Int.mul_le_mul (by omega) (by omega) hc0 (by omega)
      have m2 : e * (fr n (j + 1)).2 ≤ 600 * 300 := Int.mul_le_mul (by omega) (by omega) (by omega) (by omega)
      have m3 : 0 ≤ e * (fr n (j + 1)).1 := Int.mul_nonneg he0 hc0
      have m4 : 0 ≤ e * (fr n (j + 1)).2 := Int.mul_nonneg he0 (by omega)
      refine Ev.step (fun k => ?_) hi
      show yard_Item.l0 (k + 1) _ _ _ _ _ _ = _
      simp only [yard_Item.l0]
      rw [if_neg h0, if_pos hlt, if_neg (by omega), w64 (n := (n : Int) + (fr n j).2) (by omega), Int.tdiv_eq_ediv_of_nonneg (by omega), ← he, w64 (n := e) (by omega), w64 (n := e * (fr n (j + 1)).1) (by omega), w64 (n := e * (fr n (j + 1)).2) (by omega),
        w64 (by omega), w64 (by omega), w64 (by omega), show (rem : Int) - 1 = ((rem - 1 : Nat) : Int) by omega, he]
      rfl
theorem item_ev {n : Nat} (h : okN n = true) {i : Nat} (hi : i ≤ cnt 1 1 n) : Ev (fun k => yard_Item.f k n i) ((fr n i).1, (fr n i).2, 0) := by
  have h' := h
  simp [okN] at h'
  simp only [yard_Item.f, isRow_eval, Option.bind_some]
  refine Ev.ite_true h (Ev.ite_false (by omega) ?_)
  have hc := cnt_le 1 1 n (by omega)
  have := item_loop (n := n) (by omega) (by omega) _ 0 i rfl (by omega) (by omega)
  rw [if_pos (by omega), show 0 + i = i by omega] at this
  exact this
def frT (n : Int) (k : Nat) : S23 := ⟨(fr n k).1, (fr n k).2⟩
theorem neigh_ev (a b c d : Int) : Ev (fun k => yard_Neighbors.f k a b c d) (if okF a b && okF c d then ((wrap64 ((wrap64 (c * b)) - (wrap64 (a * d)))) == 1, 0) else (false, 2)) := by
  refine Ev.bind (isFrac_ev a b) ?_
  cases okF a b with
  | false => exact Ev.now _
  | true =>
    refine Ev.ite_true rfl (Ev.bind (isFrac_ev c d) ?_)
    cases okF c d with
    | false => exact Ev.now _
    | true => exact Ev.now _
/-- c/d is the first of the row of order n above a/b. -/
structure Succ (n a b c d : Int) : Prop where
  d1 : 1 ≤ d
  dn : d ≤ n
  c0 : 0 ≤ c
  cd : c ≤ d
  low : Int.gcd c d = 1
  gt : a * d < c * b
  first : ∀ x y, 1 ≤ y → y ≤ n → a * y < x * b → c * y ≤ x * d
theorem Nb.succ {n a b c d : Int} (h : Nb n a b c d) (hab : a < b) : Succ n a b c d := by
  have hle := h.le hab
  refine ⟨h.d1, h.dn, h.c0, hle, h.gcd.2, by have := h.det; omega, fun x y hy hyn hlt => ?_⟩
  rcases Int.lt_or_le (x * d) (c * y) with h1 | h1
  · have := h.none hlt h1
    omega
  · exact h1
theorem fr_lt_iff {n : Nat} (hn : 1 ≤ n) {a b : Int} (hb : 0 < b) (hab : a ≤ b) {i : Nat} (hi : i ≤ cnt 1 1 n) : (fr n i).1 * b < a * (fr n i).2 ↔ i < cnt a b n := by
  have h1 := fr_at hn hi
  have hnb := fr_nb (n := (n : Int)) (by omega) i
  have hd := hnb.b1
  constructor
  · intro h
    have := cnt_more hnb.a0 (by omega) hb hnb.gcd.1 h hab n
    rw [if_pos hnb.bn] at this
    omega
  · intro h
    rcases Int.lt_or_le ((fr n i).1 * b) (a * (fr n i).2) with h2 | h2
    · exact h2
    · have := cnt_mono hb (show 0 < (fr n i).2 by omega) h2 n
      omega
theorem fr_order {n : Nat} (hn : 1 ≤ n) {i j : Nat} (hij : i < j) (hj : j ≤ cnt 1 1 n) : (fr n i).1 * (fr n j).2 < (fr n j).1 * (fr n i).2 := by
  have hnb := fr_nb (n := (n : Int)) (by omega) j
  have hd := hnb.b1
  rw [fr_lt_iff hn (by omega) (fr_le hn hj) (by omega), fr_at hn hj]
  exact hij
theorem mul_small {x y : Int} (hx0 : 0 ≤ x) (hx : x ≤ 300) (hy0 : 0 ≤ y) (hy : y ≤ 1000000) : 0 ≤ x * y ∧ x * y ≤ 300000000 := by
  have h1 := Int.mul_nonneg hx0 hy0
  have h2 : x * y ≤ 300 * 1000000 := Int.mul_le_mul hx hy hy0 (by omega)
  omega
theorem refLess_row {n : Nat} (hn : 1 ≤ n) (h3 : n ≤ 300) {a b : Int} (ha : 0 ≤ a) (hab : a ≤ b) (hbm : b ≤ 1000000) {i : Nat} (hi : i ≤ cnt 1 1 n) :
    galloonref03_Less.f (fr n i).1 (fr n i).2 a b = some (decide ((fr n i).1 * b < a * (fr n i).2)) ∧ galloonref03_Less.f a b (fr n i).1 (fr n i).2 = some (decide (a * (fr n i).2 < (fr n i).1 * b)) := by
  have hnb := fr_nb (n := (n : Int)) (by omega) i
  have hle := fr_le hn hi
  have h1 := hnb.a0
  have h2 := hnb.bn
  have h4 := hnb.b1
  have m1 := mul_small h1 (by omega) (show 0 ≤ b by omega) hbm
  have m2 := mul_small (show 0 ≤ (fr n i).2 by omega) (by omega) ha (by omega)
  rw [Int.mul_comm (fr n i).2 a] at m2
  simp only [galloonref03_Less.f]
  rw [w64 (n := (fr n i).1 * b) (by omega), w64 (n := a * (fr n i).2) (by omega)]
  exact ⟨rfl, rfl⟩
def touch (e : Int × Int) (a b : Int) : Bool := (a * e.2 - e.1 * b == 1) || (e.1 * b - a * e.2 == 1)
def touching (n a b : Int) : Nat → List S23
  | 0 => []
  | j + 1 => if touch (fr n j) a b then touching n a b j ++ [frT n j] else touching n a b j
theorem touching_len (n a b : Int) : ∀ j, (touching n a b j).length ≤ j
  | 0 => Nat.le_refl _
  | j + 1 => by
    have := touching_len n a b j
    simp only [touching]
    split
    · simp; omega
    · omega
theorem touch_row {n : Nat} (hn : 1 ≤ n) (h3 : n ≤ 300) {a b : Int} (ha : 0 ≤ a) (hab : a ≤ b) (hbm : b ≤ 1000000) {i : Nat} (hi : i ≤ cnt 1 1 n) :
    wrap64 (wrap64 (a * (fr n i).2) - wrap64 ((fr n i).1 * b)) = a * (fr n i).2 - (fr n i).1 * b ∧ wrap64 (wrap64 ((fr n i).1 * b) - wrap64 (a * (fr n i).2)) = (fr n i).1 * b - a * (fr n i).2 := by
  have hnb := fr_nb (n := (n : Int)) (by omega) i
  have hle := fr_le hn hi
  have h1 := hnb.a0
  have h2 := hnb.bn
  have h4 := hnb.b1
  have m1 := mul_small h1 (by omega) (show 0 ≤ b by omega) hbm
  have m2 := mul_small (show 0 ≤ (fr n i).2 by omega) (by omega) ha (by omega)
  rw [Int.mul_comm (fr n i).2 a] at m2
  rw [w64 (n := (fr n i).1 * b) (by omega), w64 (n := a * (fr n i).2) (by omega)]
  exact ⟨w64 (by omega), w64 (by omega)⟩
theorem yardTouching_loop {n : Nat} (hn : 1 ≤ n) (h3 : n ≤ 300) {a b : Int} (ha : 0 ≤ a) (hab : a ≤ b) (hbm : b ≤ 1000000) : ∀ (s j : Nat), cnt 1 1 n = j + s →
    Ev (fun k => yard_Touching.l0 k n (fr n j).1 (fr n j).2 (fr n (j + 1)).1 (fr n (j + 1)).2 (touching n a b j) a b) (touching n a b (cnt 1 1 n + 1), 0) := by
  have hc := cnt_le 1 1 n h3
  intro s
  induction s with
  | zero =>
    intro j hj
    obtain rfl : j = cnt 1 1 n := by omega
    have hl := touching_len n a b (cnt 1 1 n)
    obtain ⟨t1, t2⟩ := touch_row hn h3 ha hab hbm (show cnt 1 1 n ≤ cnt 1 1 n by omega)
    have hlast : ¬ (fr n (cnt 1 1 n)).1 < (fr n (cnt 1 1 n)).2 := by rw [fr_last hn]; decide
    refine ⟨1, fun k hk => ?_⟩
    obtain ⟨i, rfl⟩ : ∃ i, k = i + 1 := ⟨k - 1, by omega⟩
    simp only [yard_Touching.l0, yard_beside.f, touching]
    rw [t1, t2, Option.bind_some, if_neg hlast, if_neg hlast]
    by_cases c1 : (a * (fr n (cnt 1 1 n)).2 - (fr n (cnt 1 1 n)).1 * b == 1) = true
    · have ht : touch (fr n (cnt 1 1 n)) a b = true := by simp only [touch, c1, Bool.true_or]
      by_cases c3 : ((fr n (cnt 1 1 n)).1 * b - a * (fr n (cnt 1 1 n)).2 == 1) = true
      · rw [if_pos c3, Option.bind_some, if_pos rfl, if_pos (by omega), if_pos ht]; rfl
      · rw [if_neg c3, Option.bind_some, if_pos c1, if_pos (by omega), if_pos ht]; rfl
    · by_cases c2 : ((fr n (cnt 1 1 n)).1 * b - a * (fr n (cnt 1 1 n)).2 == 1) = true
      · have ht : touch (fr n (cnt 1 1 n)) a b = true := by simp only [touch, c2, Bool.or_true]
        rw [if_pos c2, Option.bind_some, if_pos rfl, if_pos (by omega), if_pos ht]; rfl
      · have ht : ¬ touch (fr n (cnt 1 1 n)) a b = true := by simp only [touch, Bool.or_eq_true, not_or]; exact ⟨c1, c2⟩
        rw [if_neg c2, Option.bind_some, if_neg c1, if_neg ht]
  | succ s ih =>
    intro j hj
    have hi := ih (j + 1) (by omega)
    have hl := touching_len n a b j
    obtain ⟨t1, t2⟩ := touch_row hn h3 ha hab hbm (show j ≤ cnt 1 1 n by omega)
    have hlt := fr_lt hn (show j < cnt 1 1 n by omega)
    have hnb := fr_nb (n := (n : Int)) (by omega) j
    have hle := fr_le hn (show j + 1 ≤ cnt 1 1 n by omega)
    have hb1 := hnb.b1
    have hbn := hnb.bn
    have hd1 := hnb.d1
    have hdn := hnb.dn
    have ha0 := hnb.a0
    have hc0 := hnb.c0
    have hst := hnb.step
    have hs1 := hst.d1
    have hs2 := hst.dn
    have hs3 := hst.c0
    obtain ⟨e, he⟩ : ∃ e, e = ((n : Int) + (fr n j).2) / (fr n (j + 1)).2 := ⟨_, rfl⟩
    have he0 : 0 ≤ e := by rw [he]; exact Int.ediv_nonneg (by omega) (by omega)
    have hen : e ≤ n + (fr n j).2 := by rw [he]; exact Int.ediv_le_self _ (by omega)
    rw [← he] at hs1 hs2 hs3
    have m1 : e * (fr n (j + 1)).1 ≤ 600 * 300 := Int.mul_le_mul (by omega) (by omega) hc0 (by omega)
    have m2 : e * (fr n (j + 1)).2 ≤ 600 * 300 := Int.mul_le_mul (by omega) (by omega) (by omega) (by omega)
    have m3 : 0 ≤ e * (fr n (j + 1)).1 := Int.mul_nonneg he0 hc0
    have m4 : 0 ≤ e * (fr n (j + 1)).2 := Int.mul_nonneg he0 (by omega)
    have e1 : wrap64 (wrap64 (wrap64 (Int.tdiv (wrap64 (n + (fr n j).2)) (fr n (j + 1)).2) * (fr n (j + 1)).1) - (fr n j).1) = (fr n (j + 1 + 1)).1 := by
      rw [w64 (n := (n : Int) + (fr n j).2) (by omega), Int.tdiv_eq_ediv_of_nonneg (by omega), ← he, w64 (n := e) (by omega), w64 (n := e * (fr n (j + 1)).1) (by omega), w64 (by omega), he]
      rfl
    have e2 : wrap64 (wrap64 (wrap64 (Int.tdiv (wrap64 (n + (fr n j).2)) (fr n (j + 1)).2) * (fr n (j + 1)).2) - (fr n j).2) = (fr n (j + 1 + 1)).2 := by
      rw [w64 (n := (n : Int) + (fr n j).2) (by omega), Int.tdiv_eq_ediv_of_nonneg (by omega), ← he, w64 (n := e) (by omega), w64 (n := e * (fr n (j + 1)).2) (by omega), w64 (by omega), he]
      rfl
    rw [touching] at hi
    refine Ev.step (fun k => ?_) hi
    show yard_Touching.l0 (k + 1) _ _ _ _ _ _ _ _ = _
    simp only [yard_Touching.l0, yard_beside.f]
    rw [t1, t2, e1, e2, Option.bind_some, if_pos hlt, if_pos hlt, if_neg (show ¬ (fr n (j + 1)).2 = 0 by omega), if_neg (show ¬ (fr n (j + 1)).2 = 0 by omega)]
    by_cases c1 : (a * (fr n j).2 - (fr n j).1 * b == 1) = true
    · have ht : touch (fr n j) a b = true := by simp only [touch, c1, Bool.true_or]
      by_cases c3 : ((fr n j).1 * b - a * (fr n j).2 == 1) = true
      · rw [if_pos c3, Option.bind_some, if_pos rfl, if_pos (by omega), if_pos ht]; rfl
      · rw [if_neg c3, Option.bind_some, if_pos c1, if_pos (by omega), if_pos ht]; rfl
    · by_cases c2 : ((fr n j).1 * b - a * (fr n j).2 == 1) = true
      · have ht : touch (fr n j) a b = true := by simp only [touch, c2, Bool.or_true]
        rw [if_pos c2, Option.bind_some, if_pos rfl, if_pos (by omega), if_pos ht]; rfl
      · have ht : ¬ touch (fr n j) a b = true := by simp only [touch, Bool.or_eq_true, not_or]; exact ⟨c1, c2⟩
        rw [if_neg c2, Option.bind_some, if_neg c1, if_neg ht]
theorem yardTouching_ev {n : Nat} (h : okN n = true) {a b : Int} (hf : okF a b = true) : Ev (fun k => yard_Touching.f k n a b) (if b > n then ([], 2) else (touching n a b (cnt 1 1 n + 1), 0)) := by
  obtain ⟨h1, h2, h3, h4, h5⟩ := okF_iff.1 hf
  have hfr := isFrac_ev a b
  rw [hf] at hfr
  have h' := h
  simp [okN] at h'
  simp only [yard_Touching.f, isRow_eval, Option.bind_some]
  refine Ev.ite_true h (Ev.bind hfr (Ev.ite_true rfl ?_))
  by_cases hb : b > n
  · rw [if_pos hb]
    exact Ev.ite_true hb (Ev.now _)
  · rw [if_neg hb]
    exact Ev.ite_false hb (yardTouching_loop (n := n) (by omega) (by omega) h3 h4 h2 (cnt 1 1 n) 0 (by omega))
theorem belows_awake : Ev (fun k => (galloonlaw03_awake.f k).bind fun t => some t) true := Ev.bind awake_ev (Ev.now _)
theorem fr_mirror {n : Nat} (hn : 1 ≤ n) : ∀ j, j ≤ cnt 1 1 n → fr n j = ((fr n (cnt 1 1 n - j)).2 - (fr n (cnt 1 1 n - j)).1, (fr n (cnt 1 1 n - j)).2)
  | 0, _ => by rw [Nat.sub_zero, fr_last hn]; rfl
  | j + 1, h => by
    have ih := fr_mirror hn j (by omega)
    have h1 := fr_nb (n := (n : Int)) (by omega) j
    have h2 := fr_nb (n := (n : Int)) (by omega) (cnt 1 1 n - (j + 1))
    rw [show cnt 1 1 n - (j + 1) + 1 = cnt 1 1 n - j by omega] at h2
    have l1 := fr_le hn (show cnt 1 1 n - j ≤ cnt 1 1 n by omega)
    have l2 := fr_le hn (show cnt 1 1 n - (j + 1) ≤ cnt 1 1 n by omega)
    have h3 : Nb n (fr n j).1 (fr n j).2 ((fr n (cnt 1 1 n - (j + 1))).2 - (fr n (cnt 1 1 n - (j + 1))).1) (fr n (cnt 1 1 n - (j + 1))).2 := by
      rw [ih]
      obtain ⟨b1, bn, d1, dn, a0, c0, det, far⟩ := h2
      exact ⟨d1, dn, b1, bn, by simp only; omega, by omega, by simp only; grind, by simp only; omega⟩
    have := h1.unique h3
    exact Prod.ext this.1 this.2
theorem Ev.of_eq {α : Type} {g : Option α} {r : α} (h : g = some r) : Ev (fun _ => g) r := by rw [h]; exact Ev.now _
theorem row_ok {n : Nat} (hok : okN n = true) {i : Nat} (hi : i ≤ cnt 1 1 n) : okF (fr n i).1 (fr n i).2 = true ∧ 1 ≤ (fr n i).2 ∧ (fr n i).2 ≤ n ∧ 0 ≤ (fr n i).1 ∧ (fr n i).1 ≤ (fr n i).2 := by
  have hn := hok
  simp [okN] at hn
  have hnb := fr_nb (n := (n : Int)) (by omega) i
  have h1 := hnb.b1
  have h2 := hnb.bn
  have h3 := hnb.a0
  have h4 := fr_le (show 1 ≤ n by omega) hi
  exact ⟨okF_iff.2 ⟨h1, by omega, h3, h4, hnb.gcd.1⟩, h1, h2, h3, h4⟩
/-- The places in the row at which a fraction's neighbors stand. -/
def idx (n a b : Int) (m : Nat) : List Nat := (List.range m).filter fun i => touch (fr n i) a b
theorem touching_idx (n a b : Int) : ∀ m, touching n a b m = (idx n a b m).map (frT n)
  | 0 => rfl
  | m + 1 => by
    have ih := touching_idx n a b m
    unfold idx at ih ⊢
    rw [List.range_succ, List.filter_append, List.map_append, ← ih]
    simp only [touching]
    by_cases c : touch (fr n m) a b = true
    · rw [if_pos c]; simp [c]
    · rw [if_neg c]; simp [c]
theorem touch_mirror {n : Nat} (hn : 1 ≤ n) {a b : Int} {i : Nat} (hi : i ≤ cnt 1 1 n) : touch (fr n (cnt 1 1 n - i)) (b - a) b = touch (fr n i) a b := by
  have h := fr_mirror hn (cnt 1 1 n - i) (by omega)
  rw [show cnt 1 1 n - (cnt 1 1 n - i) = i by omega] at h
  rw [h]
  unfold touch
  simp only
  have e1 : (b - a) * (fr n i).2 - ((fr n i).2 - (fr n i).1) * b = (fr n i).1 * b - a * (fr n i).2 := by
    rw [Int.sub_mul, Int.sub_mul, Int.mul_comm b (fr n i).2]; omega
  have e2 : ((fr n i).2 - (fr n i).1) * b - (b - a) * (fr n i).2 = a * (fr n i).2 - (fr n i).1 * b := by
    rw [Int.sub_mul, Int.sub_mul, Int.mul_comm b (fr n i).2]; omega
  rw [e1, e2, Bool.or_comm]
theorem range_flip (K : Nat) : List.range (K + 1) = (List.range (K + 1)).reverse.map fun x => K - x := by
  refine List.ext_getElem (by simp) (fun i h1 h2 => ?_)
  simp at h1 ⊢
  omega
theorem idx_mirror {n : Nat} (hn : 1 ≤ n) {a b : Int} : idx n (b - a) b (cnt 1 1 n + 1) = (idx n a b (cnt 1 1 n + 1)).reverse.map fun x => cnt 1 1 n - x := by
  unfold idx
  conv => lhs; rw [range_flip]
  rw [List.filter_map, ← List.filter_reverse]
  congr 1
  refine List.filter_congr (fun x hx => ?_)
  rw [List.mem_reverse, List.mem_range] at hx
  exact touch_mirror hn (by omega)
theorem rd_of23 {l : List S23} {i : Nat} {v : S23} (h : l[i]? = some v) : rd_T23 l (i : Int) = v := by
  unfold rd_T23
  rw [Int.toNat_natCast, List.getD_eq_getElem?_getD, h]
  rfl
/-- The bodies of the loop, for any list of places. -/
structure Places (n : Nat) (a b : Int) (I : List Nat) : Prop where
  le : ∀ p ∈ I, p ≤ cnt 1 1 n ∧ touch (fr n p) a b = true
  up : I.Pairwise (· < ·)
  all : ∀ p, p ≤ cnt 1 1 n → touch (fr n p) a b = true → p ∈ I
theorem places {n : Nat} {a b : Int} : Places n a b (idx n a b (cnt 1 1 n + 1)) := by
  refine ⟨fun p hp => ?_, ?_, fun p hp ht => ?_⟩
  · have := List.mem_filter.1 hp
    rw [List.mem_range] at this
    exact ⟨by omega, this.2⟩
  · exact List.Pairwise.filter _ List.pairwise_lt_range
  · exact List.mem_filter.2 ⟨List.mem_range.2 (by omega), ht⟩
theorem fr_inj {n : Nat} (hn : 1 ≤ n) {i j : Nat} (hi : i ≤ cnt 1 1 n) (hj : j ≤ cnt 1 1 n) (h1 : (fr n i).1 = (fr n j).1) (h2 : (fr n i).2 = (fr n j).2) : i = j := by
  rcases Nat.lt_trichotomy i j with h | h | h
  · have := fr_order hn h hj
    rw [h1, h2] at this; omega
  · exact h
  · have := fr_order hn h hi
    rw [h1, h2] at this; omega
theorem nb_eval {n : Nat} (hok : okN n = true) {a b : Int} (hf : okF a b = true) {p : Nat} (hp : p ≤ cnt 1 1 n) : wrap64 (wrap64 (a * (fr n p).2) - wrap64 ((fr n p).1 * b)) = a * (fr n p).2 - (fr n p).1 * b ∧ wrap64 (wrap64 ((fr n p).1 * b) - wrap64 (a * (fr n p).2)) = (fr n p).1 * b - a * (fr n p).2 := by
  have hn := hok
  simp [okN] at hn
  obtain ⟨h1, h2, h3, h4, h5⟩ := okF_iff.1 hf
  obtain ⟨r1, r2, r3, r4, r5⟩ := row_ok hok hp
  have u1 := mul_small r4 (by omega) (show 0 ≤ b by omega) h2
  have u2 := mul_small (show 0 ≤ (fr n p).2 by omega) (by omega) h3 (by omega)
  rw [Int.mul_comm (fr n p).2 a] at u2
  rw [w64 (n := a * (fr n p).2) (by omega), w64 (n := (fr n p).1 * b) (by omega), w64 (by omega), w64 (by omega)]
  exact ⟨rfl, rfl⟩
theorem touched_end {n : Nat} (hok : okN n = true) {a b : Int} (hf : okF a b = true) {i : Nat} (hi : i ≤ cnt 1 1 n) {x15 : Bool} (h15 : x15 = touch (fr n i) a b) {T M : List S23} {x16 : Int} (hx : ¬ x16 < (T.length : Int)) :
    Ev (fun k => galloonlaw03_YardTouched.l0 k n T M 0 x15 x16 a b (fr n i).1 (fr n i).2) true := by
  obtain ⟨r1, r2, r3, r4, r5⟩ := row_ok hok hi
  obtain ⟨e1, e2⟩ := nb_eval hok hf hi
  have n1 := neigh_ev (fr n i).1 (fr n i).2 a b
  have n2 := neigh_ev a b (fr n i).1 (fr n i).2
  rw [r1, hf, e1] at n1
  rw [r1, hf, e2] at n2
  simp only [Bool.and_self, if_true] at n1 n2
  unfold touch at h15
  obtain ⟨p1, hp1⟩ : ∃ p1, p1 = (a * (fr n i).2 - (fr n i).1 * b == 1) := ⟨_, rfl⟩
  obtain ⟨p2, hp2⟩ : ∃ p2, p2 = ((fr n i).1 * b - a * (fr n i).2 == 1) := ⟨_, rfl⟩
  rw [← hp1] at n1 h15
  rw [← hp2] at n2 h15
  refine Ev.step (f := fun k => (yard_Neighbors.f k (fr n i).1 (fr n i).2 a b).bind fun bt481 => ((yard_Neighbors.f k a b (fr n i).1 (fr n i).2).bind fun bt483 => (if (0 : Int) = 0 then (if bt481.2 = 0 then (if bt483.2 = 0 then (if bt481.1 = true then (if (x15 == true) = true then ((galloonlaw03_awake.f k).bind fun t485 => (some t485)) else (some false)) else (if (x15 == bt483.1) = true then ((galloonlaw03_awake.f k).bind fun t486 => (some t486)) else (some false))) else (some false)) else (some false)) else (some false)))) (fun k => ?_) (Ev.bind n1 (Ev.bind n2 (Ev.ite_true rfl (Ev.ite_true rfl (Ev.ite_true rfl ?_)))))
  · simp only [galloonlaw03_YardTouched.l0]
    rw [if_neg hx]
  · cases p1 with
    | true => exact Ev.ite_true rfl (Ev.ite_true (by rw [h15]; rfl) belows_awake)
    | false => exact Ev.ite_false (by simp) (Ev.ite_true (by rw [h15]; simp) belows_awake)
theorem touched_less {n : Nat} (hok : okN n = true) {a b : Int} {I : List Nat} (hI : Places n a b I) {T : List S23} (hT : T = I.map (frT n)) {j p : Nat} (hj : j < I.length) (hp : p = I[j]) (h0 : 0 < j) (r4 : 0 ≤ (fr n p).1) (r5 : (fr n p).1 ≤ (fr n p).2) (r6 : (fr n p).2 ≤ 1000000) (hlen : I.length ≤ 1000000) :
    wrap64 ((j : Int) - 1) = ((j - 1 : Nat) : Int) ∧ galloonref03_Less.f ((rd_T23 T (wrap64 ((j : Int) - 1))).f0) ((rd_T23 T (wrap64 ((j : Int) - 1))).f1) (fr n p).1 (fr n p).2 = some true := by
  have hn := hok
  simp [okN] at hn
  have hn1 : 1 ≤ n := by omega
  have hn300 : n ≤ 300 := by omega
  have hw4 : wrap64 ((j : Int) - 1) = ((j - 1 : Nat) : Int) := by rw [w64 (by omega)]; omega
  have hj1 : j - 1 < I.length := by omega
  obtain ⟨q, hq⟩ : ∃ q, q = I[j - 1] := ⟨_, rfl⟩
  have hqI : q ∈ I := by rw [hq]; exact List.getElem_mem _
  have hpI : p ∈ I := by rw [hp]; exact List.getElem_mem _
  have hqK := (hI.le q hqI).1
  have hpK := (hI.le p hpI).1
  have hIq : I[j - 1]? = some q := by rw [hq]; exact List.getElem?_eq_getElem _
  have hqp : q < p := by
    rw [hq, hp]
    exact List.pairwise_iff_getElem.1 hI.up (j - 1) j hj1 hj (by omega)
  have hTq : rd_T23 T ((j - 1 : Nat) : Int) = frT n q := rd_of23 (by rw [hT, List.getElem?_map, hIq]; rfl)
  have hl := (refLess_row hn1 hn300 r4 r5 r6 hqK).1
  rw [decide_eq_true (fr_order hn1 hqp hpK)] at hl
  exact ⟨hw4, by rw [hw4, hTq]; exact hl⟩
set_option maxHeartbeats 4000000 in
theorem touched_loop {n : Nat} (hok : okN n = true) {a b : Int} (hf : okF a b = true) {i : Nat} (hi : i ≤ cnt 1 1 n) {I : List Nat} (hI : Places n a b I) (hlen : I.length ≤ 1000000) {T M : List S23} (hT : T = I.map (frT n)) (hM : M = I.reverse.map fun x => frT n (cnt 1 1 n - x)) :
    ∀ (s j : Nat), j + s = I.length → Ev (fun k => galloonlaw03_YardTouched.l0 k n T M 0 (decide (i ∈ I.take j)) (j : Int) a b (fr n i).1 (fr n i).2) true
  | 0, j, h => by
    have hTl : T.length = I.length := by rw [hT, List.length_map]
    refine touched_end hok hf hi ?_ (by omega)
    rw [List.take_of_length_le (by omega)]
    by_cases c : i ∈ I
    · rw [decide_eq_true c, (hI.le i c).2]
    · rw [decide_eq_false c]
      cases ht : touch (fr n i) a b with
      | false => rfl
      | true => exact absurd (hI.all i hi ht) c
  | s + 1, j, h => by
    have hn := hok
    simp [okN] at hn
    have hn1 : 1 ≤ n := by omega
    have hj : j < I.length := by omega
    have hTl : T.length = I.length := by rw [hT, List.length_map]
    have hMl : M.length = I.length := by rw [hM, List.length_map, List.length_reverse]
    have hj1 : j - 1 < I.length := by omega
    have hn300 : n ≤ 300 := by omega
    have qa : (0 : Int) ≤ (j : Int) := Int.natCast_nonneg j
    have qb : (j : Int) < (T.length : Int) := by rw [hTl]; exact Int.ofNat_lt.2 hj
    have qc : (0 : Int) ≤ ((I.length - 1 - j : Nat) : Int) := Int.natCast_nonneg _
    have qd : ((I.length - 1 - j : Nat) : Int) < (M.length : Int) := by rw [hMl]; exact Int.ofNat_lt.2 (by omega)
    obtain ⟨p, hp⟩ : ∃ p, p = I[j] := ⟨_, rfl⟩
    have hpI : p ∈ I := by rw [hp]; exact List.getElem_mem hj
    obtain ⟨hpK, hpt⟩ := hI.le p hpI
    have hIj : I[j]? = some p := by rw [hp]; exact List.getElem?_eq_getElem hj
    have hTj : rd_T23 T (j : Int) = frT n p := rd_of23 (by rw [hT, List.getElem?_map, hIj]; rfl)
    have hMj : rd_T23 M ((I.length - 1 - j : Nat) : Int) = frT n (cnt 1 1 n - p) := rd_of23 (by
      rw [hM, List.getElem?_map, List.getElem?_reverse (by omega), show I.length - 1 - (I.length - 1 - j) = j by omega, hIj]; rfl)
    have hmir := fr_mirror hn1 (cnt 1 1 n - p) (by omega)
    rw [show cnt 1 1 n - (cnt 1 1 n - p) = p by omega] at hmir
    obtain ⟨r1, r2, r3, r4, r5⟩ := row_ok hok hpK
    have r6 : (fr n p).2 ≤ 1000000 := Int.le_trans r3 (by omega)
    obtain ⟨e1, e2⟩ := nb_eval hok hf hpK
    have hv := valid_ev (fr n p).1 (fr n p).2
    rw [r1] at hv
    have hw1 : wrap64 (wrap64 ((M.length : Int) - 1) - (j : Int)) = ((I.length - 1 - j : Nat) : Int) := by
      rw [w64 (n := (M.length : Int) - 1) (by omega), w64 (by omega)]; omega
    have hw2 : wrap64 ((j : Int) + 1) = ((j + 1 : Nat) : Int) := by rw [w64 (by omega)]; rfl
    have hw3 : wrap64 ((fr n p).2 - (fr n p).1) = (fr n p).2 - (fr n p).1 := w64 (by omega)
    have f0 : (frT n p).f0 = (fr n p).1 := rfl
    have f1 : (frT n p).f1 = (fr n p).2 := rfl
    have g0 : (frT n (cnt 1 1 n - p)).f0 = (fr n p).2 - (fr n p).1 := by show (fr n (cnt 1 1 n - p)).1 = _; rw [hmir]
    have g1 : (frT n (cnt 1 1 n - p)).f1 = (fr n p).2 := by show (fr n (cnt 1 1 n - p)).2 = _; rw [hmir]
    have ih := touched_loop hok hf hi hI hlen hT hM s (j + 1) (by omega)
    -- behind the checks
    have hj2 : Ev (fun k => galloonlaw03_YardTouched.j2 k n T M 0 (decide (i ∈ I.take j)) (j : Int) false a b (fr n i).1 (fr n i).2) true := by
      have htk : I.take (j + 1) = I.take j ++ [p] := by rw [List.take_succ_eq_append_getElem hj, hp]
      rw [htk] at ih
      by_cases c : i ∈ I.take j
      · have e : decide (i ∈ I.take j ++ [p]) = true := decide_eq_true (List.mem_append_left _ c)
        rw [e] at ih
        rw [decide_eq_true c]
        refine Ev.step (f := fun k => galloonlaw03_YardTouched.l0 k n T M 0 true ((j + 1 : Nat) : Int) a b (fr n i).1 (fr n i).2) (fun k => ?_) ih
        simp only [galloonlaw03_YardTouched.j2]
        rw [if_neg (by decide), if_pos trivial, hw2]
      · have e : decide (i ∈ I.take j ++ [p]) = ((fr n p).1 == (fr n i).1 && ((fr n p).2 == (fr n i).2)) := by
          rw [Bool.eq_iff_iff]
          simp only [decide_eq_true_eq, Bool.and_eq_true, beq_iff_eq, List.mem_append, List.mem_singleton]
          constructor
          · rintro (h | h)
            · exact absurd h c
            · rw [h]; exact ⟨rfl, rfl⟩
          · rintro ⟨h1, h2⟩
            exact Or.inr (fr_inj hn1 hpK hi h1 h2).symm
        rw [e] at ih
        rw [decide_eq_false c]
        refine Ev.step (f := fun k => galloonlaw03_YardTouched.l0 k n T M 0 ((fr n p).1 == (fr n i).1 && ((fr n p).2 == (fr n i).2)) ((j + 1 : Nat) : Int) a b (fr n i).1 (fr n i).2) (fun k => ?_) ih
        simp only [galloonlaw03_YardTouched.j2]
        rw [if_neg (by decide), if_neg (by decide), if_pos qa, if_pos qb, hTj, hw2, f0, f1]
    -- the checks behind the neighbors
    obtain ⟨CC, hCC⟩ : ∃ CC : Nat → Option Bool, CC = fun k => (if (0 : Int) ≤ ((I.length - 1 - j : Nat) : Int) then (if ((I.length - 1 - j : Nat) : Int) < (M.length : Int) then ((galloonlaw03_rest.f (fr n p).1 (fr n p).2).bind fun bt466 => (if (!(((fr n p).2 - (fr n p).1) == bt466.1) || (!((fr n p).2 == bt466.2))) = true then (galloonlaw03_YardTouched.j2 k n T M 0 (decide (i ∈ I.take j)) (j : Int) true a b (fr n i).1 (fr n i).2) else (if (j : Int) > 0 then (if 0 ≤ (wrap64 ((j : Int) - 1)) then (if (wrap64 ((j : Int) - 1)) < (T.length : Int) then ((galloonref03_Less.f ((rd_T23 T (wrap64 ((j : Int) - 1))).f0) ((rd_T23 T (wrap64 ((j : Int) - 1))).f1) (fr n p).1 (fr n p).2).bind fun t470 => (galloonlaw03_YardTouched.j2 k n T M 0 (decide (i ∈ I.take j)) (j : Int) (!t470) a b (fr n i).1 (fr n i).2)) else (none)) else (none)) else (galloonlaw03_YardTouched.j2 k n T M 0 (decide (i ∈ I.take j)) (j : Int) false a b (fr n i).1 (fr n i).2)))) else (none)) else (none)) := ⟨_, rfl⟩
    have hC : Ev CC true := by
      rw [hCC]
      have hrest : galloonlaw03_rest.f (fr n p).1 (fr n p).2 = some ((fr n p).2 - (fr n p).1, (fr n p).2) := by unfold galloonlaw03_rest.f; rw [hw3]
      refine Ev.ite_true qc (Ev.ite_true qd (Ev.bind (Ev.of_eq hrest) (Ev.ite_false (by simp) ?_)))
      by_cases c : (j : Int) > 0
      · obtain ⟨hw4, hl2⟩ := touched_less hok hI hT hj hp (Int.ofNat_lt.1 c) r4 r5 r6 hlen
        have qf : (0 : Int) ≤ wrap64 ((j : Int) - 1) := by rw [hw4]; exact Int.natCast_nonneg _
        have qg : wrap64 ((j : Int) - 1) < (T.length : Int) := by rw [hw4, hTl]; exact Int.ofNat_lt.2 hj1
        exact Ev.ite_true c (Ev.ite_true qf (Ev.ite_true qg (Ev.bind (Ev.of_eq hl2) hj2)))
      · exact Ev.ite_false c hj2
    have hnb1 : galloonref03_Neighbors.f (fr n p).1 (fr n p).2 a b = some (a * (fr n p).2 - (fr n p).1 * b == 1) := by unfold galloonref03_Neighbors.f; rw [e1]
    have hnb2 : galloonref03_Neighbors.f a b (fr n p).1 (fr n p).2 = some ((fr n p).1 * b - a * (fr n p).2 == 1) := by unfold galloonref03_Neighbors.f; rw [e2]
    have g : ∀ k, galloonlaw03_YardTouched.l0 (k + 1) n T M 0 (decide (i ∈ I.take j)) (j : Int) a b (fr n i).1 (fr n i).2 = (galloonref03_Valid.f k (fr n p).1 (fr n p).2).bind fun t460 => (if t460 = true then (if (fr n p).2 > (n : Int) then (galloonlaw03_YardTouched.j2 k n T M 0 (decide (i ∈ I.take j)) (j : Int) true a b (fr n i).1 (fr n i).2) else ((galloonref03_Neighbors.f (fr n p).1 (fr n p).2 a b).bind fun t463 => (if t463 = true then CC k else ((galloonref03_Neighbors.f a b (fr n p).1 (fr n p).2).bind fun t472 => (if t472 = true then CC k else (galloonlaw03_YardTouched.j2 k n T M 0 (decide (i ∈ I.take j)) (j : Int) true a b (fr n i).1 (fr n i).2)))))) else (galloonlaw03_YardTouched.j2 k n T M 0 (decide (i ∈ I.take j)) (j : Int) true a b (fr n i).1 (fr n i).2)) := by
      intro k
      rw [hCC]
      simp only [galloonlaw03_YardTouched.l0]
      rw [if_pos qb, if_pos qa, hTj, hw1, hMj, f0, f1, g0, g1]
    refine Ev.step g (Ev.bind hv (Ev.ite_true rfl (Ev.ite_false (Int.not_lt.2 r3) (Ev.bind (Ev.of_eq hnb1) ?_))))
    unfold touch at hpt
    cases c1 : (a * (fr n p).2 - (fr n p).1 * b == 1) with
    | true => exact Ev.ite_true rfl hC
    | false =>
      rw [c1, Bool.false_or] at hpt
      rw [hpt] at hnb2
      exact Ev.ite_false (by simp) (Ev.bind (Ev.of_eq hnb2) (Ev.ite_true rfl hC))
theorem YardTouched : galloonlaw03_YardTouched.Pure := by
  intro a0 a1 c0 c1 _ _ _ _
  obtain ⟨v, hv, v0, v1⟩ := mod_val a0 300 (by decide) (by decide)
  obtain ⟨n, hn⟩ : ∃ n : Nat, wrap64 (1 + v) = (n : Int) := ⟨(1 + v).toNat, by rw [w64 (by omega)]; omega⟩
  have hn2 : (n : Int) = 1 + v := by rw [← hn, w64 (by omega)]
  have hok : okN n = true := by simp [okN]; omega
  have hn1 : 1 ≤ n := by omega
  obtain ⟨a, b, ht, hf, hbm⟩ := tame_ev c0 c1 (n : Int) (by omega) (by omega)
  obtain ⟨h1, h2, h3, h4, h5⟩ := okF_iff.1 hf
  have hcp := cnt_pos hn1
  have hcl := cnt_le 1 1 n (by omega)
  have hsz := size_ev hok
  obtain ⟨w, hw, w0, w1⟩ := mod_val a1 (((cnt 1 1 n : Nat) : Int) + 1) (by omega) (by omega)
  obtain ⟨i, hi⟩ : ∃ i : Nat, w = (i : Int) := ⟨w.toNat, by omega⟩
  subst hi
  have hiK : i ≤ cnt 1 1 n := by omega
  have hit := item_ev hok hiK
  have hf' : okF (b - a) b = true := by
    refine okF_iff.2 ⟨h1, h2, by omega, by omega, ?_⟩
    rw [Int.gcd_comm, show b - a = -a + b by omega]
    simpa [Int.gcd_comm] using h5
  have hT1 := yardTouching_ev hok hf
  have hT2 := yardTouching_ev hok hf'
  rw [if_neg (by omega), touching_idx] at hT1 hT2
  rw [idx_mirror hn1, List.map_map] at hT2
  have hpl := places (n := n) (a := a) (b := b)
  have hlen : (idx n a b (cnt 1 1 n + 1)).length ≤ cnt 1 1 n + 1 := by
    unfold idx
    have := List.length_filter_le (fun i => touch (fr n i) a b) (List.range (cnt 1 1 n + 1))
    rwa [List.length_range] at this
  generalize idx n a b (cnt 1 1 n + 1) = I at hT1 hT2 hpl hlen
  obtain ⟨T, hT⟩ : ∃ T, T = I.map (frT n) := ⟨_, rfl⟩
  obtain ⟨M, hM⟩ : ∃ M, M = I.reverse.map fun x => frT n (cnt 1 1 n - x) := ⟨_, rfl⟩
  have hM2 : I.reverse.map (frT (n : Int) ∘ fun x => cnt 1 1 n - x) = M := by rw [hM]; rfl
  rw [hM2] at hT2
  rw [← hT] at hT1
  have hl := touched_loop hok hf hiK hpl (by omega) hT hM I.length 0 (by omega)
  have hTl : T.length = I.length := by rw [hT, List.length_map]
  have hMl : M.length = I.length := by rw [hM, List.length_map, List.length_reverse]
  have hrest : galloonlaw03_rest.f a b = some (b - a, b) := by unfold galloonlaw03_rest.f; rw [w64 (by omega)]
  have hj0 : Ev (fun k => galloonlaw03_YardTouched.j0 k n a1 T M (((cnt 1 1 n : Nat) : Int) + 1) false a b) true := by
    refine Ev.step (f := fun k => (galloonlaw03_mod.f a1 (((cnt 1 1 n : Nat) : Int) + 1)).bind fun t454 => ((yard_Item.f k n t454).bind fun bt455 => (galloonlaw03_YardTouched.l0 k n T M bt455.2.2 false 0 a b bt455.1 bt455.2.1))) (fun k => ?_) (Ev.bind (Ev.of_eq hw) (Ev.bind hit ?_))
    · simp only [galloonlaw03_YardTouched.j0]
      rw [if_neg (by decide)]
    · have e : decide (i ∈ I.take 0) = false := by simp
      rw [e] at hl
      exact hl
  have hne : ((T.length : Int) != (M.length : Int)) = false := by rw [hTl, hMl]; simp
  refine Ev.rounds (g := fun k => galloonlaw03_YardTouched.f k a0 a1 c0 c1) ?_
  unfold galloonlaw03_YardTouched.f
  rw [hv]
  simp only [Option.bind_some, hn]
  refine Ev.bind ht (Ev.bind hT1 (Ev.bind (Ev.of_eq hrest) (Ev.bind hT2 (Ev.bind hsz (Ev.ite_true rfl (Ev.ite_true rfl (Ev.ite_true rfl (Ev.ite_false (by simp only; omega) ?_))))))))
  simp only [hne]
  exact hj0
end Go.Proofs.Ythjodhmkmjabbaa.Pure
