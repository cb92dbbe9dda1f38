import Derived.Test.YthjodhmkmjabbaaPYx7
import Derived.Test.YthjodhmkmjabbaaPYx8
/-! Plain laws on the seat's printed functions: gcd, valid fractions, quotients, saw, path, awake. -/
namespace Go.Proofs.Ythjodhmkmjabbaa.PY
open Go.RowKit Go.Proofs.YthjodhmkmjabbaaW.PrintWords Go.Proofs.YthjodhmkmjabbaaW.PrintLast

theorem awake_true : galloonlaw03_awake.f 60 = some true := by decide +kernel
theorem awake_ev : Ev (fun k => galloonlaw03_awake.f k) true := Ev.of galloonlaw03_awake.mono awake_true

theorem Ev.ite_true {α : Type} {c : Prop} [Decidable c] {g f : Nat → Option α} {r : α} (hc : c) (h : Ev g r) : Ev (fun n => if c then g n else f n) r := by simpa only [if_pos hc] using h
theorem Ev.ite_false {α : Type} {c : Prop} [Decidable c] {g f : Nat → Option α} {r : α} (hc : ¬ c) (h : Ev f r) : Ev (fun n => if c then g n else f n) r := by simpa only [if_neg hc] using h
theorem Ev.to {α : Type} {g : Nat → Option α} {r s : α} (h : Ev g r) (e : r = s) : Ev g s := e ▸ h
theorem Ev.also {α β : Type} {g : Nat → Option α} {f : Nat → Option β} {r : α} (φ : α → β) (h : Ev g r) (hf : ∀ k a, g k = some a → f k = some (φ a)) : Ev f (φ r) := by
  obtain ⟨K, hK⟩ := h
  exact ⟨K, fun k hk => hf k _ (hK k hk)⟩

/-! ### gcd -/
theorem gcd_same : ∀ k x y, galloonref03_Gcd.l0 k x y = yard_gcd.l0 k x y
  | 0, _, _ => rfl
  | k + 1, x, y => by
    simp only [galloonref03_Gcd.l0, yard_gcd.l0]
    rw [gcd_same k]
theorem gcd_sameF (k : Nat) (x y : Int) : galloonref03_Gcd.f k x y = yard_gcd.f k x y := gcd_same k x y
theorem tmod_lt {x y : Int} (h : 0 < y) : Int.tmod x y < y := by
  have := Int.tmod_lt_of_pos x h; exact this
/-- What the loop tells, for any second number. -/
theorem gcd_any : ∀ (n : Nat) (x y : Int), y ≤ (n : Int) → ∃ g, Ev (fun k => yard_gcd.l0 k x y) g ∧ (0 < y → 0 < g) ∧ (y ≤ 0 → g = x)
  | n, x, y, h => by
    by_cases hy : 0 < y
    · match n, h with
      | 0, h => omega
      | n + 1, h =>
        by_cases hm : 0 < Int.tmod x y
        · obtain ⟨g, hg, hp, _⟩ := gcd_any n y (Int.tmod x y) (by have := tmod_lt (x := x) hy; omega)
          refine ⟨g, Ev.step (f := fun k => yard_gcd.l0 k y (Int.tmod x y)) (fun k => ?_) hg, fun _ => hp hm, fun h0 => by omega⟩
          show yard_gcd.l0 (k + 1) x y = _
          simp only [yard_gcd.l0]
          rw [if_pos (show y > 0 from hy), if_neg (by omega)]
        · refine ⟨y, ⟨2, fun k hk => ?_⟩, fun _ => hy, fun h0 => by omega⟩
          obtain ⟨j, rfl⟩ : ∃ j, k = j + 2 := ⟨k - 2, by omega⟩
          simp only [yard_gcd.l0]
          rw [if_pos (show y > 0 from hy), if_neg (by omega), if_neg (by omega)]
    · refine ⟨x, ⟨1, fun k hk => ?_⟩, fun h0 => absurd h0 hy, fun _ => rfl⟩
      obtain ⟨j, rfl⟩ : ∃ j, k = j + 1 := ⟨k - 1, by omega⟩
      simp only [yard_gcd.l0]
      rw [if_neg (by omega)]
theorem gcd_nat : ∀ (y x : Nat), Ev (fun k => yard_gcd.l0 k x y) (Nat.gcd x y : Int) := by
  intro y
  induction y using Nat.strongRecOn with
  | ind y ih =>
    intro x
    rcases Nat.eq_zero_or_pos y with rfl | hy
    · refine ⟨1, fun k hk => ?_⟩
      obtain ⟨j, rfl⟩ : ∃ j, k = j + 1 := ⟨k - 1, by omega⟩
      simp [yard_gcd.l0]
    · have h1 := ih (x % y) (Nat.mod_lt _ hy) y
      refine Ev.to (Ev.step (f := fun k => yard_gcd.l0 k (y : Int) ((x % y : Nat) : Int)) (fun k => ?_) h1) (by rw [Nat.gcd_comm x y, Nat.gcd_rec y x, Nat.gcd_comm])
      show yard_gcd.l0 (k + 1) x y = _
      simp only [yard_gcd.l0]
      rw [if_pos (by omega), if_neg (by omega), Int.tmod_eq_emod_of_nonneg (by omega)]
      rfl
theorem gcd_ev {x y : Int} (hx : 0 ≤ x) (hy : 0 ≤ y) : Ev (fun k => yard_gcd.f k x y) (Int.gcd x y : Int) := by
  obtain ⟨a, rfl⟩ := Int.eq_ofNat_of_zero_le hx
  obtain ⟨b, rfl⟩ := Int.eq_ofNat_of_zero_le hy
  exact gcd_nat b a

/-! ### valid fractions -/
/-- num/den is a fraction of the yard. -/
def okF (a b : Int) : Bool := decide (1 ≤ b ∧ b ≤ 1000000 ∧ 0 ≤ a ∧ a ≤ b) && (Int.gcd a b == 1)
theorem isFrac_ev (a b : Int) : Ev (fun k => yard_isFrac.f k a b) (okF a b) := by
  simp only [yard_isFrac.f, yard_within.f, okF]
  by_cases h1 : b ≥ 1
  · by_cases h2 : b ≤ 1000000
    · by_cases h3 : a ≥ 0
      · by_cases h4 : a ≤ b
        · simp only [h1, h2, h3, h4, if_true, decide_true, Option.bind_some, and_self, Bool.true_and]
          refine Ev.bind (gcd_ev h3 (by omega)) (Ev.to (Ev.now _) ?_)
          rw [Bool.eq_iff_iff]; simp; omega
        · simp only [h1, h2, h3, h4, if_true, decide_true, Option.bind_some, decide_false, and_false, Bool.false_and, if_false, Bool.false_eq_true]
          exact Ev.now _
      · simp only [h1, h2, h3, if_true, decide_true, Option.bind_some, if_false, Bool.false_eq_true]
        refine Ev.to (Ev.now _) ?_
        first | (simp; done) | (simp; omega)
    · simp only [h1, h2, if_true, Option.bind_some, decide_false, if_false, Bool.false_eq_true, and_false, false_and, Bool.false_and]
      exact Ev.now _
  · simp only [h1, if_false, Option.bind_some, Bool.false_eq_true]
    refine Ev.to (Ev.now _) ?_
    first | (simp; done) | (simp; omega)
theorem valid_ev (a b : Int) : Ev (fun k => galloonref03_Valid.f k a b) (okF a b) := by
  simp only [galloonref03_Valid.f, okF, gcd_sameF]
  by_cases h1 : b ≥ 1
  · by_cases h2 : b ≤ 1000000
    · by_cases h3 : a ≥ 0
      · by_cases h4 : a ≤ b
        · simp only [h1, h2, h3, h4, if_true, decide_true, and_self, Bool.true_and]
          refine Ev.bind (gcd_ev h3 (by omega)) (Ev.to (Ev.now _) ?_)
          rw [Bool.eq_iff_iff]; simp; omega
        · simp only [h1, h2, h3, h4, if_true, and_false, Bool.false_and, if_false, decide_false]
          exact Ev.now _
      · simp only [h1, h2, h3, if_true, if_false]
        refine Ev.to (Ev.now _) ?_
        first | (simp; done) | (simp; omega)
    · simp only [h1, h2, if_true, if_false]
      refine Ev.to (Ev.now _) ?_
      first | (simp; done) | (simp; omega)
  · simp only [h1, if_false]
    refine Ev.to (Ev.now _) ?_
    first | (simp; done) | (simp; omega)
theorem okF_iff {a b : Int} : okF a b = true ↔ 1 ≤ b ∧ b ≤ 1000000 ∧ 0 ≤ a ∧ a ≤ b ∧ Int.gcd a b = 1 := by
  simp [okF, and_assoc]

/-! ### quotients -/
def quots (x y : Nat) : List Int := if _h : y = 0 then [] else ((x / y : Nat) : Int) :: quots y (x % y)
  termination_by y
  decreasing_by exact Nat.mod_lt _ (Nat.pos_of_ne_zero _h)
theorem w64 {n : Int} (h : -9223372036854775808 ≤ n ∧ n ≤ 9223372036854775807) : wrap64 n = n := by unfold wrap64; omega
theorem quots_ev : ∀ (y x : Nat) (acc : List Int), x ≤ 1000000000 → y ≤ 1000000000 → acc.length + y < 17592186044416 → Ev (fun k => galloonref03_Quotients.l0 k acc x y) (acc ++ quots x y) := by
  intro y
  induction y using Nat.strongRecOn with
  | ind y ih =>
    intro x acc hx hyb hl
    rcases Nat.eq_zero_or_pos y with rfl | hy
    · refine ⟨1, fun k hk => ?_⟩
      obtain ⟨j, rfl⟩ : ∃ j, k = j + 1 := ⟨k - 1, by omega⟩
      simp [galloonref03_Quotients.l0, quots]
    · have hm := Nat.mod_lt x hy
      have hdl : x / y ≤ x := Nat.div_le_self x y
      have hz : 0 ≤ (x : Int) / (y : Int) := Int.ediv_nonneg (by omega) (by omega)
      have h1 := ih (x % y) hm y (acc ++ [((x / y : Nat) : Int)]) hyb (by omega) (by simp; omega)
      refine Ev.to (Ev.step (f := fun k => galloonref03_Quotients.l0 k (acc ++ [((x / y : Nat) : Int)]) (y : Int) ((x % y : Nat) : Int)) (fun k => ?_) h1) (by rw [quots.eq_def x y, dif_neg (by omega)]; simp)
      show galloonref03_Quotients.l0 (k + 1) acc x y = _
      simp only [galloonref03_Quotients.l0]
      rw [if_pos (by omega), if_neg (by omega), if_pos (by omega), Int.tmod_eq_emod_of_nonneg (by omega), Int.tdiv_eq_ediv_of_nonneg (by omega)]
      rw [show (x : Int) / (y : Int) = ((x / y : Nat) : Int) from rfl, show (x : Int) % (y : Int) = ((x % y : Nat) : Int) from rfl, w64 (by omega)]
theorem quots_len : ∀ (y x : Nat), (quots x y).length ≤ y := by
  intro y
  induction y using Nat.strongRecOn with
  | ind y ih =>
    intro x
    rw [quots.eq_def]
    split
    · simp
    · have := Nat.mod_lt x (show 0 < y by omega)
      have := ih (x % y) this y
      simp; omega
theorem refQuots_ev {a b : Int} (h : okF a b = true) : Ev (fun k => galloonref03_Quotients.f k a b) (quots b.toNat a.toNat) := by
  obtain ⟨h1, h2, h3, h4, _⟩ := okF_iff.1 h
  have := quots_ev a.toNat b.toNat [] (by omega) (by omega) (by simp; omega)
  rw [Int.toNat_of_nonneg h3, Int.toNat_of_nonneg (by omega)] at this
  exact this
theorem yardQuots_same : ∀ k acc x y, yard_Quotients.l0 k acc x y = (galloonref03_Quotients.l0 k acc x y).map fun l => (l, (0 : Int))
  | 0, _, _, _ => rfl
  | k + 1, acc, x, y => by
    simp only [galloonref03_Quotients.l0, yard_Quotients.l0]
    rw [yardQuots_same k]
    repeat (first | rfl | split)
theorem yardQuots_ok {a b : Int} (h : okF a b = true) : Ev (fun k => yard_Quotients.f k a b) (quots b.toNat a.toNat, 0) := by
  have h0 := isFrac_ev a b
  rw [h] at h0
  refine Ev.bind h0 ?_
  simp only [if_true]
  refine Ev.also (fun l => (l, (0 : Int))) (refQuots_ev h) (fun k l hl => ?_)
  rw [yardQuots_same]
  have : galloonref03_Quotients.l0 k [] b a = some l := hl
  rw [this]
  rfl
theorem yardQuots_no {a b : Int} (h : okF a b = false) : Ev (fun k => yard_Quotients.f k a b) ([], 2) := by
  have h0 := isFrac_ev a b
  rw [h] at h0
  refine Ev.bind h0 ?_
  exact Ev.now _

/-! ### law's own: lists the same -/
theorem ints_loop : ∀ (n : Nat) (l : List Int) (j : Nat), l.length < 9223372036854775807 → l.length = j + n → Ev (fun k => galloonlaw03_ints.l0 k l l j) true
  | 0, l, j, hl, hj => by
    refine ⟨1, fun k hk => ?_⟩
    obtain ⟨i, rfl⟩ : ∃ i, k = i + 1 := ⟨k - 1, by omega⟩
    simp only [galloonlaw03_ints.l0]
    rw [if_neg (by omega)]
  | n + 1, l, j, hl, hj => by
    refine Ev.step (f := fun k => galloonlaw03_ints.l0 k l l ((j + 1 : Nat) : Int)) (fun k => ?_) (ints_loop n l (j + 1) hl (by omega))
    show galloonlaw03_ints.l0 (k + 1) l l j = _
    simp only [galloonlaw03_ints.l0]
    rw [if_pos (by omega), if_pos (by omega), if_pos (by omega), if_true, w64 (by omega)]
    rfl
theorem ints_ev {l : List Int} (hl : l.length < 9223372036854775807) : Ev (fun k => galloonlaw03_ints.f k l l) true := by
  simp only [galloonlaw03_ints.f, if_true]
  exact ints_loop l.length l 0 hl (by simp)

/-! ### path -/
theorem less_eval (a b c d : Int) : yard_less.f a b c d = some (decide (wrap64 (a * d) < wrap64 (c * b))) := rfl
/-- The yard's walk and the reference's walk are the same. -/
theorem path_same : ∀ k x0 x1 x2 x3 (x4 : List Int) a b, x4.length ≤ 200 → yard_Path.l0 k x0 x1 x2 x3 x4 a b = (galloonref03_Path.l0 k x0 x1 x2 x3 x4 a b).map fun r => (r.1, if r.2 then (0 : Int) else 5)
  | 0, _, _, _, _, _, _, _, _ => rfl
  | k + 1, x0, x1, x2, x3, x4, a, b, hl => by
    simp only [yard_Path.l0, galloonref03_Path.l0]
    by_cases c1 : ((wrap64 (x0 + x2)) == a && ((wrap64 (x1 + x3)) == b)) = true
    · rw [if_pos c1, if_pos c1]; rfl
    · rw [if_neg c1, if_neg c1]
      by_cases c2 : (x4.length : Int) = 200
      · rw [if_pos c2, if_pos (show (x4.length : Int) + 1 > 200 by omega), if_pos (show (x4.length : Int) + 1 > 200 by omega)]
        simp only [yard_less.f, Option.bind_some, ite_self]
        rfl
      · rw [if_neg c2]
        simp only [yard_less.f, galloonref03_Less.f, Option.bind_some]
        rw [if_neg (show ¬ (x4.length : Int) + 1 > 200 by omega), if_neg (show ¬ (x4.length : Int) + 1 > 200 by omega), if_pos (show x4.length < 140737488355328 by omega), if_pos (show x4.length < 140737488355328 by omega)]
        rw [path_same k _ _ _ _ _ _ _ (by simp; omega), path_same k _ _ _ _ _ _ _ (by simp; omega)]
        split <;> rfl
theorem path_ends : ∀ (n : Nat) x0 x1 x2 x3 (x4 : List Int) a b, x4.length + n = 200 → ∃ r, Ev (fun k => galloonref03_Path.l0 k x0 x1 x2 x3 x4 a b) r
  | n, x0, x1, x2, x3, x4, a, b, hl => by
    by_cases c1 : ((wrap64 (x0 + x2)) == a && ((wrap64 (x1 + x3)) == b)) = true
    · refine ⟨_, Ev.step (f := fun k => some (strOfNums x4, true)) (fun k => ?_) (Ev.now _)⟩
      simp only [galloonref03_Path.l0, if_pos c1]
    · match n, hl with
      | 0, hl =>
        refine ⟨_, Ev.step (f := fun k => some ((⟨#[]⟩ : ByteArray), false)) (fun k => ?_) (Ev.now _)⟩
        simp only [galloonref03_Path.l0, if_neg c1]
        rw [if_pos (by omega)]
      | n + 1, hl =>
        by_cases c3 : (decide ((wrap64 (a * (wrap64 (x1 + x3)))) < (wrap64 ((wrap64 (x0 + x2)) * b)))) = true
        · obtain ⟨r, hr⟩ := path_ends n x0 x1 (wrap64 (x0 + x2)) (wrap64 (x1 + x3)) (x4 ++ [76]) a b (by simp; omega)
          refine ⟨r, Ev.step (fun k => ?_) hr⟩
          show galloonref03_Path.l0 (k + 1) _ _ _ _ _ _ _ = _
          simp only [galloonref03_Path.l0, if_neg c1, galloonref03_Less.f, Option.bind_some, if_pos c3]
          rw [if_neg (by omega), if_pos (by omega)]
        · obtain ⟨r, hr⟩ := path_ends n (wrap64 (x0 + x2)) (wrap64 (x1 + x3)) x2 x3 (x4 ++ [82]) a b (by simp; omega)
          refine ⟨r, Ev.step (fun k => ?_) hr⟩
          show galloonref03_Path.l0 (k + 1) _ _ _ _ _ _ _ = _
          simp only [galloonref03_Path.l0, if_neg c1, galloonref03_Less.f, Option.bind_some, if_neg c3]
          rw [if_neg (by omega), if_pos (by omega)]
/-- A fraction of the yard that is not whole: its path, as the two sides tell it. -/
theorem path_both (a b : Int) : ∃ (s : ByteArray) (ok : Bool), Ev (fun k => galloonref03_Path.f k a b) (s, ok) ∧ Ev (fun k => yard_Path.l0 k 0 1 1 1 [] a b) (s, if ok then 0 else 5) ∧ (ok = false → s = ⟨#[]⟩) := by
  obtain ⟨⟨s, ok⟩, h⟩ := path_ends 200 0 1 1 1 [] a b rfl
  refine ⟨s, ok, h, Ev.also (fun r => (r.1, if r.2 then (0 : Int) else 5)) h (fun k r hr => ?_), ?_⟩
  · rw [path_same _ _ _ _ _ _ _ _ (by simp), hr]; rfl
  · intro he
    subst he
    obtain ⟨k, hk⟩ := h.rounds
    have key : ∀ k x0 x1 x2 x3 (x4 : List Int) a b s, galloonref03_Path.l0 k x0 x1 x2 x3 x4 a b = some (s, false) → s = ⟨#[]⟩ := by
      intro k
      induction k with
      | zero => intro _ _ _ _ _ _ _ _ h; simp [galloonref03_Path.l0] at h
      | succ k ih =>
        intro x0 x1 x2 x3 x4 a b s h
        simp only [galloonref03_Path.l0, galloonref03_Less.f, Option.bind_some] at h
        repeat' split at h
        all_goals first | (cases h; done) | (cases h; rfl) | exact ih _ _ _ _ _ _ _ _ h
    exact key _ _ _ _ _ _ _ _ _ hk

/-! ### saw -/
theorem saw_same : ∀ k x4 x5 x6 a b, yard_Saw.l0 k x4 x5 x6 a b = (galloonref03_Saw.l0 k x4 x5 x6 a b).map fun r => (r.1, r.2, (0 : Int))
  | 0, _, _, _, _, _ => rfl
  | k + 1, x4, x5, x6, a, b => by
    simp only [yard_Saw.l0, galloonref03_Saw.l0]
    rw [saw_same k, gcd_sameF]
    split
    · split <;> rfl
    · cases yard_gcd.f k (mx x5 (wrap64 (-x5))) (wrap64 ((wrap64 (4 * x4)) * x4)) with
      | none => rfl
      | some t =>
        simp only [Option.bind_some]
        split <;> rfl
theorem saw_ends : ∀ (n : Nat) (x4 x5 x6 a b : Int), 0 < x4 → x4 ≤ 1000 → x4 - x6 ≤ n → 0 ≤ x6 → ∃ r, Ev (fun k => galloonref03_Saw.l0 k x4 x5 x6 a b) r
  | n, x4, x5, x6, a, b, h0, h1, hn, h6 => by
    by_cases hx : x6 < x4
    · match n, hn with
      | 0, hn => omega
      | n + 1, hn =>
        obtain ⟨r, hr⟩ := saw_ends n x4 (wrap64 (x5 + (wrap64 ((wrap64 ((wrap64 (2 * x6)) - x4)) * (wrap64 ((wrap64 (2 * (Int.tmod (wrap64 (a * x6)) x4))) - x4)))))) (wrap64 (x6 + 1)) a b h0 h1 (by rw [w64 (by omega)]; omega) (by rw [w64 (by omega)]; omega)
        refine ⟨r, Ev.step (fun k => ?_) hr⟩
        show galloonref03_Saw.l0 (k + 1) _ _ _ _ _ = _
        simp only [galloonref03_Saw.l0, if_pos hx]
        rw [if_neg (by omega)]
    · have hw : wrap64 ((wrap64 (4 * x4)) * x4) = 4 * x4 * x4 := by
        have : 0 ≤ x4 * x4 := Int.mul_nonneg (by omega) (by omega)
        have : x4 * x4 ≤ 1000 * 1000 := Int.mul_le_mul h1 h1 (by omega) (by omega)
        rw [w64 (n := 4 * x4) (by omega), w64 (by rw [Int.mul_assoc]; omega)]
      have hp : 0 < 4 * x4 * x4 := by rw [Int.mul_assoc]; have := Int.mul_pos h0 h0; omega
      obtain ⟨g, hg, hg0, _⟩ := gcd_any (4 * x4 * x4).toNat (mx x5 (wrap64 (-x5))) (4 * x4 * x4) (by omega)
      have hgp := hg0 hp
      refine ⟨_, Ev.step (f := fun k => (yard_gcd.f k (mx x5 (wrap64 (-x5))) (4 * x4 * x4)).bind fun t158 => (if t158 = 0 then (none) else (some (wrap64 (Int.tdiv x5 t158), wrap64 (Int.tdiv (wrap64 ((wrap64 (4 * x4)) * x4)) t158))))) (fun k => ?_) (Ev.bind hg (Ev.ite_false (by omega) (Ev.now _)))⟩
      show galloonref03_Saw.l0 (k + 1) _ _ _ _ _ = _
      simp only [galloonref03_Saw.l0, if_neg hx, gcd_sameF]
      rw [hw]
theorem saw_both {a b : Int} (h : okF a b = true) (hb : b ≤ 1000) : ∃ n d : Int, Ev (fun k => galloonref03_Saw.f k a b) (n, d) ∧ Ev (fun k => yard_Saw.f k a b) (n, d, 0) := by
  obtain ⟨h1, h2, h3, h4, _⟩ := okF_iff.1 h
  obtain ⟨⟨n, d⟩, hr⟩ := saw_ends b.toNat b 0 1 a b (by omega) hb (by omega) (by omega)
  refine ⟨n, d, hr, ?_⟩
  have h0 := isFrac_ev a b
  rw [h] at h0
  refine Ev.bind h0 ?_
  simp only [if_true]
  refine Ev.step (f := fun k => yard_Saw.l0 k b 0 1 a b) (fun k => ?_) (Ev.also (fun r => (r.1, r.2, (0 : Int))) hr (fun k r hr => ?_))
  · simp only [yard_Saw.j0]
    rw [if_neg (by simp; omega)]
  · rw [saw_same, hr]; rfl
theorem saw_no {a b : Int} (h : okF a b = false ∨ 1000 < b) : Ev (fun k => yard_Saw.f k a b) (0, 0, 2) := by
  refine Ev.bind (isFrac_ev a b) ?_
  refine Ev.step (f := fun _ => some (0, 0, 2)) (fun k => ?_) (Ev.now _)
  by_cases hf : okF a b = true
  · rw [if_pos hf]
    simp only [yard_Saw.j0]
    rw [if_pos (by rcases h with h | h; (rw [hf] at h; cases h); simpa using h)]
  · rw [if_neg hf]
    simp only [yard_Saw.j0, if_true]
end Go.Proofs.Ythjodhmkmjabbaa.PY
