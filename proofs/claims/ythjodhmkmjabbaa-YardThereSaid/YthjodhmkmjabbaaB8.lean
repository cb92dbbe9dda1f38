import Derived.Test.YthjodhmkmjabbaaB1
import Derived.Test.YthjodhmkmjabbaaGPath
import Derived.Test.YthjodhmkmjabbaaGFollow
import Derived.Test.YthjodhmkmjabbaaGFold
/-! There and back: the path to a fraction, its quotients, and what follows and folds them. -/
namespace Go.Proofs.Ythjodhmkmjabbaa.PY
open Go.RowKit Go.Proofs.YthjodhmkmjabbaaW.PrintWords Go.Proofs.YthjodhmkmjabbaaW.PrintLast

/-! ### the path -/
def pathL (u v : Nat) : List Int := if _h : u = 0 ∨ v = 0 ∨ u = v then [] else if u < v then 76 :: pathL u (v - u) else 82 :: pathL (u - v) v
  termination_by u + v
  decreasing_by all_goals omega
theorem pathL_one (u : Nat) : pathL u u = [] := by rw [pathL]; simp
theorem pathL_lt {u v : Nat} (hu : 0 < u) (h : u < v) : pathL u v = 76 :: pathL u (v - u) := by
  rw [pathL.eq_def u v, dif_neg (by omega), if_pos h]
theorem pathL_gt {u v : Nat} (hv : 0 < v) (h : v < u) : pathL u v = 82 :: pathL (u - v) v := by
  rw [pathL.eq_def u v, dif_neg (by omega), if_neg (by omega)]
theorem cop_sub {u v : Nat} (h : Nat.gcd u v = 1) (hlt : u ≤ v) : Nat.gcd u (v - u) = 1 := by
  rw [Nat.gcd_comm] at h ⊢
  have : Nat.gcd (v - u) u = Nat.gcd v u := by
    conv => rhs; rw [show v = (v - u) + u by omega]
    simp
  rw [this]; exact h
theorem pathL_turn : ∀ (N u v : Nat), u + v ≤ N → ∀ c ∈ pathL u v, c = 76 ∨ c = 82
  | 0, u, v, hN, c, hc => by
    rw [pathL.eq_def, dif_pos (by omega)] at hc
    cases hc
  | N + 1, u, v, hN, c, hc => by
    by_cases h0 : u = 0 ∨ v = 0 ∨ u = v
    · rw [pathL.eq_def, dif_pos h0] at hc
      cases hc
    · rcases Nat.lt_or_gt_of_ne (show u ≠ v by omega) with h | h
      · rw [pathL_lt (by omega) h] at hc
        rcases List.mem_cons.1 hc with h1 | h1
        · exact .inl h1
        · exact pathL_turn N u (v - u) (by omega) c h1
      · rw [pathL_gt (by omega) h] at hc
        rcases List.mem_cons.1 hc with h1 | h1
        · exact .inr h1
        · exact pathL_turn N (u - v) v (by omega) c h1
theorem pathL_mirror : ∀ (N u v : Nat), u + v ≤ N → pathL v u = (pathL u v).map (fun c => 158 - c)
  | 0, u, v, hN => by
    rw [pathL.eq_def, dif_pos (by omega), pathL.eq_def, dif_pos (by omega)]
    rfl
  | N + 1, u, v, hN => by
    by_cases h0 : u = 0 ∨ v = 0 ∨ u = v
    · rw [pathL.eq_def, dif_pos (by omega), pathL.eq_def, dif_pos (by omega)]
      rfl
    · rcases Nat.lt_or_gt_of_ne (show u ≠ v by omega) with h | h
      · rw [pathL_lt (by omega) h, pathL_gt (by omega) h, pathL_mirror N u (v - u) (by omega)]
        rfl
      · rw [pathL_gt (by omega) h, pathL_lt (by omega) h, pathL_mirror N (u - v) v (by omega)]
        rfl
/-- a/b seen from p/q on the left and r/s on the right. -/
structure Seen (a b p q r s : Int) (u v : Nat) : Prop where
  u1 : 1 ≤ u
  v1 : 1 ≤ v
  cop : Nat.gcd u v = 1
  ha : a = v * p + u * r
  hb : b = v * q + u * s
  det : r * q - p * s = 1
  p0 : 0 ≤ p
  r0 : 0 ≤ r
  q1 : 1 ≤ q
  s1 : 1 ≤ s
theorem Seen.left {a b p q r s : Int} {u v : Nat} (h : Seen a b p q r s u v) (hlt : u < v) : Seen a b p q (p + r) (q + s) u (v - u) := by
  obtain ⟨u1, v1, cop, ha, hb, det, p0, r0, q1, s1⟩ := h
  have e : ((v - u : Nat) : Int) = v - u := by omega
  exact ⟨u1, by omega, cop_sub cop (by omega), by rw [e]; grind, by rw [e]; grind, by grind, p0, by omega, q1, by omega⟩
theorem Seen.right {a b p q r s : Int} {u v : Nat} (h : Seen a b p q r s u v) (hlt : v < u) : Seen a b (p + r) (q + s) r s (u - v) v := by
  obtain ⟨u1, v1, cop, ha, hb, det, p0, r0, q1, s1⟩ := h
  have e : ((u - v : Nat) : Int) = u - v := by omega
  exact ⟨by omega, v1, by rw [Nat.gcd_comm] at cop ⊢; exact cop_sub cop (by omega), by rw [e]; grind, by rw [e]; grind, by grind, by omega, r0, by omega, s1⟩
theorem Seen.here {a b p q r s : Int} {u v : Nat} (h : Seen a b p q r s u v) (e : u = v) : p + r = a ∧ q + s = b := by
  obtain ⟨u1, v1, cop, ha, hb, det, p0, r0, q1, s1⟩ := h
  subst e
  rw [Nat.gcd_self] at cop
  subst cop
  omega
theorem Seen.size {a b p q r s : Int} {u v : Nat} (h : Seen a b p q r s u v) : p + r ≤ a ∧ q + s ≤ b := by
  obtain ⟨u1, v1, cop, ha, hb, det, p0, r0, q1, s1⟩ := h
  have k1 : 1 * p ≤ v * p := Int.mul_le_mul_of_nonneg_right (by omega) p0
  have k2 : 1 * r ≤ u * r := Int.mul_le_mul_of_nonneg_right (by omega) r0
  have k3 : 1 * q ≤ v * q := Int.mul_le_mul_of_nonneg_right (by omega) (by omega)
  have k4 : 1 * s ≤ u * s := Int.mul_le_mul_of_nonneg_right (by omega) (by omega)
  omega
theorem Seen.there {a b p q r s : Int} {u v : Nat} (h : Seen a b p q r s u v) (ne : u ≠ v) : ¬ q + s = b := by
  obtain ⟨u1, v1, cop, ha, hb, det, p0, r0, q1, s1⟩ := h
  have k3 : 1 * q ≤ v * q := Int.mul_le_mul_of_nonneg_right (by omega) (by omega)
  have k4 : 1 * s ≤ u * s := Int.mul_le_mul_of_nonneg_right (by omega) (by omega)
  rcases Nat.lt_or_gt_of_ne ne with h | h
  · have k5 : 2 * q ≤ v * q := Int.mul_le_mul_of_nonneg_right (by omega) (by omega)
    omega
  · have k5 : 2 * s ≤ u * s := Int.mul_le_mul_of_nonneg_right (by omega) (by omega)
    omega
theorem Seen.less {a b p q r s : Int} {u v : Nat} (h : Seen a b p q r s u v) : a * (q + s) - (p + r) * b = (u : Int) - v := by
  obtain ⟨u1, v1, cop, ha, hb, det, p0, r0, q1, s1⟩ := h
  subst ha hb
  have : (u : Int) - v = (u - v) * (r * q - p * s) := by rw [det, Int.mul_one]
  rw [this]
  grind
theorem path_ev : ∀ (N : Nat) (a b p q r s : Int) (u v : Nat) (acc : List Int), u + v ≤ N → Seen a b p q r s u v → a ≤ b → b ≤ 1000000 → acc.length ≤ 200 →
    Ev (fun k => yard_Path.l0 k p q r s acc a b) (if acc.length + (pathL u v).length ≤ 200 then (strOfNums (acc ++ pathL u v), 0) else ((⟨#[]⟩ : ByteArray), 5))
  | 0, a, b, p, q, r, s, u, v, acc, hN, h, hab, hbm, hl => by have := h.u1; omega
  | N + 1, a, b, p, q, r, s, u, v, acc, hN, h, hab, hbm, hl => by
    have hsz := h.size
    have h1 := h.u1
    have h2 := h.v1
    have hp0 := h.p0
    have hr0 := h.r0
    have hq1 := h.q1
    have hs1 := h.s1
    have w1 : wrap64 (p + r) = p + r := w64 (by omega)
    have w2 : wrap64 (q + s) = q + s := w64 (by omega)
    by_cases he : u = v
    · obtain ⟨e1, e2⟩ := h.here he
      subst he
      rw [pathL_one, List.append_nil, if_pos (by simpa using hl)]
      refine Ev.step (f := fun _ => some (strOfNums acc, 0)) (fun k => ?_) (Ev.now _)
      simp only [yard_Path.l0, w1, w2]
      rw [if_pos (by simp [e1, e2])]
    · have hne := h.there he
      have hless := h.less
      have m1 : a * (q + s) ≤ 1000000 * 1000000 := Int.mul_le_mul (by omega) (by omega) (by omega) (by omega)
      have m2 : 0 ≤ a * (q + s) := Int.mul_nonneg (by omega) (by omega)
      have m3 : (p + r) * b ≤ 1000000 * 1000000 := Int.mul_le_mul (by omega) (by omega) (by omega) (by omega)
      have m4 : 0 ≤ (p + r) * b := Int.mul_nonneg (by omega) (by omega)
      have w3 : wrap64 (a * (q + s)) = a * (q + s) := w64 (by omega)
      have w4 : wrap64 ((p + r) * b) = (p + r) * b := w64 (by omega)
      have hc : ¬ ((p + r == a && (q + s == b)) = true) := by simp [hne]
      rcases Nat.lt_or_gt_of_ne he with hlt | hlt
      · rw [pathL_lt (by omega) hlt]
        by_cases hf : (acc.length : Int) + 1 > 200
        · rw [if_neg (by simp; omega)]
          refine Ev.step (f := fun _ => some ((⟨#[]⟩ : ByteArray), 5)) (fun k => ?_) (Ev.now _)
          simp only [yard_Path.l0, w1, w2, yard_less.f, w3, w4, Option.bind_some]
          rw [if_neg hc, if_pos (by simp; omega), if_pos hf]
        · have ih := path_ev N a b p q (p + r) (q + s) u (v - u) (acc ++ [76]) (by omega) (h.left hlt) hab hbm (by simp; omega)
          refine Ev.to (Ev.step (fun k => ?_) ih) ?_
          · show yard_Path.l0 (k + 1) _ _ _ _ _ _ _ = _
            simp only [yard_Path.l0, w1, w2, yard_less.f, w3, w4, Option.bind_some]
            rw [if_neg hc, if_pos (by simp; omega), if_neg hf]
          · simp only [List.length_append, List.length_cons, List.length_nil, List.append_assoc, List.singleton_append]
            rw [show acc.length + (0 + 1) + (pathL u (v - u)).length = acc.length + ((pathL u (v - u)).length + 1) by omega]
      · rw [pathL_gt (by omega) hlt]
        by_cases hf : (acc.length : Int) + 1 > 200
        · rw [if_neg (by simp; omega)]
          refine Ev.step (f := fun _ => some ((⟨#[]⟩ : ByteArray), 5)) (fun k => ?_) (Ev.now _)
          simp only [yard_Path.l0, w1, w2, yard_less.f, w3, w4, Option.bind_some]
          rw [if_neg hc, if_neg (by simp; omega), if_pos hf]
        · have ih := path_ev N a b (p + r) (q + s) r s (u - v) v (acc ++ [82]) (by omega) (h.right hlt) hab hbm (by simp; omega)
          refine Ev.to (Ev.step (fun k => ?_) ih) ?_
          · show yard_Path.l0 (k + 1) _ _ _ _ _ _ _ = _
            simp only [yard_Path.l0, w1, w2, yard_less.f, w3, w4, Option.bind_some]
            rw [if_neg hc, if_neg (by simp; omega), if_neg hf]
          · simp only [List.length_append, List.length_cons, List.length_nil, List.append_assoc, List.singleton_append]
            rw [show acc.length + (0 + 1) + (pathL (u - v) v).length = acc.length + ((pathL (u - v) v).length + 1) by omega]
theorem seen_start {a b : Int} (h : okF a b = true) (hb : b ≠ 1) : Seen a b 0 1 1 1 a.toNat (b - a).toNat := by
  obtain ⟨h1, h2, h3, h4, h5⟩ := okF_iff.1 h
  have ha : a ≠ 0 := by
    rintro rfl
    rw [Int.gcd_zero_left] at h5
    omega
  have hne : a ≠ b := by
    rintro rfl
    rw [Int.gcd_self] at h5
    omega
  have e1 : ((a.toNat : Nat) : Int) = a := Int.toNat_of_nonneg h3
  have e2 : (((b - a).toNat : Nat) : Int) = b - a := Int.toNat_of_nonneg (by omega)
  refine ⟨by omega, by omega, ?_, by rw [e1, e2]; omega, by rw [e1, e2]; omega, by omega, by omega, by omega, by omega, by omega⟩
  have : Nat.gcd a.toNat b.toNat = 1 := by
    rw [← Int.toNat_of_nonneg h3, ← Int.toNat_of_nonneg (show 0 ≤ b by omega)] at h5
    exact h5
  have := cop_sub this (by omega)
  rw [show (b - a).toNat = b.toNat - a.toNat by omega]
  exact this
theorem Path_ev {a b : Int} (h : okF a b = true) (hb : b ≠ 1) : Ev (fun k => yard_Path.f k a b) (if (pathL a.toNat (b - a).toNat).length ≤ 200 then (strOfNums (pathL a.toNat (b - a).toNat), 0) else ((⟨#[]⟩ : ByteArray), 5)) := by
  obtain ⟨h1, h2, h3, h4, h5⟩ := okF_iff.1 h
  have h0 := isFrac_ev a b
  rw [h] at h0
  refine Ev.bind h0 (Ev.ite_true rfl (Ev.ite_false hb ?_))
  have := path_ev _ a b 0 1 1 1 a.toNat (b - a).toNat [] (Nat.le_refl _) (seen_start h hb) h4 h2 (by simp)
  simpa using this
/-! ### bytes of a word -/
theorem bt_str {xs : List Int} (hx : ∀ x ∈ xs, 0 ≤ x ∧ x ≤ 255) (i : Nat) : bt (strOfNums xs) i = xs.getD i 0 := by
  simp only [bt, Int.toNat_natCast]
  by_cases h : i < xs.length
  · rw [dif_pos (by rw [strOfNums_size]; exact h)]
    have e1 : (strOfNums xs)[i]'(by rw [strOfNums_size]; exact h) = UInt8.ofNat (xs[i]).toNat := by
      show (strOfNums xs).data[i]'_ = _
      simp [strOfNums]
    have hr := hx xs[i] (List.getElem_mem h)
    rw [e1, List.getD_eq_getElem?_getD, List.getElem?_eq_getElem h]
    simp only [UInt8.toNat_ofNat', Option.getD_some]
    omega
  · rw [dif_neg (by rw [strOfNums_size]; exact h), List.getD_eq_getElem?_getD, List.getElem?_eq_none (by omega)]
    rfl
theorem turn_byte {xs : List Int} (h : ∀ c ∈ xs, c = 76 ∨ c = 82) : ∀ x ∈ xs, 0 ≤ x ∧ x ≤ 255 := by
  intro x hx
  rcases h x hx with rfl | rfl <;> omega
theorem follow_l1 : ∀ (N : Nat) (a b p q r s : Int) (u v : Nat) (acc : List Int) (w : ByteArray), u + v ≤ N → Seen a b p q r s u v → a ≤ b → b ≤ 1000000 → (∀ c ∈ acc, c = 76 ∨ c = 82) → w = strOfNums (acc ++ pathL u v) →
    Ev (fun k => yard_Follow.l1 k w acc.length p q r s) (a, b, 0)
  | 0, a, b, p, q, r, s, u, v, acc, w, hN, h, hab, hbm, hacc, hw => by have := h.u1; omega
  | N + 1, a, b, p, q, r, s, u, v, acc, w, hN, h, hab, hbm, hacc, hw => by
    have hsz := h.size
    have h1 := h.u1
    have h2 := h.v1
    have hp0 := h.p0
    have hr0 := h.r0
    have hq1 := h.q1
    have hs1 := h.s1
    have w1 : wrap64 (p + r) = p + r := w64 (by omega)
    have w2 : wrap64 (q + s) = q + s := w64 (by omega)
    have hws : w.size = acc.length + (pathL u v).length := by rw [hw, strOfNums_size]; simp
    have hbt : ∀ i : Nat, bt w i = (acc ++ pathL u v).getD i 0 := by
      intro i
      rw [hw]
      refine bt_str (turn_byte (fun c hc => ?_)) i
      rcases List.mem_append.1 hc with h | h
      · exact hacc c h
      · exact pathL_turn _ u v (Nat.le_refl _) c h
    by_cases he : u = v
    · obtain ⟨e1, e2⟩ := h.here he
      subst he
      rw [pathL_one] at hws
      refine Ev.step (f := fun _ => some (a, b, 0)) (fun k => ?_) (Ev.now _)
      simp only [yard_Follow.l1, w1, w2]
      rw [if_neg (by simp at hws; omega), if_neg (by omega), e1, e2]
    · rcases Nat.lt_or_gt_of_ne he with hlt | hlt
      · have hp := pathL_lt (by omega) hlt
        have hb0 : bt w acc.length = 76 := by rw [hbt, hp]; simp [List.getD_eq_getElem?_getD]
        have ih := follow_l1 N a b p q (p + r) (q + s) u (v - u) (acc ++ [76]) w (by omega) (h.left hlt) hab hbm (fun c hc => by rcases List.mem_append.1 hc with h | h; exact hacc c h; simp at h; exact .inl h) (by rw [hw, hp]; simp)
        refine Ev.step (fun k => ?_) ih
        show yard_Follow.l1 (k + 1) _ _ _ _ _ _ = _
        simp only [yard_Follow.l1, w1, w2]
        rw [hp] at hws
        simp at hws
        rw [if_pos (by omega), if_neg (by omega), if_pos hb0]
        simp
      · have hp := pathL_gt (by omega) hlt
        have hb0 : bt w acc.length = 82 := by rw [hbt, hp]; simp [List.getD_eq_getElem?_getD]
        have ih := follow_l1 N a b (p + r) (q + s) r s (u - v) v (acc ++ [82]) w (by omega) (h.right hlt) hab hbm (fun c hc => by rcases List.mem_append.1 hc with h | h; exact hacc c h; simp at h; exact .inr h) (by rw [hw, hp]; simp)
        refine Ev.step (fun k => ?_) ih
        show yard_Follow.l1 (k + 1) _ _ _ _ _ _ = _
        simp only [yard_Follow.l1, w1, w2]
        rw [hp] at hws
        simp at hws
        rw [if_pos (by omega), if_neg (by omega), if_neg (by omega)]
        simp
theorem follow_l0 {w : ByteArray} {xs : List Int} (hw : w = strOfNums xs) (ht : ∀ c ∈ xs, c = 76 ∨ c = 82) {r : Int × Int × Int} (hr : Ev (fun k => yard_Follow.l1 k w 0 0 1 1 1) r) : ∀ (n i : Nat), xs.length = i + n → Ev (fun k => yard_Follow.l0 k w i) r
  | 0, i, hi => by
    refine Ev.step (fun k => ?_) hr
    show yard_Follow.l0 (k + 1) _ _ = _
    simp only [yard_Follow.l0]
    rw [if_neg (by rw [hw, strOfNums_size]; omega)]
  | n + 1, i, hi => by
    refine Ev.step (fun k => ?_) (follow_l0 hw ht hr n (i + 1) (by omega))
    show yard_Follow.l0 (k + 1) _ _ = _
    simp only [yard_Follow.l0]
    have hb : bt w i = 76 ∨ bt w i = 82 := by
      rw [hw, bt_str (turn_byte ht), List.getD_eq_getElem?_getD, List.getElem?_eq_getElem (show i < xs.length by omega)]
      exact ht _ (List.getElem_mem _)
    rw [if_pos (by rw [hw, strOfNums_size]; omega), if_pos (by rcases hb with h | h <;> simp [isTurn, h])]
    rfl
theorem Follow_path {a b : Int} (h : okF a b = true) (hb : b ≠ 1) (hl : (pathL a.toNat (b - a).toNat).length ≤ 200) : Ev (fun k => yard_Follow.f k (strOfNums (pathL a.toNat (b - a).toNat))) (a, b, 0) := by
  obtain ⟨h1, h2, h3, h4, h5⟩ := okF_iff.1 h
  simp only [yard_Follow.f]
  refine Ev.ite_false (by rw [strOfNums_size]; omega) ?_
  refine follow_l0 rfl (pathL_turn _ _ _ (Nat.le_refl _)) ?_ (pathL a.toNat (b - a).toNat).length 0 (by omega)
  exact follow_l1 _ a b 0 1 1 1 a.toNat (b - a).toNat [] _ (Nat.le_refl _) (seen_start h hb) h4 h2 (fun c hc => by cases hc) rfl
/-! ### quotients -/
theorem quots_cons {x y : Nat} (h : 0 < y) : quots x y = ((x / y : Nat) : Int) :: quots y (x % y) := by rw [quots.eq_def, dif_neg (by omega)]
theorem quots_nil (x : Nat) : quots x 0 = [] := by rw [quots.eq_def, dif_pos rfl]
theorem qsum_swap {x y : Nat} (h : x < y) : (quots x y).sum = (quots y x).sum := by
  rw [quots_cons (by omega), Nat.div_eq_of_lt h, Nat.mod_eq_of_lt h]
  simp
theorem qsum_comm (x y : Nat) : (quots x y).sum = (quots y x).sum := by
  rcases Nat.lt_trichotomy x y with h | h | h
  · exact qsum_swap h
  · rw [h]
  · exact (qsum_swap h).symm
theorem qsum_sub {x y : Nat} (hy : 0 < y) (h : y ≤ x) : (quots x y).sum = 1 + (quots (x - y) y).sum := by
  rw [quots_cons hy, quots_cons hy (x := x - y), Nat.mod_eq_sub_mod h, Nat.div_eq_sub_div hy h]
  simp only [List.sum_cons]
  omega
theorem pathL_len : ∀ (N u v : Nat), u + v ≤ N → 0 < u → 0 < v → Nat.gcd u v = 1 → ((pathL u v).length : Int) + 1 = (quots u v).sum
  | 0, u, v, hN, hu, hv, hg => by omega
  | N + 1, u, v, hN, hu, hv, hg => by
    rcases Nat.lt_trichotomy u v with h | h | h
    · have ih := pathL_len N u (v - u) (by omega) hu (by omega) (cop_sub hg (by omega))
      rw [pathL_lt hu h, qsum_comm, qsum_sub hu (by omega), qsum_comm, ← ih]
      simp only [List.length_cons]
      omega
    · subst h
      rw [Nat.gcd_self] at hg
      subst hg
      rw [pathL_one, quots_cons (by omega), quots_nil]
      decide
    · have ih := pathL_len N (u - v) v (by omega) (by omega) hv (by rw [Nat.gcd_comm] at hg ⊢; exact cop_sub hg (by omega))
      rw [pathL_gt hv h, qsum_sub hv (by omega), ← ih]
      simp only [List.length_cons]
      omega
theorem quots_short : ∀ (k x y : Nat), y < 2 ^ k → (quots x y).length ≤ 2 * k
  | 0, x, y, h => by
    have : y = 0 := by simpa using h
    subst this
    rw [quots_nil]; simp
  | k + 1, x, y, h => by
    rcases Nat.eq_zero_or_pos y with rfl | hy
    · rw [quots_nil]; simp
    · rw [quots_cons hy]
      have hm := Nat.mod_lt x hy
      obtain ⟨r, hr⟩ : ∃ r, r = x % y := ⟨_, rfl⟩
      rw [← hr] at hm ⊢
      rcases Nat.eq_zero_or_pos r with h0 | h0
      · rw [h0, quots_nil]; simp; omega
      · rw [quots_cons h0]
        have h1 := Nat.mod_lt y h0
        have h2 := Nat.div_add_mod y r
        have h3 : 1 ≤ y / r := Nat.div_pos (by omega) h0
        have h4 : r * 1 ≤ r * (y / r) := Nat.mul_le_mul_left _ h3
        have ih := quots_short k r (y % r) (by rw [Nat.pow_succ] at h; omega)
        simp only [List.length_cons]
        omega
theorem quots_range : ∀ (y x : Nat), y ≤ x → x ≤ 1000000 → ∀ c ∈ quots x y, 1 ≤ c ∧ c ≤ 1000000 := by
  intro y
  induction y using Nat.strongRecOn with
  | ind y ih =>
    intro x hyx hx c hc
    rcases Nat.eq_zero_or_pos y with rfl | hy
    · rw [quots_nil] at hc; cases hc
    · rw [quots_cons hy] at hc
      rcases List.mem_cons.1 hc with h | h
      · have h1 : 1 ≤ x / y := Nat.div_pos hyx hy
        have h2 := Nat.div_le_self x y
        omega
      · have hm := Nat.mod_lt x hy
        exact ih (x % y) hm y (by omega) (by omega) c h
theorem quots_last : ∀ (y x : Nat), y < x → ∀ c, (quots x y).getLast? = some c → 2 ≤ c := by
  intro y
  induction y using Nat.strongRecOn with
  | ind y ih =>
    intro x hyx c hc
    rcases Nat.eq_zero_or_pos y with rfl | hy
    · rw [quots_nil] at hc; cases hc
    · rw [quots_cons hy] at hc
      have hm := Nat.mod_lt x hy
      rcases Nat.eq_zero_or_pos (x % y) with h0 | h0
      · rw [h0, quots_nil, List.getLast?_singleton, Option.some.injEq] at hc
        have h1 := Nat.div_add_mod x y
        rw [h0] at h1
        subst hc
        obtain ⟨Q, hQ⟩ : ∃ Q, Q = x / y := ⟨_, rfl⟩
        rw [← hQ] at h1 ⊢
        match Q, h1 with
        | 0, h1 => omega
        | 1, h1 => omega
        | Q + 2, _ => omega
      · refine ih (x % y) hm y hm c ?_
        rw [quots_cons h0] at hc ⊢
        simpa using hc
theorem fold_val {Q R Y X : Int} (hQ : 0 ≤ Q) (hR : 0 ≤ R) (hY : 0 ≤ Y) (e : Q * Y + R = X) (hX : X ≤ 1000000) : wrap64 (wrap64 (Q * Y) + R) = X := by
  have := Int.mul_nonneg hQ hY
  rw [w64 (n := Q * Y) (by omega), w64 (by omega), e]
/-- Folding the quotients gives the numbers back. -/
theorem fold_quots : ∀ (y x : Nat) (pre : List Int) (l : List Int) (r : Int × Int × Int), l = pre ++ quots x y → Nat.gcd x y = 1 → y ≤ x → x ≤ 1000000 →
    Ev (fun k => yard_Fold.l0 k l ((pre.length : Int) - 1) y x) r → Ev (fun k => yard_Fold.l0 k l ((l.length : Int) - 1) 0 1) r := by
  intro y
  induction y using Nat.strongRecOn with
  | ind y ih =>
    intro x pre l r hl hg hyx hx hr
    rcases Nat.eq_zero_or_pos y with rfl | hy
    · rw [quots_nil, List.append_nil] at hl
      subst hl
      rw [Nat.gcd_zero_right] at hg
      subst hg
      exact hr
    · rw [quots_cons hy] at hl
      have hm := Nat.mod_lt x hy
      refine ih (x % y) hm y (pre ++ [((x / y : Nat) : Int)]) l r (by rw [hl]; simp) (by have := hg; rw [Nat.gcd_comm, Nat.gcd_rec, Nat.gcd_comm] at this; exact this) (by omega) (by omega) ?_
      have hrd : rd l ((pre.length : Nat) : Int) = ((x / y : Nat) : Int) := by
        rw [hl]; simp [rd, List.getD_eq_getElem?_getD]
      have hdm := Nat.div_add_mod x y
      have hval : wrap64 (wrap64 (((x / y : Nat) : Int) * y) + ((x % y : Nat) : Int)) = x := by
        refine fold_val (Int.natCast_nonneg _) (Int.natCast_nonneg _) (Int.natCast_nonneg _) ?_ (by omega)
        have : ((y * (x / y) + x % y : Nat) : Int) = (x : Int) := by rw [hdm]
        rw [Int.natCast_add, Int.natCast_mul, Int.mul_comm] at this
        exact this
      refine Ev.step (fun k => ?_) hr
      show yard_Fold.l0 (k + 1) _ _ _ _ = _
      simp only [yard_Fold.l0, List.length_append, List.length_cons, List.length_nil]
      rw [show ((pre.length + (0 + 1) : Nat) : Int) - 1 = ((pre.length : Nat) : Int) by omega, if_neg (by omega), hrd, hval, if_neg (by omega)]
theorem Fold_quots {a b : Int} (h : okF a b = true) : Ev (fun k => yard_Fold.f k (quots b.toNat a.toNat)) (a, b, 0) := by
  obtain ⟨h1, h2, h3, h4, h5⟩ := okF_iff.1 h
  obtain ⟨a, rfl⟩ := Int.eq_ofNat_of_zero_le h3
  obtain ⟨b, rfl⟩ := Int.eq_ofNat_of_zero_le (show 0 ≤ b by omega)
  simp only [Int.toNat_natCast]
  have hg : Nat.gcd b a = 1 := by rw [Nat.gcd_comm]; exact h5
  have hlen := quots_short 20 b a (by omega)
  have hrange := quots_range a b (by omega) (by omega)
  have hbad : ¬ (quots b a).any badQ = true := by
    rw [List.any_eq_true]
    rintro ⟨c, hc, hb⟩
    have := hrange c hc
    simp [badQ] at hb
    omega
  have hf := fold_quots a b [] (quots b a) (a, b, 0) rfl hg (by omega) (by omega) ⟨1, fun k hk => by
    obtain ⟨i, rfl⟩ : ∃ i, k = i + 1 := ⟨k - 1, by omega⟩
    simp only [yard_Fold.l0]
    rw [if_pos (by simp)]⟩
  simp only [yard_Fold.f]
  refine Ev.ite_false (by omega) ?_
  by_cases hl1 : ((quots b a).length : Int) > 1
  · refine Ev.ite_true hl1 (Ev.ite_false ?_ (Ev.ite_false hbad hf))
    intro he
    have hab : a < b := by
      rcases Nat.lt_or_eq_of_le (show a ≤ b by omega) with h | h
      · exact h
      · subst h
        rw [Nat.gcd_self] at hg
        subst hg
        rw [quots_cons (by omega), quots_nil] at hl1
        simp at hl1
    have hi : (quots b a).length - 1 < (quots b a).length := by omega
    have hgl : (quots b a).getLast? = some (rd (quots b a) (((quots b a).length : Int) - 1)) := by
      rw [List.getLast?_eq_getElem?, List.getElem?_eq_getElem hi]
      simp only [rd, List.getD_eq_getElem?_getD]
      rw [show (((quots b a).length : Int) - 1).toNat = (quots b a).length - 1 by omega, List.getElem?_eq_getElem hi]
      rfl
    have := quots_last a b hab _ hgl
    omega
  · exact Ev.ite_false hl1 (Ev.ite_false hbad hf)
end Go.Proofs.Ythjodhmkmjabbaa.PY
