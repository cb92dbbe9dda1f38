import Derived.Test.YthjodhmkmjabbaaB5
import Derived.Test.YthjodhmkmjabbaaPYx7
import Derived.Test.YthjodhmkmjabbaaPYx17
import Derived.Test.YthjodhmkmjabbaaGItem
/-! The yard's item and size, the reference's row. -/
namespace Go.Proofs.Ythjodhmkmjabbaa.PY
open Go.RowKit Go.Proofs.YthjodhmkmjabbaaW.PrintWords Go.Proofs.YthjodhmkmjabbaaW.PrintLast

def okN (n : Int) : Bool := decide (1 ≤ n ∧ n ≤ 300)
theorem isRow_eval (n : Int) : yard_isRow.f n = some (okN n) := by
  simp only [yard_isRow.f, yard_within.f, okN]
  by_cases h1 : n ≥ 1
  · rw [if_pos h1]; simp; omega
  · rw [if_neg h1]; simp; omega
theorem size_ev {n : Nat} (h : okN n = true) : Ev (fun k => yard_Size.f k n) (((cnt 1 1 n : Nat) : Int) + 1, 0) := by
  simp [okN] at h
  have hc := cnt_le 1 1 n (by omega)
  simp only [yard_Size.f, isRow_eval, Option.bind_some]
  refine Ev.ite_true (by simp [okN]; omega) (Ev.bind (below_ev (by omega) (by omega) (by omega) (by omega) (by omega)) (Ev.to (Ev.now _) ?_))
  rw [w64 (by omega), Int.add_comm]
theorem size_no {n : Int} (h : okN n = false) : Ev (fun k => yard_Size.f k n) (0, 2) := by
  simp only [yard_Size.f, isRow_eval, Option.bind_some, h]
  exact Ev.now _
theorem cnt_pos {n : Nat} (hn : 1 ≤ n) : 1 ≤ cnt 1 1 n := by
  induction n with
  | zero => omega
  | succ n ih =>
    rcases Nat.eq_zero_or_pos n with rfl | h
    · decide
    · have := ih h
      simp only [cnt]
      omega
theorem item_loop {n : Nat} (h1 : 1 ≤ n) (h2 : n ≤ 300) : ∀ (s j : Nat) (rem : Nat), s = cnt 1 1 n - j → j ≤ cnt 1 1 n → rem < 1000000 →
    Ev (fun k => yard_Item.l0 k n (fr n j).1 (fr n j).2 (fr n (j + 1)).1 (fr n (j + 1)).2 rem) (if j + rem ≤ cnt 1 1 n then ((fr n (j + rem)).1, (fr n (j + rem)).2, 0) else (0, 0, 2)) := by
  intro s
  induction s with
  | zero =>
    intro j rem hs hj hr
    have hje : j = cnt 1 1 n := by omega
    subst hje
    refine ⟨1, fun k hk => ?_⟩
    obtain ⟨i, rfl⟩ : ∃ i, k = i + 1 := ⟨k - 1, by omega⟩
    simp only [yard_Item.l0]
    by_cases h0 : (rem : Int) = 0
    · rw [if_pos h0, if_pos (by omega), show rem = 0 by omega]
      rfl
    · rw [if_neg h0, if_neg (by rw [fr_last h1]; decide), if_neg (by omega)]
  | succ s ih =>
    intro j rem hs hj hr
    by_cases h0 : (rem : Int) = 0
    · refine ⟨1, fun k hk => ?_⟩
      obtain ⟨i, rfl⟩ : ∃ i, k = i + 1 := ⟨k - 1, by omega⟩
      simp only [yard_Item.l0]
      rw [if_pos h0, if_pos (by omega), show rem = 0 by omega]
      rfl
    · have hlt := fr_lt h1 (show j < cnt 1 1 n by omega)
      have hnb := fr_nb (n := (n : Int)) (by omega) j
      have hle := fr_le h1 (show j + 1 ≤ cnt 1 1 n by omega)
      have hi := ih (j + 1) (rem - 1) (by omega) (by omega) (by omega)
      have e1 : j + 1 + (rem - 1) = j + rem := by omega
      rw [e1] at hi
      have hb1 := hnb.b1
      have hbn := hnb.bn
      have hd1 := hnb.d1
      have hdn := hnb.dn
      have ha0 := hnb.a0
      have hc0 := hnb.c0
      have hst := hnb.step
      have hs1 := hst.d1
      have hs2 := hst.dn
      have hs3 := hst.c0
      obtain ⟨e, he⟩ : ∃ e, e = ((n : Int) + (fr n j).2) / (fr n (j + 1)).2 := ⟨_, rfl⟩
      have he0 : 0 ≤ e := by rw [he]; exact Int.ediv_nonneg (by omega) (by omega)
      have hen : e ≤ n + (fr n j).2 := by rw [he]; exact Int.ediv_le_self _ (by omega)
      rw [← he] at hs1 hs2 hs3
      have m1 : e * (fr n (j + 1)).1 ≤ 600 * 300 := Int.mul_le_mul (by omega) (by omega) hc0 (by omega)
      have m2 : e * (fr n (j + 1)).2 ≤ 600 * 300 := Int.mul_le_mul (by omega) (by omega) (by omega) (by omega)
      have m3 : 0 ≤ e * (fr n (j + 1)).1 := Int.mul_nonneg he0 hc0
      have m4 : 0 ≤ e * (fr n (j + 1)).2 := Int.mul_nonneg he0 (by omega)
      refine Ev.step (fun k => ?_) hi
      show yard_Item.l0 (k + 1) _ _ _ _ _ _ = _
      simp only [yard_Item.l0]
      rw [if_neg h0, if_pos hlt, if_neg (by omega), w64 (n := (n : Int) + (fr n j).2) (by omega), Int.tdiv_eq_ediv_of_nonneg (by omega), ← he, w64 (n := e) (by omega), w64 (n := e * (fr n (j + 1)).1) (by omega), w64 (n := e * (fr n (j + 1)).2) (by omega),
        w64 (by omega), w64 (by omega), w64 (by omega), show (rem : Int) - 1 = ((rem - 1 : Nat) : Int) by omega, he]
      rfl
theorem item_ev {n : Nat} (h : okN n = true) {i : Nat} (hi : i ≤ cnt 1 1 n) : Ev (fun k => yard_Item.f k n i) ((fr n i).1, (fr n i).2, 0) := by
  have h' := h
  simp [okN] at h'
  simp only [yard_Item.f, isRow_eval, Option.bind_some]
  refine Ev.ite_true h (Ev.ite_false (by omega) ?_)
  have hc := cnt_le 1 1 n (by omega)
  have := item_loop (n := n) (by omega) (by omega) _ 0 i rfl (by omega) (by omega)
  rw [if_pos (by omega), show 0 + i = i by omega] at this
  exact this
theorem item_far_loop {n : Nat} (h1 : 1 ≤ n) (h2 : n ≤ 300) : ∀ (s j : Nat) (rem : Int), s = cnt 1 1 n - j → j ≤ cnt 1 1 n → (cnt 1 1 n : Int) < j + rem → rem ≤ 9223372036854775807 →
    Ev (fun k => yard_Item.l0 k n (fr n j).1 (fr n j).2 (fr n (j + 1)).1 (fr n (j + 1)).2 rem) (0, 0, 2) := by
  intro s
  induction s with
  | zero =>
    intro j rem hs hj hr hr2
    have hje : j = cnt 1 1 n := by omega
    subst hje
    refine ⟨1, fun k hk => ?_⟩
    obtain ⟨i, rfl⟩ : ∃ i, k = i + 1 := ⟨k - 1, by omega⟩
    simp only [yard_Item.l0]
    rw [if_neg (by omega), if_neg (by rw [fr_last h1]; decide)]
  | succ s ih =>
    intro j rem hs hj hr hr2
    have hlt := fr_lt h1 (show j < cnt 1 1 n by omega)
    have hnb := fr_nb (n := (n : Int)) (by omega) j
    have hle := fr_le h1 (show j + 1 ≤ cnt 1 1 n by omega)
    have hi := ih (j + 1) (rem - 1) (by omega) (by omega) (by omega) (by omega)
    have hb1 := hnb.b1
    have hbn := hnb.bn
    have hd1 := hnb.d1
    have hdn := hnb.dn
    have ha0 := hnb.a0
    have hc0 := hnb.c0
    have hst := hnb.step
    have hs1 := hst.d1
    have hs2 := hst.dn
    have hs3 := hst.c0
    obtain ⟨e, he⟩ : ∃ e, e = ((n : Int) + (fr n j).2) / (fr n (j + 1)).2 := ⟨_, rfl⟩
    have he0 : 0 ≤ e := by rw [he]; exact Int.ediv_nonneg (by omega) (by omega)
    have hen : e ≤ n + (fr n j).2 := by rw [he]; exact Int.ediv_le_self _ (by omega)
    rw [← he] at hs1 hs2 hs3
    have m1 : e * (fr n (j + 1)).1 ≤ 600 * 300 := Int.mul_le_mul (by omega) (by omega) hc0 (by omega)
    have m2 : e * (fr n (j + 1)).2 ≤ 600 * 300 := Int.mul_le_mul (by omega) (by omega) (by omega) (by omega)
    have m3 : 0 ≤ e * (fr n (j + 1)).1 := Int.mul_nonneg he0 hc0
    have m4 : 0 ≤ e * (fr n (j + 1)).2 := Int.mul_nonneg he0 (by omega)
    refine Ev.step (fun k => ?_) hi
    show yard_Item.l0 (k + 1) _ _ _ _ _ _ = _
    simp only [yard_Item.l0]
    rw [if_neg (by omega), if_pos hlt, if_neg (by omega), w64 (n := (n : Int) + (fr n j).2) (by omega), Int.tdiv_eq_ediv_of_nonneg (by omega), ← he, w64 (n := e) (by omega), w64 (n := e * (fr n (j + 1)).1) (by omega), w64 (n := e * (fr n (j + 1)).2) (by omega),
      w64 (by omega), w64 (by omega), w64 (by omega), he]
    rfl
theorem item_far {n : Nat} (h : okN n = true) {i : Int} (hi : i < 0 ∨ (cnt 1 1 n : Int) < i) (hw : i ≤ 9223372036854775807) : Ev (fun k => yard_Item.f k n i) (0, 0, 2) := by
  have h' := h
  simp [okN] at h'
  simp only [yard_Item.f, isRow_eval, Option.bind_some]
  refine Ev.ite_true h ?_
  by_cases h0 : i < 0
  · exact Ev.ite_true h0 (Ev.now _)
  · refine Ev.ite_false h0 ?_
    exact item_far_loop (n := n) (by omega) (by omega) _ 0 i rfl (by omega) (by omega) hw
theorem item_no {n i : Int} (h : okN n = false) : Ev (fun k => yard_Item.f k n i) (0, 0, 2) := by
  simp only [yard_Item.f, isRow_eval, Option.bind_some, h]
  exact Ev.now _
/-! ### the reference's row -/
def frT (n : Int) (k : Nat) : S23 := ⟨(fr n k).1, (fr n k).2⟩
def rowT (n : Int) (m : Nat) : List S23 := (List.range m).map (frT n)
theorem rowT_len (n : Int) (m : Nat) : (rowT n m).length = m := by simp [rowT]
theorem rowT_at (n : Int) (m : Nat) (i : Nat) (h : i < m) : rd_T23 (rowT n m) (i : Int) = frT n i := by
  simp only [rd_T23, rowT, Int.toNat_natCast, List.getD_eq_getElem?_getD, List.getElem?_map, List.getElem?_range h]
  rfl
theorem row_loop {n : Nat} (h1 : 1 ≤ n) (h2 : n ≤ 300) : ∀ (s j : Nat), cnt 1 1 n = j + 1 + s →
    Ev (fun k => galloonref03_Row.l0 k n (rowT n (j + 2))) (rowT n (cnt 1 1 n + 1)) := by
  intro s
  induction s with
  | zero =>
    intro j hs
    have hc := cnt_le 1 1 n h2
    refine ⟨1, fun k hk => ?_⟩
    obtain ⟨i, rfl⟩ : ∃ i, k = i + 1 := ⟨k - 1, by omega⟩
    simp only [galloonref03_Row.l0, rowT_len]
    rw [w64 (by omega), if_pos (by omega), if_pos (by omega), show ((j + 2 : Nat) : Int) - 1 = ((j + 1 : Nat) : Int) by omega, rowT_at _ _ _ (by omega)]
    have : frT n (j + 1) = ⟨1, 1⟩ := by
      have := fr_last h1
      rw [show cnt 1 1 n = j + 1 by omega] at this
      simp [frT, this]
    rw [this, if_neg (by decide), show cnt 1 1 n + 1 = j + 2 by omega]
  | succ s ih =>
    intro j hs
    have hi := ih (j + 1) (by omega)
    have hc := cnt_le 1 1 n h2
    have hlt := fr_lt h1 (show j + 1 < cnt 1 1 n by omega)
    have hnb := fr_nb (n := (n : Int)) (by omega) j
    have hle := fr_le h1 (show j + 1 ≤ cnt 1 1 n by omega)
    have hla := fr_le h1 (show j ≤ cnt 1 1 n by omega)
    have hb1 := hnb.b1
    have hbn := hnb.bn
    have hd1 := hnb.d1
    have hdn := hnb.dn
    have ha0 := hnb.a0
    have hc0 := hnb.c0
    have hst := hnb.step
    have hs1 := hst.d1
    have hs2 := hst.dn
    have hs3 := hst.c0
    obtain ⟨e, he⟩ : ∃ e, e = ((n : Int) + (fr n j).2) / (fr n (j + 1)).2 := ⟨_, rfl⟩
    have he0 : 0 ≤ e := by rw [he]; exact Int.ediv_nonneg (by omega) (by omega)
    have hen : e ≤ n + (fr n j).2 := by rw [he]; exact Int.ediv_le_self _ (by omega)
    rw [← he] at hs1 hs2 hs3
    have m1 : e * (fr n (j + 1)).1 ≤ 600 * 300 := Int.mul_le_mul (by omega) (by omega) hc0 (by omega)
    have m2 : e * (fr n (j + 1)).2 ≤ 600 * 300 := Int.mul_le_mul (by omega) (by omega) (by omega) (by omega)
    have m3 : 0 ≤ e * (fr n (j + 1)).1 := Int.mul_nonneg he0 hc0
    have m4 : 0 ≤ e * (fr n (j + 1)).2 := Int.mul_nonneg he0 (by omega)
    have hnext : rowT n (j + 3) = rowT n (j + 2) ++ [⟨e * (fr n (j + 1)).1 - (fr n j).1, e * (fr n (j + 1)).2 - (fr n j).2⟩] := by
      simp only [rowT]
      rw [List.range_succ, List.map_append]
      congr 1
      rw [he]
      rfl
    refine Ev.step (fun k => ?_) hi
    show galloonref03_Row.l0 (k + 1) _ _ = _
    simp only [galloonref03_Row.l0, rowT_len]
    rw [w64 (n := ((j + 2 : Nat) : Int) - 1) (by omega), w64 (n := ((j + 2 : Nat) : Int) - 2) (by omega), if_pos (by omega), if_pos (by omega), show ((j + 2 : Nat) : Int) - 1 = ((j + 1 : Nat) : Int) by omega, show ((j + 2 : Nat) : Int) - 2 = (j : Int) by omega, rowT_at _ _ _ (by omega), rowT_at _ _ _ (by omega)]
    rw [if_pos (show (frT n (j + 1)).f0 < (frT n (j + 1)).f1 from hlt), if_pos (by omega), if_pos (by omega), if_neg (show ¬ (frT n (j + 1)).f1 = 0 from (show ¬ (fr n (j + 1)).2 = 0 by omega)), if_pos (by omega)]
    simp only [frT]
    rw [w64 (n := (n : Int) + (fr n j).2) (by omega), Int.tdiv_eq_ediv_of_nonneg (by omega), ← he, w64 (n := e) (by omega), w64 (n := e * (fr n (j + 1)).1) (by omega), w64 (n := e * (fr n (j + 1)).2) (by omega),
      w64 (by omega), w64 (by omega), hnext]
theorem row_ev {n : Nat} (h : okN n = true) : Ev (fun k => galloonref03_Row.f k n) (rowT n (cnt 1 1 n + 1)) := by
  simp [okN] at h
  have hp := cnt_pos (n := n) (by omega)
  exact row_loop (n := n) (by omega) (by omega) (cnt 1 1 n - 1) 0 (by omega)
end Go.Proofs.Ythjodhmkmjabbaa.PY
