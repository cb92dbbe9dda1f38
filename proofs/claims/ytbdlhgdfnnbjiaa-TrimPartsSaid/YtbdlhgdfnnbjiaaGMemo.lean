/- The memo of trim.inner: its keys. -/
import Derived.Test.YtbdlhgdfnnbjiaaGPalindromes
import Derived.WideKeyArr
import Derived.Maps.Ext
namespace Go.Proofs.Ytbdlhgdfnnbjiaa.PY
open Go.RowKit Go.Shelf Go.Maps Go.Proofs.YtbdlhgdfnnbjiaaW.PrintWords Go.Proofs.YtbdlhgdfnnbjiaaW.PrintLast Go.Proofs.YtbdlhgdfnnbjiaaW.PrintMore
set_option linter.unusedVariables false
theorem arr83 : Go.WideMaps.ArrKey Try.prog 83 3 2 := ⟨Try.underlying83, by kernel_rfl, by kernel_rfl, by kernel_rfl⟩
theorem keyed83 : Keyed Try.prog 83 := Keyed.of_law arr83.law
def pairV (i j : Int) : Value := .agg #[.int .i64 i, .int .i64 j]
def pairL (i j : Int) : Lit := .string (keyBytes [.int .i64 i, .int .i64 j])
theorem wf64 {i : Int} (h0 : 0 ≤ i) (h1 : i ≤ 1000) : (Lit.int .i64 i).wf = true := by
  have : IntKind.i64.min = -9223372036854775808 := rfl
  simp [Lit.wf, this]
  omega
theorem keyOf_pairV {i j : Int} (hi : (Lit.int .i64 i).wf = true) (hj : (Lit.int .i64 j).wf = true) : keyOf Try.prog 83 (pairV i j) = some (pairL i j) := by
  have hk : Try.prog.keyType 83 = true := by kernel_rfl
  have hc3 : Try.prog.cellsOf 3 = 1 := by kernel_rfl
  have hc83 : Try.prog.cellsOf 83 = 2 := by kernel_rfl
  have hu3 := Try.underlying3
  have h83 := Try.underlying83
  unfold keyOf pairV pairL
  have hf : (Value.agg #[.int .i64 i, .int .i64 j]).formed Try.prog 83 = true := by
    unfold Value.formed
    rw [h83]
    simp [hc83]
  have h1 : 1 ≤ Try.prog.types.size := of_decide_eq_true (by kernel_rfl)
  obtain ⟨d, hd⟩ : ∃ d, Try.prog.types.size + 1 = d + 2 := ⟨Try.prog.types.size - 1, by omega⟩
  rw [h83]
  simp only [hk, hf, hd, Bool.and_self, if_true]
  unfold Program.keyLits
  rw [h83]
  simp [Value.cells, hc83, hc3, List.range, List.range.loop, List.mapM_cons]
  unfold Program.keyLits
  simp [hu3, hi, hj]
theorem pairL_inj {i j i' j' : Int} (hi : (Lit.int .i64 i).wf = true) (hj : (Lit.int .i64 j).wf = true) (hi' : (Lit.int .i64 i').wf = true) (hj' : (Lit.int .i64 j').wf = true) (h : pairL i j = pairL i' j') : i = i' ∧ j = j' := by
  have := keyed83.inj (keyOf_pairV hi hj) (by rw [h]; exact keyOf_pairV hi' hj')
  unfold pairV at this
  simpa using this
/-! ### the lengths -/
theorem lq_le (s : ByteArray) : ∀ d i, lq s d i ≤ d
  | 0, _ => Nat.le_refl _
  | 1, _ => Nat.le_refl _
  | d + 2, i => by
    have h1 := lq_le s (d + 1) (i + 1)
    have h2 := lq_le s (d + 1) i
    have h3 := lq_le s d (i + 1)
    simp only [lq]
    split <;> omega
theorem lqI_range (s : ByteArray) (i j : Int) : 0 ≤ lqI s i j ∧ (lqI s i j ≤ 0 ∨ lqI s i j ≤ j - i) := by
  unfold lqI
  split
  · have := lq_le s (j - i).toNat i.toNat; omega
  · omega
theorem lqI_ge {s : ByteArray} {i j : Int} (h : ¬ i < j) : lqI s i j = 0 := by unfold lqI; rw [if_neg h]
theorem lqI_one {s : ByteArray} {i j : Int} (h : i < j) (h2 : ¬ i + 1 < j) : lqI s i j = 1 := by
  unfold lqI
  rw [if_pos h, show (j - i).toNat = 1 by omega]
  rfl
theorem lqI_step {s : ByteArray} {i j : Int} (h0 : 0 ≤ i) (h : i + 1 < j) : lqI s i j = if bt s i = bt s (j - 1) then mx (mx (lqI s (i + 1) j) (lqI s i (j - 1))) (2 + lqI s (i + 1) (j - 1)) else mx (lqI s (i + 1) j) (lqI s i (j - 1)) := by
  obtain ⟨d, hd⟩ : ∃ d : Nat, j = i + d + 2 := ⟨(j - i - 2).toNat, by omega⟩
  subst hd
  obtain ⟨n, rfl⟩ : ∃ n : Nat, i = n := ⟨i.toNat, by omega⟩
  have e0 : ((n : Int) + d + 2 - n).toNat = d + 2 := by omega
  have e1 : ((n : Int) + d + 2 - (n + 1)).toNat = d + 1 := by omega
  have e2 : ((n : Int) + d + 2 - 1 - n).toNat = d + 1 := by omega
  have e3 : ((n : Int) + d + 2 - 1 - (n + 1)).toNat = d := by omega
  have e4 : ((n : Int) + 1).toNat = n + 1 := by omega
  have e5 : (n : Int) + d + 2 - 1 = ((n + d + 1 : Nat) : Int) := by omega
  have hz : lq s 0 (n + 1) = 0 := rfl
  have l0 : lqI s n (n + d + 2) = (lq s (d + 2) n : Int) := by unfold lqI; rw [if_pos (by omega), e0, Int.toNat_natCast]
  have l1 : lqI s (n + 1) (n + d + 2) = (lq s (d + 1) (n + 1) : Int) := by unfold lqI; rw [if_pos (by omega), e1, e4]
  have l2 : lqI s n (n + d + 2 - 1) = (lq s (d + 1) n : Int) := by unfold lqI; rw [if_pos (by omega), e2, Int.toNat_natCast]
  have l3 : lqI s (n + 1) (n + d + 2 - 1) = (lq s d (n + 1) : Int) := by
    unfold lqI
    by_cases c : (n : Int) + 1 < n + d + 2 - 1
    · rw [if_pos c, e3, e4]
    · rw [if_neg c, show d = 0 by omega]; rfl
  rw [l0, l1, l2, l3, e5]
  simp only [lq]
  by_cases c : bt s (n : Int) = bt s ((n + d + 1 : Nat) : Int)
  · rw [if_pos c, if_pos c]
    unfold mx
    split <;> split <;> omega
  · rw [if_neg c, if_neg c]
    unfold mx
    split <;> omega
/-! ### what the memo holds -/
def Good (s : ByteArray) (D : DataW Unit) : Prop := ∀ kl, has D kl = true → ∃ i j : Int, 0 ≤ i ∧ i < j ∧ j ≤ s.size ∧ kl = pairL i j ∧ D.atKey kl (.lit (.int .i64 0)) = .lit (.int .i64 (lqI s i j))
theorem good_empty (s : ByteArray) : Good s (.map []) := fun kl h => by simp [has] at h
theorem good_put {s : ByteArray} {D : DataW Unit} (hm : IsMap D) (h : Good s D) {i j : Int} (h0 : 0 ≤ i) (h1 : i < j) (h2 : j ≤ s.size) : Good s (D.put (pairL i j) (.lit (.int .i64 (lqI s i j)))) := by
  intro kl hk
  by_cases e : kl = pairL i j
  · subst e
    exact ⟨i, j, h0, h1, h2, rfl, atKey_put_same hm (show WideAt.IsKeyLit (.string _) from trivial) _ _⟩
  · rw [has_put_other e] at hk
    obtain ⟨i', j', a, b, c, d, f⟩ := h kl hk
    exact ⟨i', j', a, b, c, d, by rw [atKey_put_other e]; exact f⟩
theorem good_at {s : ByteArray} (hs : s.size ≤ 100) {D : DataW Unit} (h : Good s D) {i j : Int} (h0 : 0 ≤ i) (h1 : i < j) (h2 : j ≤ s.size) (hk : has D (pairL i j) = true) : D.atKey (pairL i j) (.lit (.int .i64 0)) = .lit (.int .i64 (lqI s i j)) := by
  obtain ⟨i', j', a, b, c, d, f⟩ := h _ hk
  obtain ⟨rfl, rfl⟩ := pairL_inj (wf64 h0 (by omega)) (wf64 (by omega) (by omega)) (wf64 a (by omega)) (wf64 (by omega) (by omega)) d
  exact f
theorem nodup_le {α : Type} [DecidableEq α] : ∀ (l m : List α), l.Nodup → (∀ x ∈ l, x ∈ m) → l.length ≤ m.length
  | [], m, _, _ => Nat.zero_le _
  | x :: l, m, hn, hs => by
    have hx := hs x (by simp)
    have h1 := nodup_le l (m.erase x) (List.nodup_cons.1 hn).2 (fun y hy => by
      have hne : y ≠ x := fun e => (List.nodup_cons.1 hn).1 (e ▸ hy)
      exact (List.mem_erase_of_ne hne).2 (hs y (by simp [hy])))
    rw [List.length_erase_of_mem hx] at h1
    have := List.length_pos_of_mem hx
    simp; omega
theorem good_size {s : ByteArray} (hs : s.size ≤ 100) {D : DataW Unit} (ht : Canon D) (h : Good s D) : Maps.size D ≤ 10201 := by
  obtain ⟨es, rfl, hrise, hkl⟩ := ht
  have hp := apart_of_rising hrise
  let cand := (List.range 101).flatMap fun i : Nat => (List.range 101).map fun j : Nat => keyBytes [.int .i64 (i : Int), .int .i64 (j : Int)]
  have hkey : ∀ p ∈ es, ∃ i j : Int, 0 ≤ i ∧ i < j ∧ j ≤ s.size ∧ p.1 = pairL i j := by
    intro p hpm
    obtain ⟨i, j, a, b, c, d, _⟩ : ∃ i j : Int, 0 ≤ i ∧ i < j ∧ j ≤ s.size ∧ p.1 = pairL i j ∧ _ := by
      by_cases hh : has (.map es) p.1 = true
      · exact h _ hh
      · refine absurd ?_ hh
        show es.any (fun q => q.1.sameKey p.1) = true
        exact List.any_eq_true.2 ⟨p, hpm, WideAt.sameKey_self (hkl p hpm)⟩
    exact ⟨i, j, a, b, c, d⟩
  have h1 : (es.map fun p => strOf p.1).Nodup := by
    rw [List.Nodup, List.pairwise_map]
    refine hp.imp_of_mem fun {a b} ha hb hne e => hne ?_
    obtain ⟨i, j, _, _, _, e1⟩ := hkey a ha
    obtain ⟨i', j', _, _, _, e2⟩ := hkey b hb
    rw [e1, e2] at e ⊢
    unfold pairL at e ⊢
    simp only [strOf] at e
    rw [e]
  have h2 := nodup_le (es.map fun p => strOf p.1) cand h1 (fun x hx => by
    obtain ⟨p, hpm, rfl⟩ := List.mem_map.1 hx
    obtain ⟨i, j, a, b, c, d⟩ := hkey p hpm
    rw [d]
    refine List.mem_flatMap.2 ⟨i.toNat, List.mem_range.2 (by omega), List.mem_map.2 ⟨j.toNat, List.mem_range.2 (by omega), ?_⟩⟩
    rw [Int.toNat_of_nonneg a, Int.toNat_of_nonneg (by omega)]
    rfl)
  have h3 : cand.length = 10201 := by decide +kernel
  rw [h3, List.length_map] at h2
  exact h2
end Go.Proofs.Ytbdlhgdfnnbjiaa.PY
