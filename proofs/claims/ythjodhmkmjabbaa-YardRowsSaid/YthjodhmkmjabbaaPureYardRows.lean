import Derived.Test.YthjodhmkmjabbaaPYx18
import Derived.Test.YthjodhmkmjabbaaB1
import Derived.Test.YthjodhmkmjabbaaB6
namespace Go.Proofs.Ythjodhmkmjabbaa.Pure
open Go.RowKit Go.Proofs.Ythjodhmkmjabbaa.PY Go.Proofs.YthjodhmkmjabbaaW.PrintWords Go.Proofs.YthjodhmkmjabbaaW.PrintLast

theorem rows_awake : Ev (fun k => (galloonlaw03_awake.f k).bind fun t => some t) true := Ev.bind awake_ev (Ev.now _)
theorem lawRow_eval (n : Int) : galloonlaw03_row.f n = some (okN n) := by
  simp only [galloonlaw03_row.f, okN]
  by_cases h1 : n ≥ 1
  · rw [if_pos h1]; simp; omega
  · rw [if_neg h1]; simp; omega
theorem YardRows : galloonlaw03_YardRows.Pure := by
  intro n i _ wi
  have hiw : i ≤ 9223372036854775807 := by
    simp only [Lit.wf, IntKind.min, IntKind.max, IntKind.signed, IntKind.bits, Bool.and_eq_true, decide_eq_true_eq, if_true] at wi
    omega
  refine Ev.rounds (?_ : Ev (fun k => galloonlaw03_YardRows.f k n i) true)
  cases h : okN n with
  | false =>
    refine Ev.bind (size_no h) (Ev.bind (item_no h) ?_)
    simp only [lawRow_eval, h, Option.bind_some]
    simpa using rows_awake
  | true =>
    obtain ⟨m, rfl⟩ : ∃ m : Nat, n = m := ⟨n.toNat, by simp [okN] at h; omega⟩
    by_cases hi : i < 0 ∨ (cnt 1 1 m : Int) < i
    · refine Ev.bind (size_ev h) (Ev.bind (item_far h hi hiw) ?_)
      simp only [lawRow_eval, h, Option.bind_some, if_true]
      refine Ev.bind (row_ev h) ?_
      simp only [rowT_len]
      refine Ev.ite_true (by omega) ?_
      refine Ev.step (f := fun k => galloonlaw03_YardRows.j1 k i 2 (rowT m (cnt 1 1 m + 1)) true 0 0) (fun k => ?_) (Ev.step (f := fun k => (galloonlaw03_awake.f k).bind fun t => some t) (fun k => ?_) rows_awake)
      · simp only [galloonlaw03_YardRows.j0, rowT_len]
        rw [if_neg (by decide)]
        by_cases h0 : i < 0
        · rw [if_pos h0]
        · rw [if_neg h0, decide_eq_true (by omega)]
      · simp [galloonlaw03_YardRows.j1]
    · obtain ⟨j, rfl⟩ : ∃ j : Nat, i = j := ⟨i.toNat, by omega⟩
      refine Ev.bind (size_ev h) (Ev.bind (item_ev h (i := j) (by omega)) ?_)
      simp only [lawRow_eval, h, Option.bind_some, if_true]
      refine Ev.bind (row_ev h) ?_
      simp only [rowT_len]
      refine Ev.ite_true (by omega) ?_
      refine Ev.step (f := fun k => galloonlaw03_YardRows.j1 k j 0 (rowT m (cnt 1 1 m + 1)) false (fr m j).1 (fr m j).2) (fun k => ?_) (Ev.step (f := fun k => (galloonlaw03_awake.f k).bind fun t => some t) (fun k => ?_) rows_awake)
      · simp only [galloonlaw03_YardRows.j0, rowT_len]
        rw [if_neg (by decide), if_neg (by omega), decide_eq_false (by omega)]
      · simp only [galloonlaw03_YardRows.j1, rowT_len]
        rw [if_neg (by decide), if_pos (by omega), if_pos (by omega), rowT_at _ _ _ (by omega)]
        simp [frT]

end Go.Proofs.Ythjodhmkmjabbaa.Pure
