import Derived.Test.YtbdlhgdfnnbjiaaPYx12
import Derived.Test.YtbdlhgdfnnbjiaaBRef
/-! TrimEnds: the plain law. -/
namespace Go.Proofs.Ytbdlhgdfnnbjiaa.Pure
open Go.Proofs.Ytbdlhgdfnnbjiaa.PY Go.RowKit Go.Proofs.YtbdlhgdfnnbjiaaW.PrintWords Go.Proofs.YtbdlhgdfnnbjiaaW.PrintLast Go.Proofs.Ytbdlhgdfnnbjiaa.Pal
theorem TrimEnds : galloonlaw01_TrimEnds.Pure := by
  intro a0 _
  obtain ⟨t, ht, hts⟩ := short_ev a0
  have hw := rword_ev (s := t) (by omega)
  have hi := isWord_iff t
  refine Ev.rounds (g := fun k => galloonlaw01_TrimEnds.f k a0) ?_
  unfold galloonlaw01_TrimEnds.f
  rw [ht]
  simp only [Option.bind_some]
  by_cases c : t.size ≤ 100 ∧ ∀ c ∈ L t, 97 ≤ c.toNat ∧ c.toNat ≤ 100
  · have hsz := c.1
    have hE : Ev (fun k => trim_Ends.f k t) (endsL (L t), 0) := by
      unfold trim_Ends.f
      rw [hi]
      simp only [Option.bind_some]
      refine Ev.ite_true (by simpa using c) ?_
      exact ends_loop (by omega) t.size 0 (by omega)
    have hR : Ev (fun k => trim_Rich.f k t) (richL (L t) t.size 0, 0) := by
      unfold trim_Rich.f
      rw [hi]
      simp only [Option.bind_some]
      refine Ev.ite_true (by simpa using c) ?_
      exact rich_loop (by omega) t.size 0 (by omega)
    refine Ev.bind hE (Ev.bind hR (Ev.bind hw (Ev.ite_true (by simpa using c) (Ev.bind (rends_ev (by omega)) (Ev.bind (ints_ev (by simp [endsL, L_size]; omega)) (Ev.ite_true rfl (Ev.ite_true rfl (Ev.bind (rrich_ev (by omega)) (Ev.ite_true rfl (Ev.ite_true rfl (Ev.bind awake_ev (Ev.now _))))))))))))
  · have hE : Ev (fun k => trim_Ends.f k t) ([], 2) := by
      unfold trim_Ends.f
      rw [hi]
      simp only [Option.bind_some]
      exact Ev.ite_false (by simpa using c) (Ev.now _)
    have hR : Ev (fun k => trim_Rich.f k t) (0, 2) := by
      unfold trim_Rich.f
      rw [hi]
      simp only [Option.bind_some]
      exact Ev.ite_false (by simpa using c) (Ev.now _)
    exact Ev.bind hE (Ev.bind hR (Ev.bind hw (Ev.ite_false (by simpa using c) (Ev.ite_true rfl (Ev.ite_true rfl (Ev.ite_true rfl (Ev.ite_true rfl (Ev.bind awake_ev (Ev.now _)))))))))
end Go.Proofs.Ytbdlhgdfnnbjiaa.Pure
