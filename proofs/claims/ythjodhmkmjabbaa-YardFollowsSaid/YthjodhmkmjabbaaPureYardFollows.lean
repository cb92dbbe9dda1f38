import Derived.Test.YthjodhmkmjabbaaPYx20
import Derived.Test.YthjodhmkmjabbaaB1
namespace Go.Proofs.Ythjodhmkmjabbaa.Pure
open Go.RowKit Go.Proofs.Ythjodhmkmjabbaa.PY Go.Proofs.YthjodhmkmjabbaaW.PrintWords Go.Proofs.YthjodhmkmjabbaaW.PrintLast

theorem follows_awake : Ev (fun k => (galloonlaw03_awake.f k).bind fun t => some t) true := Ev.bind awake_ev (Ev.now _)
/-- The two walks along a word of turns. -/
theorem follow_both : ∀ (n : Nat) (s : ByteArray) (i : Nat) (x0 x1 x2 x3 : Int), s.size ≤ 1000 → s.size = i + n →
    ∃ a b ok, Ev (fun k => galloonref03_Follow.l0 k s x0 x1 x2 x3 i) (a, b, ok) ∧ Ev (fun k => yard_Follow.l1 k s i x0 x1 x2 x3) (if ok then (a, b, 0) else (0, 0, 5))
  | 0, s, i, x0, x1, x2, x3, hs, hi => by
    by_cases c : wrap64 (x1 + x3) > 1000000
    · refine ⟨0, 0, false, ⟨2, fun k hk => ?_⟩, ⟨1, fun k hk => ?_⟩⟩
      · obtain ⟨j, rfl⟩ : ∃ j, k = j + 2 := ⟨k - 2, by omega⟩
        simp only [galloonref03_Follow.l0, galloonref03_Follow.j1]
        rw [if_neg (by omega), if_neg (by decide), if_pos c]
      · obtain ⟨j, rfl⟩ : ∃ j, k = j + 1 := ⟨k - 1, by omega⟩
        simp only [yard_Follow.l1]
        rw [if_neg (by omega), if_pos c]
        rfl
    · refine ⟨wrap64 (x0 + x2), wrap64 (x1 + x3), true, ⟨2, fun k hk => ?_⟩, ⟨1, fun k hk => ?_⟩⟩
      · obtain ⟨j, rfl⟩ : ∃ j, k = j + 2 := ⟨k - 2, by omega⟩
        simp only [galloonref03_Follow.l0, galloonref03_Follow.j1]
        rw [if_neg (by omega), if_neg (by decide), if_neg c]
      · obtain ⟨j, rfl⟩ : ∃ j, k = j + 1 := ⟨k - 1, by omega⟩
        simp only [yard_Follow.l1]
        rw [if_neg (by omega), if_neg c]
        rfl
  | n + 1, s, i, x0, x1, x2, x3, hs, hi => by
    by_cases c : wrap64 (x1 + x3) > 1000000
    · refine ⟨0, 0, false, ⟨2, fun k hk => ?_⟩, ⟨1, fun k hk => ?_⟩⟩
      · obtain ⟨j, rfl⟩ : ∃ j, k = j + 2 := ⟨k - 2, by omega⟩
        simp only [galloonref03_Follow.l0, galloonref03_Follow.j1]
        rw [if_pos (by omega), if_neg (by simp; omega), if_pos c]
      · obtain ⟨j, rfl⟩ : ∃ j, k = j + 1 := ⟨k - 1, by omega⟩
        simp only [yard_Follow.l1]
        rw [if_pos (by omega), if_pos c]
        rfl
    · have hi1 : wrap64 ((i : Int) + 1) = ((i + 1 : Nat) : Int) := by rw [w64 (by omega)]; rfl
      by_cases c2 : bt s i = 76
      · obtain ⟨a, b, ok, h1, h2⟩ := follow_both n s (i + 1) x0 x1 (wrap64 (x0 + x2)) (wrap64 (x1 + x3)) hs (by omega)
        refine ⟨a, b, ok, Ev.step (f := fun k => galloonref03_Follow.j1 k s x0 x1 x2 x3 i (decide ((wrap64 (x1 + x3)) ≤ 1000000))) (fun k => ?_) (Ev.step (fun k => ?_) h1), Ev.step (fun k => ?_) h2⟩
        · show galloonref03_Follow.l0 (k + 1) _ _ _ _ _ _ = _
          simp only [galloonref03_Follow.l0]
          rw [if_pos (by omega)]
        · show galloonref03_Follow.j1 (k + 1) _ _ _ _ _ _ _ = _
          simp only [galloonref03_Follow.j1]
          rw [if_pos (by simp; omega), if_pos (by omega), if_pos (by omega), if_pos c2, hi1]
        · show yard_Follow.l1 (k + 1) _ _ _ _ _ _ = _
          simp only [yard_Follow.l1]
          rw [if_pos (by omega), if_neg c, if_pos c2]
          rfl
      · obtain ⟨a, b, ok, h1, h2⟩ := follow_both n s (i + 1) (wrap64 (x0 + x2)) (wrap64 (x1 + x3)) x2 x3 hs (by omega)
        refine ⟨a, b, ok, Ev.step (f := fun k => galloonref03_Follow.j1 k s x0 x1 x2 x3 i (decide ((wrap64 (x1 + x3)) ≤ 1000000))) (fun k => ?_) (Ev.step (fun k => ?_) h1), Ev.step (fun k => ?_) h2⟩
        · show galloonref03_Follow.l0 (k + 1) _ _ _ _ _ _ = _
          simp only [galloonref03_Follow.l0]
          rw [if_pos (by omega)]
        · show galloonref03_Follow.j1 (k + 1) _ _ _ _ _ _ _ = _
          simp only [galloonref03_Follow.j1]
          rw [if_pos (by simp; omega), if_pos (by omega), if_pos (by omega), if_neg c2, hi1]
        · show yard_Follow.l1 (k + 1) _ _ _ _ _ _ = _
          simp only [yard_Follow.l1]
          rw [if_pos (by omega), if_neg c, if_neg c2]
          rfl
/-- The two looks for what is no turn. -/
theorem way_both : ∀ (n : Nat) (s : ByteArray) (i : Nat), s.size ≤ 1000 → s.size = i + n →
    ∃ ok, Ev (fun k => galloonref03_Way.l0 k s i) (ok && decide ((s.size : Int) ≤ 200)) ∧ ∀ r, Ev (fun k => yard_Follow.l1 k s 0 0 1 1 1) r → Ev (fun k => yard_Follow.l0 k s i) (if ok then r else (0, 0, 2))
  | 0, s, i, hs, hi => by
    refine ⟨true, ⟨1, fun k hk => ?_⟩, fun r hr => Ev.step (fun k => ?_) hr⟩
    · obtain ⟨j, rfl⟩ : ∃ j, k = j + 1 := ⟨k - 1, by omega⟩
      simp only [galloonref03_Way.l0]
      rw [if_neg (by omega), Bool.true_and]
    · show yard_Follow.l0 (k + 1) _ _ = _
      simp only [yard_Follow.l0]
      rw [if_neg (by omega)]
  | n + 1, s, i, hs, hi => by
    have hi1 : wrap64 ((i : Int) + 1) = ((i + 1 : Nat) : Int) := by rw [w64 (by omega)]; rfl
    by_cases c : isTurn (bt s i) = true
    · obtain ⟨ok, h1, h2⟩ := way_both n s (i + 1) hs (by omega)
      refine ⟨ok, Ev.step (fun k => ?_) h1, fun r hr => Ev.step (fun k => ?_) (h2 r hr)⟩
      · show galloonref03_Way.l0 (k + 1) _ _ = _
        simp only [galloonref03_Way.l0]
        rw [if_pos (by omega), if_pos (by omega), hi1]
        simp [isTurn] at c
        rcases c with c | c
        · rw [if_pos c]
        · rw [if_neg (by omega), if_pos c]
      · show yard_Follow.l0 (k + 1) _ _ = _
        simp only [yard_Follow.l0]
        rw [if_pos (by omega), if_pos c]
        rfl
    · refine ⟨false, ⟨1, fun k hk => ?_⟩, fun r hr => ⟨1, fun k hk => ?_⟩⟩
      · obtain ⟨j, rfl⟩ : ∃ j, k = j + 1 := ⟨k - 1, by omega⟩
        simp only [galloonref03_Way.l0]
        simp [isTurn] at c
        rw [if_pos (by omega), if_pos (by omega), if_neg c.1, if_neg c.2, Bool.false_and]
      · obtain ⟨j, rfl⟩ : ∃ j, k = j + 1 := ⟨k - 1, by omega⟩
        simp only [yard_Follow.l0]
        rw [if_pos (by omega), if_neg c]
        rfl
theorem YardFollows : galloonlaw03_YardFollows.Pure := by
  intro a0 _
  refine Ev.rounds (?_ : Ev (fun k => galloonlaw03_YardFollows.f k a0) true)
  have hm0 : 0 ≤ mn (a0.size : Int) 210 := by unfold mn; split <;> omega
  have hm1 : mn (a0.size : Int) 210 ≤ a0.size := by unfold mn; split <;> omega
  have hm2 : mn (a0.size : Int) 210 ≤ 210 := by unfold mn; split <;> omega
  refine Ev.ite_true hm0 (Ev.ite_true hm1 ?_)
  obtain ⟨s, hse⟩ : ∃ s, s = a0.extract 0 (mn (a0.size : Int) 210).toNat := ⟨_, rfl⟩
  rw [← hse]
  have hsz : s.size ≤ 1000 := by rw [hse]; simp [ByteArray.size_extract]; omega
  obtain ⟨ok, hw, hy⟩ := way_both s.size s 0 hsz (by omega)
  obtain ⟨a, b, fit, hf, hl⟩ := follow_both s.size s 0 0 1 1 1 hsz (by omega)
  have hy := hy _ hl
  by_cases h200 : (s.size : Int) > 200
  · have hYf : Ev (fun k => yard_Follow.f k s) (0, 0, 2) := by
      simp only [yard_Follow.f]
      exact Ev.ite_true h200 (Ev.now _)
    refine Ev.bind hYf (Ev.bind hw ?_)
    simpa [show ¬ ((s.size : Int) ≤ 200) by omega] using follows_awake
  · have hYf : Ev (fun k => yard_Follow.f k s) (if ok then (if fit then (a, b, 0) else (0, 0, 5)) else (0, 0, 2)) := by
      simp only [yard_Follow.f]
      exact Ev.ite_false h200 hy
    refine Ev.bind hYf (Ev.bind hw ?_)
    cases ok with
    | false => simpa using follows_awake
    | true =>
      refine Ev.ite_true (by simp; omega) (Ev.bind hf ?_)
      cases fit with
      | false => simpa using follows_awake
      | true => simpa using follows_awake

end Go.Proofs.Ythjodhmkmjabbaa.Pure
