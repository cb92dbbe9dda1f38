import Derived.Test.YthjodhmkmjabbaaPYx31
import Derived.Test.YthjodhmkmjabbaaB1
namespace Go.Proofs.Ythjodhmkmjabbaa.Pure
open Go.RowKit Go.Proofs.Ythjodhmkmjabbaa.PY Go.Proofs.YthjodhmkmjabbaaW.PrintWords Go.Proofs.YthjodhmkmjabbaaW.PrintLast

theorem folds_awake : Ev (fun k => (galloonlaw03_awake.f k).bind fun t => some t) true := Ev.bind awake_ev (Ev.now _)
/-- The two folds. -/
theorem fold_both : ∀ (n : Nat) (l : List Int) (i x0 x1 : Int), l.length ≤ 1000 → i + 1 = n → n ≤ l.length →
    ∃ a b ok, Ev (fun k => galloonref03_Fold.l0 k l i x0 x1) (a, b, ok) ∧ Ev (fun k => yard_Fold.l0 k l i x0 x1) (if ok then (a, b, 0) else (0, 0, 5))
  | 0, l, i, x0, x1, hl, hi, hn => by
    refine ⟨x0, x1, true, ⟨1, fun k hk => ?_⟩, ⟨1, fun k hk => ?_⟩⟩
    · obtain ⟨j, rfl⟩ : ∃ j, k = j + 1 := ⟨k - 1, by omega⟩
      simp only [galloonref03_Fold.l0]
      rw [if_neg (by omega)]
    · obtain ⟨j, rfl⟩ : ∃ j, k = j + 1 := ⟨k - 1, by omega⟩
      simp only [yard_Fold.l0]
      rw [if_pos (by omega)]
      rfl
  | n + 1, l, i, x0, x1, hl, hi, hn => by
    by_cases c : wrap64 (wrap64 (rd l i * x1) + x0) > 1000000
    · refine ⟨0, 0, false, ⟨1, fun k hk => ?_⟩, ⟨1, fun k hk => ?_⟩⟩
      · obtain ⟨j, rfl⟩ : ∃ j, k = j + 1 := ⟨k - 1, by omega⟩
        simp only [galloonref03_Fold.l0]
        rw [if_pos (by omega), if_pos (by omega), if_pos (by omega), if_pos c]
      · obtain ⟨j, rfl⟩ : ∃ j, k = j + 1 := ⟨k - 1, by omega⟩
        simp only [yard_Fold.l0]
        rw [if_neg (by omega), if_pos c]
        rfl
    · obtain ⟨a, b, ok, h1, h2⟩ := fold_both n l (i - 1) x1 (wrap64 (wrap64 (rd l i * x1) + x0)) hl (by omega) (by omega)
      refine ⟨a, b, ok, Ev.step (fun k => ?_) h1, Ev.step (fun k => ?_) h2⟩
      · show galloonref03_Fold.l0 (k + 1) _ _ _ _ = _
        simp only [galloonref03_Fold.l0]
        rw [if_pos (by omega), if_pos (by omega), if_pos (by omega), if_neg c, w64 (n := i - 1) (by omega)]
      · show yard_Fold.l0 (k + 1) _ _ _ _ = _
        simp only [yard_Fold.l0]
        rw [if_neg (by omega), if_neg c]
/-- The reference's look at the list. -/
theorem listed_ev : ∀ (n : Nat) (l : List Int) (i : Nat), l.length ≤ 1000 → l.length = i + n →
    Ev (fun k => galloonref03_Listed.l0 k l i) (!(l.drop i).any badQ && decide ((l.length : Int) ≤ 40) && (decide ((l.length : Int) < 2) || decide (rd l ((l.length : Int) - 1) > 1)))
  | 0, l, i, hl, hi => by
    refine ⟨1, fun k hk => ?_⟩
    obtain ⟨j, rfl⟩ : ∃ j, k = j + 1 := ⟨k - 1, by omega⟩
    simp only [galloonref03_Listed.l0]
    rw [if_neg (by omega), List.drop_eq_nil_of_le (by omega)]
    by_cases h40 : (l.length : Int) ≤ 40
    · rw [if_pos h40]
      by_cases h2 : (l.length : Int) < 2
      · rw [if_pos h2]; simp [h40, h2]
      · rw [if_neg h2, w64 (by omega), if_pos (by omega), if_pos (by omega)]; simp [h40, h2]
    · rw [if_neg h40]; simp [h40]
  | n + 1, l, i, hl, hi => by
    have hi1 : wrap64 ((i : Int) + 1) = ((i + 1 : Nat) : Int) := by rw [w64 (by omega)]; rfl
    have hd : l.drop i = rd l i :: l.drop (i + 1) := by
      rw [List.drop_eq_getElem_cons (by omega)]
      congr 1
      simp [rd, List.getD_eq_getElem?_getD, List.getElem?_eq_getElem (show i < l.length by omega)]
    by_cases c : badQ (rd l i) = true
    · refine ⟨1, fun k hk => ?_⟩
      obtain ⟨j, rfl⟩ : ∃ j, k = j + 1 := ⟨k - 1, by omega⟩
      simp only [galloonref03_Listed.l0]
      rw [if_pos (by omega), if_pos (by omega), hd]
      have c' := c
      simp [badQ] at c'
      by_cases c1 : rd l i < 1
      · rw [if_pos c1]; simp [c]
      · rw [if_neg c1, if_pos (by omega)]; simp [c]
    · refine Ev.to (Ev.step (fun k => ?_) (listed_ev n l (i + 1) hl (by omega))) ?_
      · show galloonref03_Listed.l0 (k + 1) _ _ = _
        simp only [galloonref03_Listed.l0]
        simp [badQ] at c
        rw [if_pos (by omega), if_pos (by omega), if_neg (by omega), if_neg (by omega), hi1]
      · rw [hd]; simp [c]
theorem YardFolds : galloonlaw03_YardFolds.Pure := by
  intro l0 _ _ _
  refine Ev.rounds (?_ : Ev (fun k => galloonlaw03_YardFolds.f k l0) true)
  have hm0 : 0 ≤ mn (l0.length : Int) 45 := by unfold mn; split <;> omega
  have hm1 : mn (l0.length : Int) 45 ≤ l0.length := by unfold mn; split <;> omega
  have hm2 : mn (l0.length : Int) 45 ≤ 45 := by unfold mn; split <;> omega
  obtain ⟨l, hle⟩ : ∃ l, l = ([] : List Int) ++ l0.take (mn (l0.length : Int) 45).toNat := ⟨_, rfl⟩
  have hsz : l.length ≤ 45 := by rw [hle]; simp [List.length_take]; omega
  refine Ev.ite_true hm0 (Ev.ite_true hm1 (Ev.ite_true (by rw [← hle] at *; simp [List.length_take]; omega) ?_))
  simp only [← hle, Option.bind_some]
  have hL := listed_ev l.length l 0 (by omega) (by omega)
  obtain ⟨a, b, fit, hf, hl⟩ := fold_both l.length l ((l.length : Int) - 1) 0 1 (by omega) (by omega) (Nat.le_refl _)
  obtain ⟨good, hge⟩ : ∃ g : Bool, g = (!(l.drop 0).any badQ && decide ((l.length : Int) ≤ 40) && (decide ((l.length : Int) < 2) || decide (rd l ((l.length : Int) - 1) > 1))) := ⟨_, rfl⟩
  have hY : Ev (fun k => yard_Fold.f k l) (if good then (if fit then (a, b, 0) else (0, 0, 5)) else (0, 0, 2)) := by
    simp only [yard_Fold.f]
    rw [List.drop_zero] at hge
    by_cases h40 : (l.length : Int) > 40
    · refine Ev.to (Ev.ite_true h40 (Ev.now _)) ?_
      rw [hge]; simp [show ¬ ((l.length : Int) ≤ 40) by omega]
    · refine Ev.ite_false h40 ?_
      by_cases h1 : (l.length : Int) > 1
      · refine Ev.ite_true h1 ?_
        have hlast : rd l ((l.length : Int) - 1) < 1 → l.any badQ = true := by
          intro h
          rw [List.any_eq_true]
          refine ⟨rd l ((l.length : Int) - 1), ?_, by simp [badQ]; omega⟩
          have hi : ((l.length : Int) - 1).toNat < l.length := by omega
          have : rd l ((l.length : Int) - 1) = l[((l.length : Int) - 1).toNat]'hi := by
            simp only [rd, List.getD_eq_getElem?_getD]
            rw [List.getElem?_eq_getElem hi]; rfl
          rw [this]
          exact List.getElem_mem _
        by_cases hr : rd l ((l.length : Int) - 1) = 1
        · refine Ev.to (Ev.ite_true hr (Ev.now _)) ?_
          rw [hge]; simp [hr, show ¬ ((l.length : Int) < 2) by omega]
        · refine Ev.ite_false hr ?_
          by_cases hb : l.any badQ = true
          · refine Ev.to (Ev.ite_true hb (Ev.now _)) ?_
            rw [hge]; simp [hb]
          · refine Ev.to (Ev.ite_false hb hl) ?_
            have : good = true := by
              rw [hge]
              have : ¬ rd l ((l.length : Int) - 1) < 1 := fun h => hb (hlast h)
              simp [hb]; omega
            rw [this]; rfl
      · refine Ev.ite_false h1 ?_
        by_cases hb : l.any badQ = true
        · refine Ev.to (Ev.ite_true hb (Ev.now _)) ?_
          rw [hge]; simp [hb]
        · refine Ev.to (Ev.ite_false hb hl) ?_
          have : good = true := by
            rw [hge]
            simp [hb]; omega
          rw [this]; rfl
  refine Ev.bind hY (Ev.bind hL ?_)
  rw [← hge]
  cases good with
  | false => simpa using folds_awake
  | true =>
    have hf' : Ev (fun k => galloonref03_Fold.f k l) (a, b, fit) := by
      simp only [galloonref03_Fold.f]
      rw [w64 (by omega)]; exact hf
    refine Ev.ite_true rfl (Ev.bind hf' ?_)
    cases fit with
    | false => simpa using folds_awake
    | true => simpa using folds_awake

end Go.Proofs.Ythjodhmkmjabbaa.Pure
