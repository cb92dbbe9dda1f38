import Derived.Test.YthjodhmkmjabbaaPYx15
import Derived.Test.YthjodhmkmjabbaaB2
namespace Go.Proofs.Ythjodhmkmjabbaa.Pure
open Go.RowKit Go.Proofs.Ythjodhmkmjabbaa.PY Go.Proofs.YthjodhmkmjabbaaW.PrintWords Go.Proofs.YthjodhmkmjabbaaW.PrintLast

theorem between_awake : Ev (fun k => (galloonlaw03_awake.f k).bind fun t => some t) true := Ev.bind awake_ev (Ev.now _)
theorem neighbors_ev (a b c d : Int) : Ev (fun k => yard_Neighbors.f k a b c d) (if okF a b && okF c d then ((wrap64 ((wrap64 (c * b)) - (wrap64 (a * d)))) == 1, 0) else (false, 2)) := by
  refine Ev.bind (isFrac_ev a b) ?_
  cases okF a b with
  | false => exact Ev.now _
  | true =>
    refine Ev.ite_true rfl (Ev.bind (isFrac_ev c d) ?_)
    cases okF c d with
    | false => exact Ev.now _
    | true => exact Ev.now _
theorem YardBetweens : galloonlaw03_YardBetweens.Pure := by
  intro a b c d _ _ _ _
  refine Ev.rounds (?_ : Ev (fun k => galloonlaw03_YardBetweens.f k a b c d) true)
  have hv := valid_ev a b
  have hv' := valid_ev c d
  have hn := neighbors_ev a b c d
  cases h : okF a b with
  | false =>
    rw [h] at hv hn
    refine Ev.bind (between_no (.inl h)) (Ev.bind hn (Ev.bind hv ?_))
    refine Ev.ite_false (by simp) (Ev.step (f := fun k => (galloonlaw03_awake.f k).bind fun t => some t) (fun k => ?_) between_awake)
    simp [galloonlaw03_YardBetweens.j0]
  | true =>
    rw [h] at hv hn
    cases h' : okF c d with
    | false =>
      rw [h'] at hv' hn
      refine Ev.bind (between_no (.inr (.inl h'))) (Ev.bind hn (Ev.bind hv (Ev.ite_true rfl (Ev.bind hv' ?_))))
      refine Ev.step (f := fun k => (galloonlaw03_awake.f k).bind fun t => some t) (fun k => ?_) between_awake
      simp [galloonlaw03_YardBetweens.j0]
    | true =>
      rw [h'] at hv' hn
      obtain ⟨w1, w2⟩ := less_ok h h'
      by_cases hlt : a * d < c * b
      · obtain ⟨p, q, hs, hr, hy⟩ := between_ok h h' hlt
        refine Ev.bind hy (Ev.bind hn (Ev.bind hv (Ev.ite_true rfl (Ev.bind hv' ?_))))
        refine Ev.step (f := fun k => galloonlaw03_YardBetweens.j1 k (if q ≤ 1000000 then (p, q, 0) else ((0:Int), (0:Int), (6:Int))).2.2 false a b c d (if q ≤ 1000000 then (p, q, 0) else ((0:Int), (0:Int), (6:Int))).1 (if q ≤ 1000000 then (p, q, 0) else ((0:Int), (0:Int), (6:Int))).2.1) (fun k => ?_) ?_
        · simp [galloonlaw03_YardBetweens.j0, galloonref03_Neighbors.f]
        · refine Ev.step (f := fun k => (galloonref03_Between.f k a b c d).bind fun bt270 => (if bt270.2 > 1000000 then (if ((if q ≤ 1000000 then (p, q, 0) else ((0:Int), (0:Int), (6:Int))).1 == 0 && ((if q ≤ 1000000 then (p, q, 0) else ((0:Int), (0:Int), (6:Int))).2.1 == 0)) = true then (if (if q ≤ 1000000 then (p, q, 0) else ((0:Int), (0:Int), (6:Int))).2.2 = 6 then ((galloonlaw03_awake.f k).bind fun t272 => (some t272)) else (some false)) else (some false)) else (if ((if q ≤ 1000000 then (p, q, 0) else ((0:Int), (0:Int), (6:Int))).1 == bt270.1 && ((if q ≤ 1000000 then (p, q, 0) else ((0:Int), (0:Int), (6:Int))).2.1 == bt270.2)) = true then (if (if q ≤ 1000000 then (p, q, 0) else ((0:Int), (0:Int), (6:Int))).2.2 = 0 then ((galloonlaw03_awake.f k).bind fun t273 => (some t273)) else (some false)) else (some false)))) (fun k => ?_) (Ev.bind hr ?_)
          · simp [galloonlaw03_YardBetweens.j1, galloonref03_Less.f, w1, w2, hlt]
          · by_cases hq : q ≤ 1000000
            · simpa [hq, show ¬ 1000000 < q by omega] using between_awake
            · simpa [hq, show 1000000 < q by omega] using between_awake
      · refine Ev.bind (between_no (.inr (.inr hlt))) (Ev.bind hn (Ev.bind hv (Ev.ite_true rfl (Ev.bind hv' ?_))))
        refine Ev.step (f := fun k => galloonlaw03_YardBetweens.j1 k 2 false a b c d 0 0) (fun k => ?_) ?_
        · simp [galloonlaw03_YardBetweens.j0, galloonref03_Neighbors.f]
        · refine Ev.step (f := fun k => (galloonlaw03_awake.f k).bind fun t => some t) (fun k => ?_) between_awake
          simp [galloonlaw03_YardBetweens.j1, galloonref03_Less.f, w1, w2, hlt]

end Go.Proofs.Ythjodhmkmjabbaa.Pure
