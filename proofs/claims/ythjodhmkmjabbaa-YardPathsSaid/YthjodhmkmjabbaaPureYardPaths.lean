import Derived.Test.YthjodhmkmjabbaaPYx9
import Derived.Test.YthjodhmkmjabbaaB1
namespace Go.Proofs.Ythjodhmkmjabbaa.Pure
open Go.RowKit Go.Proofs.Ythjodhmkmjabbaa.PY Go.Proofs.YthjodhmkmjabbaaW.PrintWords Go.Proofs.YthjodhmkmjabbaaW.PrintLast

theorem bind_awake : Ev (fun k => (galloonlaw03_awake.f k).bind fun t => some t) true := Ev.bind awake_ev (Ev.now _)
theorem empty_toList : (⟨#[]⟩ : ByteArray).toList = ([] : List UInt8) := by decide +kernel
/-- The path's own part, behind the others. -/
theorem paths_j1 {a b : Int} (h : okF a b = true) : ∃ (s : ByteArray) (e : Int), Ev (fun k => yard_Path.f k a b) (s, e) ∧ Ev (fun k => galloonlaw03_YardPaths.j1 k s e a b) true := by
  have h0 := isFrac_ev a b
  rw [h] at h0
  by_cases hb : b = 1
  · refine ⟨⟨#[]⟩, 2, Ev.bind h0 (Ev.ite_true rfl (Ev.ite_true hb (Ev.now _))), ?_⟩
    refine Ev.step (f := fun k => (galloonlaw03_awake.f k).bind fun t => some t) (fun k => ?_) bind_awake
    simp only [galloonlaw03_YardPaths.j1]
    rw [if_pos hb, if_pos empty_toList, if_pos trivial]
  · obtain ⟨s, ok, h1, h2, h3⟩ := path_both a b
    refine ⟨s, if ok then 0 else 5, Ev.bind h0 (Ev.ite_true rfl (Ev.ite_false hb h2)), ?_⟩
    refine Ev.step (f := fun k => (galloonref03_Path.f k a b).bind fun bt189 => (if bt189.2 = true then (if s.toList = bt189.1.toList then (if (if ok then (0:Int) else 5) = 0 then ((galloonlaw03_awake.f k).bind fun t191 => (some t191)) else (some false)) else (some false)) else (if s.toList = ([] : List UInt8) then (if (if ok then (0:Int) else 5) = 5 then ((galloonlaw03_awake.f k).bind fun t192 => (some t192)) else (some false)) else (some false)))) (fun k => ?_) (Ev.bind h1 ?_)
    · simp only [galloonlaw03_YardPaths.j1]
      rw [if_neg hb]
    · cases ok with
      | true => simpa using bind_awake
      | false =>
        have := h3 rfl
        subst this
        simpa [empty_toList] using bind_awake
theorem YardPaths : galloonlaw03_YardPaths.Pure := by
  intro a b _ _
  refine Ev.rounds (?_ : Ev (fun k => galloonlaw03_YardPaths.f k a b) true)
  cases h : okF a b with
  | false =>
    have h0 := isFrac_ev a b
    have hv := valid_ev a b
    rw [h] at h0 hv
    refine Ev.bind (a := ((⟨#[]⟩ : ByteArray), (2 : Int))) (Ev.bind h0 (Ev.now _)) (Ev.bind (yardQuots_no h) (Ev.bind (saw_no (.inl h)) (Ev.bind hv ?_)))
    simpa [empty_toList] using bind_awake
  | true =>
    have hv := valid_ev a b
    rw [h] at hv
    obtain ⟨h1, h2, h3, h4, _⟩ := okF_iff.1 h
    obtain ⟨s, e, hp, hj⟩ := paths_j1 h
    have hql := quots_len a.toNat b.toNat
    have hi := ints_ev (l := quots b.toNat a.toNat) (by omega)
    by_cases hb : b ≤ 1000
    · obtain ⟨n, d, hr, hy⟩ := saw_both h hb
      refine Ev.bind hp (Ev.bind (yardQuots_ok h) (Ev.bind hy (Ev.bind hv (Ev.ite_true rfl (Ev.bind (refQuots_ev h) (Ev.bind hi (Ev.ite_true rfl ?_)))))))
      refine Ev.step (f := fun k => (galloonref03_Saw.f k a b).bind fun bt186 => (if n = bt186.1 then (if d = bt186.2 then (if (0:Int) = 0 then (galloonlaw03_YardPaths.j1 k s e a b) else (some false)) else (some false)) else (some false))) (fun k => ?_) (Ev.bind hr (Ev.ite_true rfl (Ev.ite_true rfl (Ev.ite_true rfl hj))))
      simp only [galloonlaw03_YardPaths.j0]
      rw [if_neg (by decide), if_neg (by omega)]
    · refine Ev.bind hp (Ev.bind (yardQuots_ok h) (Ev.bind (saw_no (.inr (by omega))) (Ev.bind hv (Ev.ite_true rfl (Ev.bind (refQuots_ev h) (Ev.bind hi (Ev.ite_true rfl ?_)))))))
      refine Ev.step (f := fun k => galloonlaw03_YardPaths.j1 k s e a b) (fun k => ?_) hj
      simp only [galloonlaw03_YardPaths.j0]
      rw [if_neg (by decide), if_pos (by omega), if_pos trivial, if_pos trivial, if_pos trivial]

end Go.Proofs.Ythjodhmkmjabbaa.Pure
