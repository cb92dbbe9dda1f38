import Derived.Test.YthjodhmkmjabbaaPYx32
import Derived.Test.YthjodhmkmjabbaaB3
import Derived.Test.YthjodhmkmjabbaaB8
namespace Go.Proofs.Ythjodhmkmjabbaa.Pure
open Go.RowKit Go.Proofs.Ythjodhmkmjabbaa.PY Go.Proofs.YthjodhmkmjabbaaW.PrintWords Go.Proofs.YthjodhmkmjabbaaW.PrintLast

theorem there_awake : Ev (fun k => (galloonlaw03_awake.f k).bind fun t => some t) true := Ev.bind awake_ev (Ev.now _)
theorem okF_rest {a b : Int} (h : okF a b = true) : okF (b - a) b = true := by
  obtain ⟨h1, h2, h3, h4, h5⟩ := okF_iff.1 h
  refine okF_iff.2 ⟨h1, h2, by omega, by omega, ?_⟩
  obtain ⟨a, rfl⟩ := Int.eq_ofNat_of_zero_le h3
  obtain ⟨b, rfl⟩ := Int.eq_ofNat_of_zero_le (show 0 ≤ b by omega)
  have hg : Nat.gcd a b = 1 := h5
  have := cop_sub hg (by omega)
  have e : (b : Int) - a = ((b - a : Nat) : Int) := by omega
  rw [e]
  show Nat.gcd (b - a) b = 1
  have h6 : Nat.gcd (b - a) b = Nat.gcd (b - a) a := by
    conv => lhs; rw [show b = (b - a) + a by omega]
    rw [show b - a + a - a = b - a by omega]
    rw [Nat.gcd_comm]
    rw [Nat.gcd_comm (b - a) a]
    simp
  rw [h6, Nat.gcd_comm]
  exact this
/-- Byte for byte the two paths differ. -/
theorem there_l1 {xs ys : List Int} (hx : ∀ c ∈ xs, c = 76 ∨ c = 82) (hy : ys = xs.map (fun c => 158 - c)) (hl : xs.length ≤ 1000) : ∀ (n i : Nat), xs.length = i + n → Ev (fun k => galloonlaw03_YardThere.l1 k (strOfNums xs) (strOfNums ys) i) true
  | 0, i, hi => by
    refine Ev.step (fun k => ?_) there_awake
    show galloonlaw03_YardThere.l1 (k + 1) _ _ _ = _
    simp only [galloonlaw03_YardThere.l1]
    rw [if_neg (by rw [strOfNums_size]; omega)]
  | n + 1, i, hi => by
    refine Ev.step (fun k => ?_) (there_l1 hx hy hl n (i + 1) (by omega))
    show galloonlaw03_YardThere.l1 (k + 1) _ _ _ = _
    have hil : i < xs.length := by omega
    have hyl : ys.length = xs.length := by rw [hy, List.length_map]
    have hyt : ∀ c ∈ ys, c = 76 ∨ c = 82 := by
      rw [hy]
      intro c hc
      obtain ⟨d, hd, rfl⟩ := List.mem_map.1 hc
      rcases hx d hd with rfl | rfl
      · exact .inr rfl
      · exact .inl rfl
    have e1 : bt (strOfNums xs) i = xs[i] := by
      rw [bt_str (turn_byte hx), List.getD_eq_getElem?_getD, List.getElem?_eq_getElem hil]; rfl
    have e2 : bt (strOfNums ys) i = 158 - xs[i] := by
      rw [bt_str (turn_byte hyt), List.getD_eq_getElem?_getD, hy, List.getElem?_map, List.getElem?_eq_getElem hil]; rfl
    have e3 := hx xs[i] (List.getElem_mem hil)
    simp only [galloonlaw03_YardThere.l1]
    rw [if_pos (by rw [strOfNums_size]; omega), if_pos (by omega), if_pos (by rw [strOfNums_size]; omega), if_neg (by omega), w64 (by omega)]
    rfl
theorem sum_range {l : List Int} (h : ∀ c ∈ l, 1 ≤ c ∧ c ≤ 1000000) : 0 ≤ l.sum ∧ l.sum ≤ 1000000 * l.length := by
  induction l with
  | nil => simp
  | cons x l ih =>
    have h1 := ih (fun c hc => h c (List.mem_cons_of_mem _ hc))
    have h2 := h x List.mem_cons_self
    simp only [List.sum_cons, List.length_cons]
    omega
theorem there_l0 {l : List Int} {a b : Int} (hr : ∀ c ∈ l, 1 ≤ c ∧ c ≤ 1000000) (hl : l.length ≤ 40)
    (hend : Ev (fun k => (yard_Path.f k a b).bind fun bt505 => ((galloonlaw03_rest.f a b).bind fun bt507 => ((yard_Path.f k bt507.1 bt507.2).bind fun bt509 => (if bt505.2 = bt509.2 then (if bt505.2 = 0 then ((yard_Follow.f k bt505.1).bind fun bt512 => (if (bt505.1.size : Int) = (wrap64 (l.sum - 2)) then (if (bt509.1.size : Int) = (bt505.1.size : Int) then (if bt512.2.2 = 0 then (galloonlaw03_YardThere.j2 k bt505.1 bt509.1 (!(bt512.1 == a) || (!(bt512.2.1 == b)))) else (galloonlaw03_YardThere.j2 k bt505.1 bt509.1 true)) else (galloonlaw03_YardThere.j2 k bt505.1 bt509.1 true)) else (galloonlaw03_YardThere.j2 k bt505.1 bt509.1 true))) else (if bt505.2 = 5 then (if (wrap64 (l.sum - 2)) > 200 then ((galloonlaw03_awake.f k).bind fun t511 => (some t511)) else (some false)) else (some false))) else (some false))))) true) :
    ∀ (n i : Nat), l.length = i + n → Ev (fun k => galloonlaw03_YardThere.l0 k l (l.take i).sum i a b) true
  | 0, i, hi => by
    refine Ev.step (fun k => ?_) hend
    show galloonlaw03_YardThere.l0 (k + 1) _ _ _ _ _ = _
    simp only [galloonlaw03_YardThere.l0]
    rw [if_neg (by omega), List.take_of_length_le (by omega)]
  | n + 1, i, hi => by
    refine Ev.step (fun k => ?_) (there_l0 hr hl hend n (i + 1) (by omega))
    show galloonlaw03_YardThere.l0 (k + 1) _ _ _ _ _ = _
    have hil : i < l.length := by omega
    have e1 : rd l i = l[i] := by simp [rd, List.getD_eq_getElem?_getD, List.getElem?_eq_getElem hil]
    have e2 := hr l[i] (List.getElem_mem hil)
    have e3 := sum_range (l := l.take i) (fun c hc => hr c (List.mem_of_mem_take hc))
    have e4 : (l.take (i + 1)).sum = (l.take i).sum + l[i] := by
      rw [List.take_succ_eq_append_getElem hil, List.sum_append_int]
      simp
    have e5 : (l.take i).length ≤ 40 := by rw [List.length_take]; omega
    simp only [galloonlaw03_YardThere.l0]
    rw [if_pos (by omega), if_pos (by omega), e1, if_neg (by omega), if_neg (by omega), w64 (n := (l.take i).sum + l[i]) (by omega), w64 (n := (i : Int) + 1) (by omega), e4]
    rfl
theorem YardThere : galloonlaw03_YardThere.Pure := by
  intro a0 b0 _ _
  refine Ev.rounds (?_ : Ev (fun k => galloonlaw03_YardThere.f k a0 b0) true)
  obtain ⟨a, b, ht, h, _⟩ := tame_ev a0 b0 1000000 (by omega) (by omega)
  obtain ⟨h1, h2, h3, h4, h5⟩ := okF_iff.1 h
  refine Ev.bind ht (Ev.bind (yardQuots_ok h) (Ev.bind (Fold_quots h) (Ev.ite_true rfl (Ev.ite_true rfl ?_))))
  have hlen := quots_short 20 b.toNat a.toNat (by omega)
  have hrange := quots_range a.toNat b.toNat (by omega) (by omega)
  by_cases hb : b = 1
  · refine Ev.step (f := fun k => (galloonlaw03_awake.f k).bind fun t => some t) (fun k => ?_) there_awake
    simp only [galloonlaw03_YardThere.j0]
    rw [if_neg (by simp), if_pos hb]
  · have hs := seen_start h hb
    have hu1 := hs.u1
    have hv1 := hs.v1
    obtain ⟨u, hu⟩ : ∃ u, u = a.toNat := ⟨_, rfl⟩
    obtain ⟨v, hv⟩ : ∃ v, v = (b - a).toNat := ⟨_, rfl⟩
    have hP := Path_ev h hb
    have hP' := Path_ev (okF_rest h) hb
    have hF := Follow_path h hb
    rw [show b - (b - a) = a by omega] at hP'
    rw [← hu, ← hv] at hP hP' hF hs
    rw [← hu] at hu1
    rw [← hv] at hv1
    have hbt : b.toNat = v + u := by omega
    have hsum : (quots b.toNat a.toNat).sum = ((pathL u v).length : Int) + 2 := by
      have h6 := pathL_len (u + v) u v (Nat.le_refl _) (by omega) (by omega) hs.cop
      have h7 := qsum_sub (x := v + u) (y := u) (by omega) (by omega)
      rw [show v + u - u = v by omega, qsum_comm v u] at h7
      rw [hbt, ← hu]
      omega
    have hmir := pathL_mirror (u + v) u v (Nat.le_refl _)
    have hml : (pathL v u).length = (pathL u v).length := by rw [hmir, List.length_map]
    refine Ev.step (f := fun k => galloonlaw03_YardThere.l0 k (quots b.toNat a.toNat) 0 0 a b) (fun k => ?_) ?_
    · simp only [galloonlaw03_YardThere.j0]
      rw [if_neg (by simp), if_neg hb]
    · have hsr := sum_range hrange
      refine there_l0 hrange (by omega) ?_ (quots b.toNat a.toNat).length 0 (by omega)
      rw [w64 (n := (quots b.toNat a.toNat).sum - 2) (by omega), hsum, show ((pathL u v).length : Int) + 2 - 2 = (pathL u v).length by omega]
      refine Ev.bind hP ?_
      simp only [galloonlaw03_rest.f, Option.bind_some]
      rw [w64 (by omega)]
      refine Ev.bind hP' ?_
      rw [hml]
      by_cases hl : (pathL u v).length ≤ 200
      · simp only [if_pos hl]
        refine Ev.ite_true trivial (Ev.ite_true trivial (Ev.bind (hF hl) (Ev.ite_true (by rw [strOfNums_size]) (Ev.ite_true (by rw [strOfNums_size, strOfNums_size, hml]) (Ev.ite_true rfl ?_)))))
        refine Ev.step (f := fun k => galloonlaw03_YardThere.l1 k (strOfNums (pathL u v)) (strOfNums (pathL v u)) 0) (fun k => ?_) (there_l1 (pathL_turn (u + v) u v (Nat.le_refl _)) hmir (by omega) (pathL u v).length 0 (by omega))
        simp [galloonlaw03_YardThere.j2]
      · simp only [if_neg hl]
        refine Ev.ite_true trivial (Ev.ite_false (by omega) (Ev.ite_true trivial (Ev.ite_true (by omega) there_awake)))

end Go.Proofs.Ythjodhmkmjabbaa.Pure
