import Derived.Test.YthjodhmkmjabbaaPYx33
import Derived.Test.YthjodhmkmjabbaaB7
namespace Go.Proofs.Ythjodhmkmjabbaa.Pure
open Go.RowKit Go.Proofs.Ythjodhmkmjabbaa.PY Go.Proofs.YthjodhmkmjabbaaW.PrintWords Go.Proofs.YthjodhmkmjabbaaW.PrintLast

theorem adjacent_awake : Ev (fun k => (galloonlaw03_awake.f k).bind fun t => some t) true := Ev.bind awake_ev (Ev.now _)
theorem nb_okF {n a b c d : Int} (hn : n ≤ 300) (h : Nb n a b c d) (hab : a ≤ b) (hcd : c ≤ d) : okF a b = true ∧ okF c d = true := by
  have hg := h.gcd
  obtain ⟨b1, bn, d1, dn, a0, c0, det, far⟩ := h
  exact ⟨okF_iff.2 ⟨b1, by omega, a0, hab, hg.1⟩, okF_iff.2 ⟨d1, by omega, c0, hcd, hg.2⟩⟩
theorem nb_neigh {n a b c d : Int} (hn : n ≤ 300) (h : Nb n a b c d) (hab : a ≤ b) (hcd : c ≤ d) : Ev (fun k => yard_Neighbors.f k a b c d) (true, 0) := by
  obtain ⟨h1, h2⟩ := nb_okF hn h hab hcd
  obtain ⟨w1, w2⟩ := less_ok h1 h2
  have := neigh_ev a b c d
  rw [h1, h2, w1, w2, h.det] at this
  exact Ev.to this (by rw [w64 (by omega)]; rfl)
theorem nb_between {n a b c d : Int} (hn : n ≤ 300) (h : Nb n a b c d) (hab : a ≤ b) (hcd : c ≤ d) : Ev (fun k => yard_Between.f k a b c d) (a + c, b + d, 0) := by
  obtain ⟨h1, h2⟩ := nb_okF hn h hab hcd
  have hdet := h.det
  obtain ⟨p, q, hs, _, hy⟩ := between_ok h1 h2 (by omega)
  obtain ⟨q1, p1, lo, hi, pm, qm, _⟩ := hs
  have hb1 := h.b1
  have hd1 := h.d1
  have hbn := h.bn
  have hdn := h.dn
  have e : q = b * (c * q - p * d) + d * (p * b - a * q) := by
    have : q = (c * b - a * d) * q := by rw [hdet, Int.one_mul]
    grind
  have k1 : b * 1 ≤ b * (c * q - p * d) := Int.mul_le_mul_of_nonneg_left (by omega) (by omega)
  have k2 : d * 1 ≤ d * (p * b - a * q) := Int.mul_le_mul_of_nonneg_left (by omega) (by omega)
  have hq : q = b + d := by omega
  have e1 : c * q - p * d = 1 := Int.eq_of_mul_eq_mul_left (a := b) (by omega) (by omega)
  have e2 : p * b - a * q = 1 := Int.eq_of_mul_eq_mul_left (a := d) (by omega) (by omega)
  have hp : p = a + c := by
    have e3 : p = a * (c * q - p * d) + c * (p * b - a * q) := by
      have : p = (c * b - a * d) * p := by rw [hdet, Int.one_mul]
      grind
    rw [e1, e2] at e3
    omega
  rw [if_pos (by omega), hp, hq] at hy
  exact hy
theorem YardAdjacent : galloonlaw03_YardAdjacent.Pure := by
  intro a0 a1 _ _
  refine Ev.rounds (?_ : Ev (fun k => galloonlaw03_YardAdjacent.f k a0 a1) true)
  obtain ⟨v, hv, v0, v1⟩ := mod_val a0 299 (by omega) (by omega)
  obtain ⟨n, hn⟩ : ∃ n : Nat, 2 + v = n := ⟨(2 + v).toNat, by omega⟩
  have h2 : 2 ≤ n := by omega
  have h3 : n ≤ 300 := by omega
  have hok : okN n = true := by simp [okN]; omega
  simp only [galloonlaw03_YardAdjacent.f, hv, Option.bind_some]
  rw [w64 (n := 2 + v) (by omega), hn]
  refine Ev.bind (size_ev hok) ?_
  have hc := cnt_le 1 1 n h3
  have hbig : 2 ≤ cnt 1 1 n := by
    obtain ⟨p, rfl⟩ : ∃ p, n = p + 2 := ⟨n - 2, by omega⟩
    clear hok hc hn h3
    induction p with
    | zero => decide
    | succ p ih =>
      have := ih (by omega)
      simp only [cnt] at this ⊢
      omega
  refine Ev.ite_true rfl ?_
  obtain ⟨u, hu, u0, u1⟩ := mod_val a1 (((cnt 1 1 n : Nat) : Int) + 1 - 2) (by omega) (by omega)
  obtain ⟨j, hj⟩ : ∃ j : Nat, 1 + u = ((j + 1 : Nat) : Int) := ⟨u.toNat, by omega⟩
  have hjK : j + 2 ≤ cnt 1 1 n := by omega
  have n1 := fr_nb (n := (n : Int)) (by omega) j
  have n2 := fr_nb (n := (n : Int)) (by omega) (j + 1)
  have l0 := fr_le (show 1 ≤ n by omega) (show j ≤ cnt 1 1 n by omega)
  have l1 := fr_le (show 1 ≤ n by omega) (show j + 1 ≤ cnt 1 1 n by omega)
  have l2 := fr_le (show 1 ≤ n by omega) (show j + 1 + 1 ≤ cnt 1 1 n by omega)
  have s1 := fr_lt (show 1 ≤ n by omega) (show j + 1 < cnt 1 1 n by omega)
  have hIt := item_ev hok (i := j + 1) (by omega)
  obtain ⟨⟨p, q⟩, h0e⟩ : ∃ x, x = fr (n : Int) j := ⟨_, rfl⟩
  obtain ⟨⟨a, b⟩, h1e⟩ : ∃ x, x = fr (n : Int) (j + 1) := ⟨_, rfl⟩
  obtain ⟨⟨c, d⟩, h2e⟩ : ∃ x, x = fr (n : Int) (j + 1 + 1) := ⟨_, rfl⟩
  rw [← h0e] at n1 l0
  rw [← h1e] at n1 n2 l1 s1 hIt
  rw [← h2e] at n2 l2
  simp only at n1 n2 l0 l1 l2 s1 hIt
  obtain ⟨ok0, ok1⟩ := nb_okF (by omega) n1 l0 l1
  obtain ⟨_, ok2⟩ := nb_okF (by omega) n2 l1 l2
  have hNx := Next_ev hok ok1 (n2.succ s1)
  have hMs : b - a < b := by
    have h5 := n1.det
    have h6 := Int.mul_nonneg n1.a0 (show 0 ≤ b by have := n1.d1; omega)
    have : 0 < a * q := by omega
    have := Int.pos_of_mul_pos_left this (by have := n1.b1; omega)
    omega
  have hBf := Before_ev hok ok1 (by have := n1.bn; omega) n1.a0 l0 ((n1.mirror l0 l1).succ hMs)
  have hN1 := nb_neigh (by omega) n1 l0 l1
  have hN2 := nb_neigh (by omega) n2 l1 l2
  have hBt := nb_between (by omega) n2 l1 l2
  have v0' := valid_ev p q
  have v1' := valid_ev a b
  have v2' := valid_ev c d
  rw [ok0] at v0'
  rw [ok1] at v1'
  rw [ok2] at v2'
  -- the two around it, added, are a multiple of it
  have d1 := n1.det
  have d2 := n2.det
  have hap : 0 < a := by omega
  have hb1 := n1.d1
  have hmul : (p + c) * b = a * (q + d) := by grind
  have hdvb : b ∣ q + d := by
    have : q + d = b * (c * (q + d)) - d * ((p + c) * b) := by
      have : q + d = (c * b - a * d) * (q + d) := by rw [d2, Int.one_mul]
      grind
    rw [this]
    exact Int.dvd_sub (Int.dvd_mul_right ..) (Int.dvd_mul_of_dvd_right (Int.dvd_mul_left ..))
  obtain ⟨e, he⟩ := hdvb
  have he2 : p + c = a * e := by
    have : (p + c) * b = (a * e) * b := by rw [hmul, he]; grind
    exact Int.eq_of_mul_eq_mul_right (by omega) this
  have hp0 := n1.a0
  have hc0 := n2.c0
  have hq1 := n1.b1
  have hd1 := n2.d1
  have hqn := n1.bn
  have hdn := n2.dn
  have hbn := n2.bn
  have hfar := n2.far
  have hte : Int.tmod (p + c) a = 0 := by rw [he2]; exact Int.mul_tmod_right ..
  have hte2 : Int.tmod (q + d) b = 0 := by rw [he]; exact Int.mul_tmod_right ..
  have htd : Int.tdiv (p + c) a = e := by rw [he2]; exact Int.mul_tdiv_cancel_left _ (by omega)
  have htd2 : Int.tdiv (q + d) b = e := by rw [he]; exact Int.mul_tdiv_cancel_left _ (by omega)
  refine Ev.step (f := fun k => (yard_Item.f k n ((j + 1 : Nat) : Int)).bind fun bt521 => ((yard_Before.f k n bt521.1 bt521.2.1).bind fun bt525 => ((yard_Next.f k n bt521.1 bt521.2.1).bind fun bt529 => ((yard_Neighbors.f k bt525.1 bt525.2.1 bt521.1 bt521.2.1).bind fun bt533 => ((yard_Neighbors.f k bt521.1 bt521.2.1 bt529.1 bt529.2.1).bind fun bt535 => ((yard_Between.f k bt521.1 bt521.2.1 bt529.1 bt529.2.1).bind fun bt537 => (if bt521.2.2 = 0 then (if bt525.2.2 = 0 then (if bt529.2.2 = 0 then (if bt533.2 = 0 then (if bt535.2 = 0 then (if bt537.2.2 = 0 then (if bt533.1 = true then (if bt535.1 = true then ((galloonref03_Valid.f k bt521.1 bt521.2.1).bind fun t541 => (if t541 = true then ((galloonref03_Valid.f k bt525.1 bt525.2.1).bind fun t542 => (if t542 = true then ((galloonref03_Valid.f k bt529.1 bt529.2.1).bind fun t543 => (if t543 = true then (if (bt537.1 == (wrap64 (bt521.1 + bt529.1)) && (bt537.2.1 == (wrap64 (bt521.2.1 + bt529.2.1)))) = true then (if bt537.2.1 > n then (if bt521.1 = 0 then (none) else (if (Int.tmod (wrap64 (bt525.1 + bt529.1)) bt521.1) = 0 then (if bt521.2.1 = 0 then (none) else (if (Int.tmod (wrap64 (bt525.2.1 + bt529.2.1)) bt521.2.1) = 0 then (if (wrap64 (Int.tdiv (wrap64 (bt525.1 + bt529.1)) bt521.1)) = (wrap64 (Int.tdiv (wrap64 (bt525.2.1 + bt529.2.1)) bt521.2.1)) then ((galloonlaw03_awake.f k).bind fun t544 => (some t544)) else (some false)) else (some false))) else (some false))) else (some false)) else (some false)) else (some false))) else (some false))) else (some false))) else (some false)) else (some false)) else (some false)) else (some false)) else (some false)) else (some false)) else (some false)) else (some false))))))))
    (fun k => ?_) (Ev.bind hIt (Ev.bind hBf (Ev.bind hNx (Ev.bind hN1 (Ev.bind hN2 (Ev.bind hBt ?_))))))
  · simp only [galloonlaw03_YardAdjacent.j0]
    rw [if_neg (by simp; omega), w64 (n := ((cnt 1 1 n : Nat) : Int) + 1 - 2) (by omega), hu, Option.bind_some, w64 (n := 1 + u) (by omega), hj]
  · refine Ev.ite_true rfl (Ev.ite_true rfl (Ev.ite_true rfl (Ev.ite_true rfl (Ev.ite_true rfl (Ev.ite_true rfl (Ev.ite_true rfl (Ev.ite_true rfl (Ev.bind v1' (Ev.ite_true rfl (Ev.bind v0' (Ev.ite_true rfl (Ev.bind v2' (Ev.ite_true rfl ?_)))))))))))))
    simp only [w64 (n := a + c) (by omega), w64 (n := b + d) (by omega), w64 (n := p + c) (by omega), w64 (n := q + d) (by omega), hte, hte2, htd, htd2]
    exact Ev.ite_true (by simp) (Ev.ite_true (by omega) (Ev.ite_false (by omega) (Ev.ite_true trivial (Ev.ite_false (by omega) (Ev.ite_true trivial (Ev.ite_true trivial adjacent_awake))))))

end Go.Proofs.Ythjodhmkmjabbaa.Pure
