/- The tower of a word of a and b against the fraction with its path: lengths, letters and periods. No condition. -/
import Derived.Test.YthjodhmkmjabbaaPYx26
import Derived.Test.YthjodhmkmjabbaaBSl
import Derived.Test.YthjodhmkmjabbaaBTow
namespace Go.Proofs.Ythjodhmkmjabbaa.Pure
open Go.RowKit Go.Proofs.Ythjodhmkmjabbaa.PY Go.Proofs.YthjodhmkmjabbaaW.PrintWords Go.Proofs.YthjodhmkmjabbaaW.PrintLast Go.Proofs.Ythjodhmkmjabbaa.Pal

/-- The pair at which a word's path stands, and the word's tower. -/
structure St (w : List UInt8) (p q r s : Int) : Prop where
  eq : q = pl 98 w + 2
  es : s = pl 97 w + 2
  ep : p = qn 98 98 w + 1
  er : r = qn 98 97 w + 1
  len : ((tow w).length : Int) = q + s - 2
  cb : (((tow w).count 98 : Nat) : Int) = p + r - 1
  det : r * q - p * s = 1
  p0 : 0 ≤ p
  pq : p < q
  r1 : 1 ≤ r
  rs : r ≤ s
  big : q + s ≤ 2 ^ (w.length + 1)
theorem St.nil : St [] 0 1 1 1 := ⟨rfl, rfl, rfl, rfl, rfl, rfl, rfl, by omega, by omega, by omega, by omega, by decide⟩
theorem St.left {w : List UInt8} {p q r s : Int} (h : St w p q r s) : St (w ++ [97]) p q (p + r) (q + s) := by
  have h1 := tow_len_snoc w 97
  have h2 := tow_count_snoc 98 w 97
  have a1 := h.eq; have a2 := h.es; have a3 := h.ep; have a4 := h.er; have a5 := h.len; have a6 := h.cb; have a7 := h.p0; have a8 := h.pq; have a9 := h.r1; have b1 := h.rs; have b2 := h.big
  refine ⟨?_, ?_, ?_, ?_, ?_, ?_, ?_, h.p0, h.pq, ?_, ?_, ?_⟩
  · rw [pl_snoc, if_neg (by decide)]; exact a1
  · rw [pl_snoc, if_pos rfl]; omega
  · rw [qn_snoc, if_neg (by decide)]; exact a3
  · rw [qn_snoc, if_pos rfl]; omega
  · omega
  · omega
  · have := h.det; grind
  · omega
  · omega
  · rw [List.length_append, List.length_singleton, Int.pow_succ]; omega
theorem St.right {w : List UInt8} {p q r s : Int} (h : St w p q r s) : St (w ++ [98]) (p + r) (q + s) r s := by
  have h1 := tow_len_snoc w 98
  have h2 := tow_count_snoc 98 w 98
  have a1 := h.eq; have a2 := h.es; have a3 := h.ep; have a4 := h.er; have a5 := h.len; have a6 := h.cb; have a7 := h.p0; have a8 := h.pq; have a9 := h.r1; have b1 := h.rs; have b2 := h.big
  refine ⟨?_, ?_, ?_, ?_, ?_, ?_, ?_, ?_, ?_, h.r1, h.rs, ?_⟩
  · rw [pl_snoc, if_pos rfl]; omega
  · rw [pl_snoc, if_neg (by decide)]; exact a2
  · rw [qn_snoc, if_pos rfl]; omega
  · rw [qn_snoc, if_neg (by decide)]; exact a4
  · omega
  · omega
  · have := h.det; grind
  · omega
  · omega
  · rw [List.length_append, List.length_singleton, Int.pow_succ]; omega
theorem big_le {n : Nat} (h : n ≤ 12) : (2 : Int) ^ (n + 1) ≤ 8192 := by
  have : n = 0 ∨ n = 1 ∨ n = 2 ∨ n = 3 ∨ n = 4 ∨ n = 5 ∨ n = 6 ∨ n = 7 ∨ n = 8 ∨ n = 9 ∨ n = 10 ∨ n = 11 ∨ n = 12 := by omega
  rcases this with rfl | rfl | rfl | rfl | rfl | rfl | rfl | rfl | rfl | rfl | rfl | rfl | rfl <;> decide
/-- The letter's turn. -/
def turn (c : UInt8) : UInt8 := if c = 97 then 76 else 82
theorem turn_val (c : UInt8) : ((turn c).toNat : Int) = if c = 97 then 76 else 82 := by unfold turn; split <;> rfl
theorem bt_turn {w : List UInt8} {i : Nat} (h : i < w.length) : bt (mkS (w.map turn)) i = if w[i] = 97 then 76 else 82 := by
  have e := bt_L (s := mkS (w.map turn)) (i := i) (by rw [L_mk]; simpa using h)
  rw [e, ← turn_val]
  have : (L (mkS (w.map turn)))[i]'(by rw [L_mk]; simpa using h) = turn w[i] := by simp [L_mk]
  rw [this]
theorem fol_l1 {w : List UInt8} (hw : ∀ c ∈ w, c = 97 ∨ c = 98) (hl : w.length ≤ 12) : ∀ (n i : Nat) (p q r s : Int), w.length = i + n → St (w.take i) p q r s →
    ∃ P Q R S, St w P Q R S ∧ Ev (fun k => yard_Follow.l1 k (mkS (w.map turn)) i p q r s) (P + R, Q + S, 0)
  | 0, i, p, q, r, s, hi, h => by
    have e : w.take i = w := List.take_of_length_le (by omega)
    rw [e] at h
    have hb := big_le hl
    have b2 := h.big; have a7 := h.p0; have a8 := h.pq; have a9 := h.r1; have b1 := h.rs
    refine ⟨p, q, r, s, h, Ev.step (f := fun _ => some (p + r, q + s, 0)) (fun k => ?_) (Ev.now _)⟩
    simp only [yard_Follow.l1]
    rw [if_neg (by rw [mk_size, List.length_map]; omega), w64 (by omega), w64 (by omega), if_neg (by omega)]
  | n + 1, i, p, q, r, s, hi, h => by
    have hiw : i < w.length := by omega
    have hb := big_le hl
    have hb' := big_le (n := (w.take i).length) (by rw [List.length_take]; omega)
    have b2 := h.big; have a7 := h.p0; have a8 := h.pq; have a9 := h.r1; have b1 := h.rs
    have w1 : wrap64 (p + r) = p + r := w64 (by omega)
    have w2 : wrap64 (q + s) = q + s := w64 (by omega)
    rcases hw _ (List.getElem_mem hiw) with hc | hc
    · have h' := h.left
      rw [← hc, ← take_snoc w i hiw] at h'
      obtain ⟨P, Q, R, S, h1, h2⟩ := fol_l1 hw hl n (i + 1) _ _ _ _ (by omega) h'
      refine ⟨P, Q, R, S, h1, Ev.step (fun k => ?_) h2⟩
      show yard_Follow.l1 (k + 1) _ _ _ _ _ _ = _
      simp only [yard_Follow.l1, w1, w2]
      rw [if_pos (by rw [mk_size, List.length_map]; omega), if_neg (by omega), bt_turn hiw, if_pos (by rw [if_pos hc])]
      rfl
    · have h' := h.right
      rw [← hc, ← take_snoc w i hiw] at h'
      obtain ⟨P, Q, R, S, h1, h2⟩ := fol_l1 hw hl n (i + 1) _ _ _ _ (by omega) h'
      have hc97 : ¬ w[i] = 97 := by rw [hc]; decide
      refine ⟨P, Q, R, S, h1, Ev.step (fun k => ?_) h2⟩
      show yard_Follow.l1 (k + 1) _ _ _ _ _ _ = _
      simp only [yard_Follow.l1, w1, w2]
      rw [if_pos (by rw [mk_size, List.length_map]; omega), if_neg (by omega), bt_turn hiw, if_neg (by rw [if_neg hc97]; omega)]
      rfl
theorem fol_l0 {w : List UInt8} {R : Int × Int × Int} (hr : Ev (fun k => yard_Follow.l1 k (mkS (w.map turn)) 0 0 1 1 1) R) : ∀ (n i : Nat), w.length = i + n → Ev (fun k => yard_Follow.l0 k (mkS (w.map turn)) i) R
  | 0, i, hi => by
    refine Ev.step (fun k => ?_) hr
    show yard_Follow.l0 (k + 1) _ _ = _
    simp only [yard_Follow.l0]
    rw [if_neg (by rw [mk_size, List.length_map]; omega)]
  | n + 1, i, hi => by
    refine Ev.step (fun k => ?_) (fol_l0 hr n (i + 1) (by omega))
    show yard_Follow.l0 (k + 1) _ _ = _
    simp only [yard_Follow.l0]
    rw [if_pos (by rw [mk_size, List.length_map]; omega), bt_turn (show i < w.length by omega), if_pos (by split <;> simp [isTurn])]
    rfl
theorem fol_ev {w : List UInt8} (hw : ∀ c ∈ w, c = 97 ∨ c = 98) (hl : w.length ≤ 12) : ∃ P Q R S, St w P Q R S ∧ Ev (fun k => yard_Follow.f k (mkS (w.map turn))) (P + R, Q + S, 0) := by
  obtain ⟨P, Q, R, S, h1, h2⟩ := fol_l1 hw hl w.length 0 0 1 1 1 (by omega) (by simpa using St.nil)
  refine ⟨P, Q, R, S, h1, ?_⟩
  refine Ev.ite_false (by rw [mk_size, List.length_map]; omega) ?_
  exact fol_l0 h2 w.length 0 (by omega)
theorem tow_ev {w : List UInt8} (hw : ∀ c ∈ w, c = 97 ∨ c = 98) (hl : w.length ≤ 12) : Ev (fun k => trim_Tower.f k (mkS w)) (if (tow w).length ≤ 100 then (mkS (tow w), 0) else (mkS [], 5)) := by
  have h1 : trim_isWord.f (mkS w) = some true := by
    rw [isWord_iff, mk_size, L_mk]
    congr 1
    rw [decide_eq_true_iff]
    refine ⟨by omega, fun c hc => ?_⟩
    rcases hw c hc with rfl | rfl <;> decide
  have h2 := tower_ev (s := mkS w) (by rw [mk_size]; omega)
  rw [L_mk] at h2
  refine Ev.congr (f := fun k => (trim_tower.f k (mkS w)).bind fun bt326 => (if bt326.2 = true then (some (bt326.1, 0)) else (some ((⟨#[]⟩ : ByteArray), 5)))) (fun k => by simp [trim_Tower.f, h1]) (Ev.bind h2 ?_)
  by_cases c : (tow w).length ≤ 100
  · rw [if_pos c, if_pos c]; exact Ev.ite_true rfl (Ev.now _)
  · rw [if_neg c, if_neg c]; exact Ev.congr (f := fun _ => some (mkS [], 5)) (fun k => rfl) (Ev.now _)
theorem text_loop (a0 : ByteArray) : ∀ (n : Nat) (xs : List Int), 12 = xs.length + n → (∀ x ∈ xs, x = 97 ∨ x = 98) →
    ∃ ys : List Int, (∀ x ∈ ys, x = 97 ∨ x = 98) ∧ ys.length ≤ 12 ∧ Ev (fun k => galloontop_text.l0 k a0 97 12 2 xs xs.length) (strOfNums ys)
  | 0, xs, h, hx => by
    refine ⟨xs, hx, by omega, Ev.step (f := fun _ => some (strOfNums xs)) (fun k => ?_) (Ev.now _)⟩
    simp only [galloontop_text.l0]
    by_cases c : (xs.length : Int) < a0.size
    · rw [if_pos c, if_neg (by omega)]
    · rw [if_neg c]
  | n + 1, xs, h, hx => by
    by_cases c : (xs.length : Int) < a0.size
    · have hb := bt_range a0 xs.length
      have hv : (97 + ((Int.tmod (wrap64 (bt a0 xs.length)) 2) % 256)) % 256 = 97 ∨ (97 + ((Int.tmod (wrap64 (bt a0 xs.length)) 2) % 256)) % 256 = 98 := by
        rw [w64 (by omega), Int.tmod_eq_emod_of_nonneg hb.1]
        omega
      obtain ⟨ys, h1, h2, h3⟩ := text_loop a0 n (xs ++ [(97 + ((Int.tmod (wrap64 (bt a0 xs.length)) 2) % 256)) % 256]) (by simp; omega) (fun x hxm => by
        rcases List.mem_append.1 hxm with h | h
        · exact hx x h
        · rw [List.mem_singleton] at h; rw [h]; exact hv)
      refine ⟨ys, h1, h2, Ev.step (fun k => ?_) h3⟩
      show galloontop_text.l0 (k + 1) _ _ _ _ _ _ = _
      simp only [galloontop_text.l0]
      rw [if_pos c, if_pos (by omega), if_pos (by omega), if_neg (by decide), if_pos (by omega), w64 (n := (xs.length : Int) + 1) (by omega)]
      simp
    · refine ⟨xs, hx, by omega, Ev.step (f := fun _ => some (strOfNums xs)) (fun k => ?_) (Ev.now _)⟩
      simp only [galloontop_text.l0]
      rw [if_neg c]
theorem text_ev (a0 : ByteArray) : ∃ w : List UInt8, (∀ c ∈ w, c = 97 ∨ c = 98) ∧ w.length ≤ 12 ∧ Ev (fun k => galloontop_text.f k a0 97 12 2) (mkS w) := by
  obtain ⟨ys, h1, h2, h3⟩ := text_loop a0 12 [] (by simp) (by simp)
  refine ⟨ys.map fun n : Int => UInt8.ofNat n.toNat, fun c hc => ?_, by simpa using h2, h3⟩
  obtain ⟨x, hx, rfl⟩ := List.mem_map.1 hc
  rcases h1 x hx with rfl | rfl
  · exact .inl rfl
  · exact .inr rfl
theorem three_ev : Ev (fun k => galloontop_three.f k) true := Ev.of galloontop_three.mono (k := 40) (by decide +kernel)
theorem three_ev' : Ev (fun k => (galloontop_three.f k).bind fun t => some t) true := Ev.bind three_ev (Ev.now _)
theorem path_loop {w : List UInt8} (hw : ∀ c ∈ w, c = 97 ∨ c = 98) (hl : w.length ≤ 12) (hr : Ev (fun k => galloontop_TopCentral.l0 k (mkS w) (mkS (w.map turn)) w.length) true) : ∀ (n i : Nat), w.length = i + n →
    Ev (fun k => galloontop_TopCentral.l0 k (mkS w) (mkS ((w.take i).map turn)) i) true
  | 0, i, hi => by
    rw [List.take_of_length_le (by omega), show i = w.length by omega]; exact hr
  | n + 1, i, hi => by
    have hiw : i < w.length := by omega
    have ih := path_loop hw hl hr n (i + 1) (by omega)
    have hbt : bt (mkS w) i = ((w[i]).toNat : Int) := by
      have := bt_L (s := mkS w) (i := i) (by rw [L_mk]; exact hiw)
      rw [this]
      simp [L_mk]
    have hx : ∀ c : UInt8, turn w[i] = c → mkS ((w.take i).map turn) ++ mkS [c] = mkS ((w.take (i + 1)).map turn) := by
      intro c hc
      rw [mk_append, take_snoc w i hiw, List.map_append, ← hc]; rfl
    refine Ev.step (fun k => ?_) ih
    show galloontop_TopCentral.l0 (k + 1) _ _ _ = _
    simp only [galloontop_TopCentral.l0]
    rw [if_pos (by rw [mk_size]; omega), if_pos (by omega), hbt, w64 (n := (i : Int) + 1) (by omega)]
    rcases hw _ (List.getElem_mem hiw) with hc | hc
    · rw [if_pos (by rw [hc]; rfl), if_pos (by rw [mk_size, List.length_map, List.length_take]; omega)]
      have := hx 76 (by rw [hc]; rfl)
      rw [show (⟨#[76]⟩ : ByteArray) = mkS [76] from rfl, this]
      rfl
    · rw [if_neg (by rw [hc]; decide), if_pos (by rw [mk_size, List.length_map, List.length_take]; omega)]
      have := hx 82 (by rw [hc]; rfl)
      rw [show (⟨#[82]⟩ : ByteArray) = mkS [82] from rfl, this]
      rfl
theorem count_loop {t : List UInt8} (ht : t.length ≤ 100) {x9 N D : Int} {r : Bool} (hr : Ev (fun k => galloontop_TopCentral.l1 k (mkS t) x9 ((t.count 98 : Nat) : Int) t.length N D) r) : ∀ (n i : Nat), t.length = i + n →
    Ev (fun k => galloontop_TopCentral.l1 k (mkS t) x9 (((t.take i).count 98 : Nat) : Int) i N D) r
  | 0, i, hi => by
    rw [List.take_of_length_le (by omega), show i = t.length by omega]; exact hr
  | n + 1, i, hi => by
    have hit : i < t.length := by omega
    have ih := count_loop ht hr n (i + 1) (by omega)
    have hbt : bt (mkS t) i = ((t[i]).toNat : Int) := by
      have := bt_L (s := mkS t) (i := i) (by rw [L_mk]; exact hit)
      rw [this]
      simp [L_mk]
    have hcl : (t.take i).count 98 ≤ i := Nat.le_trans List.count_le_length (by rw [List.length_take]; omega)
    rw [take_snoc t i hit, List.count_append] at ih
    refine Ev.step (fun k => ?_) ih
    show galloontop_TopCentral.l1 (k + 1) _ _ _ _ _ _ = _
    simp only [galloontop_TopCentral.l1]
    rw [if_pos (by rw [mk_size]; omega), if_pos (by omega), hbt, w64 (n := (i : Int) + 1) (by omega), w64 (by omega)]
    by_cases hc : t[i] = 98
    · rw [if_pos (by rw [hc]; rfl), hc]
      rfl
    · have hne : ¬ ((t[i]).toNat : Int) = 98 := fun h => hc (UInt8.toNat_inj.1 (by have : (98 : UInt8).toNat = 98 := rfl; omega))
      rw [if_neg hne, List.count_cons_of_ne (by simpa using hc)]
      rfl
theorem period_loop {w : List UInt8} {P Q R S : Int} (h : St w P Q R S) (ht : (tow w).length ≤ 100) : ∀ (n i : Nat), (tow w).length = i + n →
    Ev (fun k => galloontop_TopCentral.l2 k (mkS (tow w)) i P Q R S) true
  | 0, i, hi => by
    refine Ev.step (fun k => ?_) three_ev'
    show galloontop_TopCentral.l2 (k + 1) _ _ _ _ _ _ = _
    simp only [galloontop_TopCentral.l2]
    rw [if_neg (by rw [mk_size]; omega)]
  | n + 1, i, hi => by
    have ih := period_loop h ht n (i + 1) (by omega)
    have hit : i < (tow w).length := by omega
    have a1 := h.eq; have a2 := h.es; have a5 := h.len; have a7 := h.p0; have a8 := h.pq; have a9 := h.r1; have b1 := h.rs
    have hbt : ∀ j : Nat, ∀ hj : j < (tow w).length, bt (mkS (tow w)) j = (((tow w)[j]).toNat : Int) := by
      intro j hj
      have := bt_L (s := mkS (tow w)) (i := j) (by rw [L_mk]; exact hj)
      rw [this]
      simp [L_mk]
    have hQ : (i : Int) ≥ Q → wrap64 ((i : Int) - Q) = ((i - Q.toNat : Nat) : Int) ∧ bt (mkS (tow w)) i = bt (mkS (tow w)) ((i - Q.toNat : Nat) : Int) := fun hq => by
      obtain ⟨h2, e⟩ := tow_period 97 w i Q.toNat (by omega) (by omega) hit
      refine ⟨by rw [w64 (by omega)]; omega, ?_⟩
      rw [hbt i hit, hbt _ h2, e]
    have hS : (i : Int) ≥ S → wrap64 ((i : Int) - S) = ((i - S.toNat : Nat) : Int) ∧ bt (mkS (tow w)) i = bt (mkS (tow w)) ((i - S.toNat : Nat) : Int) := fun hq => by
      obtain ⟨h2, e⟩ := tow_period 98 w i S.toNat (by omega) (by omega) hit
      refine ⟨by rw [w64 (by omega)]; omega, ?_⟩
      rw [hbt i hit, hbt _ h2, e]
    refine Ev.step (fun k => ?_) ih
    show galloontop_TopCentral.l2 (k + 1) _ _ _ _ _ _ = _
    simp only [galloontop_TopCentral.l2]
    rw [if_pos (by rw [mk_size]; omega), w64 (n := (i : Int) + 1) (by omega)]
    by_cases cQ : (i : Int) ≥ Q
    · obtain ⟨q1, q2⟩ := hQ cQ
      rw [if_pos cQ, if_pos (by omega), q1, if_pos (by omega), if_pos (by rw [mk_size]; omega), if_pos q2]
      by_cases cS : (i : Int) ≥ S
      · obtain ⟨s1, s2⟩ := hS cS
        rw [if_pos cS, s1, if_pos (by omega), if_pos (by rw [mk_size]; omega), if_pos s2]; rfl
      · rw [if_neg cS]; rfl
    · rw [if_neg cQ]
      by_cases cS : (i : Int) ≥ S
      · obtain ⟨s1, s2⟩ := hS cS
        rw [if_pos cS, if_pos (by omega), s1, if_pos (by omega), if_pos (by rw [mk_size]; omega), if_pos s2]; rfl
      · rw [if_neg cS]; rfl
theorem TopCentral : galloontop_TopCentral.Pure := by
  intro a0 _
  refine Ev.rounds (?_ : Ev (fun k => galloontop_TopCentral.f k a0) true)
  obtain ⟨w, hw, hl, ht⟩ := text_ev a0
  refine Ev.bind ht ?_
  have := path_loop hw hl ?_ w.length 0 (by omega)
  · simpa [mkS] using this
  obtain ⟨P, Q, R, S, h, hf⟩ := fol_ev hw hl
  have hT := tow_ev hw hl
  have a5 := h.len; have a7 := h.p0; have a8 := h.pq; have a9 := h.r1; have b1 := h.rs; have b2 := h.big; have b3 := big_le hl; have a6 := h.cb; have dt := h.det
  refine Ev.step (f := fun k => galloontop_TopCentral.l0 (k + 1) (mkS w) (mkS (w.map turn)) w.length) (fun k => rfl) ?_
  simp only [galloontop_TopCentral.l0]
  refine Ev.ite_false (by rw [mk_size]; omega) (Ev.bind hf (Ev.bind hT (Ev.ite_true rfl (Ev.ite_false (by show ¬ P + R < 1; omega) ?_))))
  show Ev (fun k => galloontop_TopCentral.j1 k _ _ (decide (Q + S ≤ P + R)) (P + R) (Q + S)) true
  rw [decide_eq_false (show ¬ Q + S ≤ P + R by omega)]
  by_cases c : (tow w).length ≤ 100
  · rw [if_pos c]
    have hD : Q + S ≤ 102 := by omega
    have nb1 : Nb (Q + S) P Q (P + R) (Q + S) := ⟨by omega, by omega, by omega, by omega, a7, by omega, by grind, by omega⟩
    have nb2 : Nb (Q + S) (P + R) (Q + S) R S := ⟨by omega, by omega, by omega, by omega, by omega, by omega, by grind, by omega⟩
    have hok : okN (Q + S) = true := by simp [okN]; omega
    have hfr : okF (P + R) (Q + S) = true := okF_iff.2 ⟨by omega, by omega, by omega, by omega, nb2.gcd.1⟩
    have hN := Next_ev hok hfr (nb2.succ (by omega))
    have hB := Before_ev hok hfr (show Q ≤ 1000000 by omega) a7 (by omega) ((nb1.mirror (by omega) (by omega)).succ (by omega))
    have hmn : mn (Q + S) 300 = Q + S := by unfold mn; rw [if_neg (by omega)]
    refine Ev.step (f := fun k => galloontop_TopCentral.l1 k (mkS (tow w)) 0 0 0 (P + R) (Q + S)) (fun k => ?_) ?_
    · simp only [galloontop_TopCentral.j1]
      rw [if_neg (by decide), w64 (by omega), if_neg (by omega)]
    have h0 := count_loop (t := tow w) c (x9 := 0) (N := P + R) (D := Q + S) (r := true) ?_ (tow w).length 0 (by omega)
    · simpa using h0
    refine Ev.step (f := fun k => galloontop_TopCentral.j3 k (mkS (tow w)) false (P + R) (Q + S)) (fun k => ?_) ?_
    · simp only [galloontop_TopCentral.l1]
      rw [if_neg (by rw [mk_size]; omega), if_pos trivial, w64 (by omega), if_pos (by rw [mk_size]; omega), w64 (by omega), a6]
      simp
    refine Ev.step (f := fun k => galloontop_TopCentral.j3 (k + 1) (mkS (tow w)) false (P + R) (Q + S)) (fun k => rfl) ?_
    simp only [galloontop_TopCentral.j3, hmn]
    refine Ev.ite_false (by decide) (Ev.bind hB (Ev.bind hN (Ev.ite_true rfl (Ev.ite_true rfl (Ev.ite_true (show wrap64 (Q + S) = Q + S from w64 (by omega)) (Ev.ite_false (by show ¬ Q < 1; omega) ?_))))))
    show Ev (fun k => galloontop_TopCentral.j4 k _ (decide (S < 1)) P Q R S) true
    rw [decide_eq_false (show ¬ S < 1 by omega)]
    refine Ev.step (f := fun k => galloontop_TopCentral.l2 k (mkS (tow w)) 0 P Q R S) (fun k => ?_) ?_
    · simp only [galloontop_TopCentral.j4]
      rw [if_neg (by decide)]
    exact period_loop h c (tow w).length 0 (by omega)
  · rw [if_neg c]
    refine Ev.step (fun k => ?_) three_ev'
    show galloontop_TopCentral.j1 (k + 1) _ _ _ _ _ = _
    simp only [galloontop_TopCentral.j1]
    rw [if_neg (by decide), w64 (by omega), if_pos (by omega), if_pos trivial, if_pos (by rw [toList_L, L_mk])]
end Go.Proofs.Ythjodhmkmjabbaa.Pure
