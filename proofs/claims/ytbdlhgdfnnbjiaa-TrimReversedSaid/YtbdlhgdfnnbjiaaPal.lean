/-! Palindromes, closures and towers of lists: plain laws. -/
namespace Go.Proofs.Ytbdlhgdfnnbjiaa.Pal
set_option linter.unusedSectionVars false
variable {α : Type} [DecidableEq α]

/-- A palindrome. -/
def Pal (l : List α) : Prop := l.reverse = l
instance (l : List α) : Decidable (Pal l) := inferInstanceAs (Decidable (l.reverse = l))
theorem pal_nil : Pal ([] : List α) := rfl
theorem pal_one (x : α) : Pal [x] := rfl

/-- The first position from which on a list is a palindrome. -/
def fp : List α → Nat
  | [] => 0
  | x :: l => if Pal (x :: l) then 0 else fp l + 1
theorem fp_le : ∀ l : List α, fp l ≤ l.length
  | [] => Nat.le_refl _
  | x :: l => by
    have := fp_le l
    unfold fp
    split <;> simp <;> omega
theorem fp_pal : ∀ l : List α, Pal (l.drop (fp l))
  | [] => rfl
  | x :: l => by
    unfold fp
    split
    · assumption
    · simpa using fp_pal l
theorem fp_min : ∀ (l : List α) (k : Nat), Pal (l.drop k) → fp l ≤ k
  | [], _, _ => Nat.zero_le _
  | x :: l, 0, h => by
    have h : Pal (x :: l) := h
    unfold fp
    rw [if_pos h]
    exact Nat.le_refl _
  | x :: l, k + 1, h => by
    have := fp_min l k (by simpa using h)
    unfold fp
    split <;> omega
theorem fp_lt (x : α) (l : List α) : fp (x :: l) ≤ l.length := by
  refine fp_min _ _ ?_
  rcases Nat.eq_zero_or_pos l.length with h | h
  · rw [List.length_eq_zero_iff.1 h]; exact pal_one x
  · obtain ⟨k, hk⟩ : ∃ k, l.length = k + 1 := ⟨l.length - 1, by omega⟩
    rw [hk, List.drop_succ_cons]
    obtain ⟨y, hy⟩ : ∃ y, l.drop k = [y] := List.length_eq_one_iff.1 (by simp; omega)
    rw [hy]; exact pal_one y

/-- The closure. -/
def clo (l : List α) : List α := l ++ (l.take (fp l)).reverse
theorem clo_length (l : List α) : (clo l).length = l.length + fp l := by
  have := fp_le l
  simp [clo]; omega
theorem clo_pal (l : List α) : Pal (clo l) := by
  have h := fp_pal l
  unfold Pal at h ⊢
  have e : l = l.take (fp l) ++ l.drop (fp l) := (List.take_append_drop _ _).symm
  have e2 : clo l = l.take (fp l) ++ l.drop (fp l) ++ (l.take (fp l)).reverse := by
    rw [List.take_append_drop]; rfl
  rw [e2, List.reverse_append, List.reverse_append, List.reverse_reverse, h, List.append_assoc]
theorem clo_prefix (l : List α) : l <+: clo l := ⟨_, rfl⟩
/-- What a palindrome that begins with l looks like. -/
theorem pal_ext {l t : List α} (h : Pal (l ++ t)) (hk : t.length ≤ l.length) : Pal (l.drop t.length) ∧ t = (l.take t.length).reverse := by
  unfold Pal at h
  rw [List.reverse_append] at h
  have h1 : t.reverse = l.take t.length := by
    have := congrArg (List.take t.length) h
    rw [List.take_append_of_le_length (by simp), List.take_append_of_le_length hk] at this
    rw [← this, List.take_of_length_le (by simp)]
  refine ⟨?_, by rw [← h1, List.reverse_reverse]⟩
  have h2 := congrArg (List.drop t.length) h
  rw [List.drop_append_of_le_length (by simp), List.drop_append_of_le_length hk, List.drop_of_length_le (by simp), List.nil_append] at h2
  have h3 : l.reverse = (l.drop t.length).reverse ++ t := by
    conv => lhs; rw [← List.take_append_drop t.length l, List.reverse_append, ← h1, List.reverse_reverse]
  rw [h3] at h2
  exact List.append_cancel_right h2
theorem clo_min {l x : List α} (hl : l <+: x) (hx : Pal x) : (clo l).length ≤ x.length := by
  obtain ⟨t, rfl⟩ := hl
  rw [clo_length, List.length_append]
  have := fp_le l
  rcases Nat.le_total t.length l.length with h | h
  · have := fp_min l t.length (pal_ext hx h).1
    omega
  · omega
theorem clo_eq {l x : List α} (hl : l <+: x) (hx : Pal x) (hle : x.length ≤ (clo l).length) : x = clo l := by
  obtain ⟨t, rfl⟩ := hl
  have h1 := clo_length l
  have h2 := fp_le l
  rw [List.length_append] at hle
  obtain ⟨h3, h4⟩ := pal_ext hx (by omega)
  have h5 := fp_min l t.length h3
  have h6 : t.length = fp l := by omega
  rw [h6] at h4
  rw [h4]; rfl
theorem clo_of_pal {l : List α} (h : Pal l) : clo l = l := (clo_eq (List.prefix_refl l) h (clo_prefix l).length_le).symm

/-- The tower. -/
def tow (w : List α) : List α := w.foldl (fun u x => clo (u ++ [x])) []
theorem tow_nil : tow ([] : List α) = [] := rfl
theorem tow_snoc (w : List α) (x : α) : tow (w ++ [x]) = clo (tow w ++ [x]) := by simp [tow, List.foldl_append]
theorem snoc_ind {p : List α → Prop} (h0 : p []) (h1 : ∀ w x, p w → p (w ++ [x])) : ∀ w, p w := by
  intro w
  have : ∀ n (w : List α), w.length = n → p w := by
    intro n
    induction n with
    | zero => intro w hw; rw [List.length_eq_zero_iff.1 hw]; exact h0
    | succ n ih =>
      intro w hw
      have hne : w ≠ [] := by intro e; rw [e] at hw; simp at hw
      rw [← List.dropLast_concat_getLast hne]
      exact h1 _ _ (ih _ (by simp; omega))
  exact this _ w rfl
theorem tow_pal (w : List α) : Pal (tow w) := by
  refine snoc_ind (p := fun w => Pal (tow w)) rfl (fun w x _ => ?_) w
  show Pal (tow (w ++ [x]))
  rw [tow_snoc]; exact clo_pal _
theorem tow_step (w : List α) (x : α) : tow w ++ [x] <+: tow (w ++ [x]) := by rw [tow_snoc]; exact clo_prefix _
theorem tow_take_prefix (w : List α) : ∀ i, tow (w.take i) <+: tow w := by
  refine snoc_ind (p := fun w => ∀ i, tow (w.take i) <+: tow w) (fun i => by simp) (fun w x ih i => ?_) w
  rcases Nat.lt_or_ge w.length i with h | h
  · rw [List.take_of_length_le (by simp; omega)]; exact List.prefix_refl _
  · rw [List.take_append_of_le_length h]
    exact (ih i).trans ((List.prefix_append _ _).trans (tow_step w x))
theorem take_snoc (w : List α) (i : Nat) (h : i < w.length) : w.take (i + 1) = w.take i ++ [w[i]] := by
  rw [List.take_succ_eq_append_getElem h]
theorem tow_take_step (w : List α) (i : Nat) (h : i < w.length) : tow (w.take i) ++ [w[i]] <+: tow w := by
  have h1 := tow_step (w.take i) w[i]
  rw [← take_snoc w i h] at h1
  exact h1.trans (tow_take_prefix w _)
theorem tow_len_lt (w : List α) (x : α) : (tow w).length < (tow (w ++ [x])).length := by
  have := (tow_step w x).length_le
  simp at this; omega
theorem tow_len_take (w : List α) {i j : Nat} (hij : i < j) (hj : j ≤ w.length) : (tow (w.take i)).length < (tow (w.take j)).length := by
  have h1 := (tow_take_step (w.take j) i (by simp; omega)).length_le
  rw [List.take_take, Nat.min_eq_left (by omega)] at h1
  simp at h1; omega
theorem tow_len_ge (w : List α) : w.length ≤ (tow w).length := by
  refine snoc_ind (p := fun w => w.length ≤ (tow w).length) (Nat.zero_le _) (fun w x ih => ?_) w
  have := tow_len_lt w x
  simp; omega
/-- The palindromes that a tower begins with are the towers of the word's beginnings. -/
theorem tow_pp (w : List α) : ∀ r, r <+: tow w → Pal r → ∃ i, i ≤ w.length ∧ r = tow (w.take i) := by
  refine snoc_ind (p := fun w => ∀ r, r <+: tow w → Pal r → ∃ i, i ≤ w.length ∧ r = tow (w.take i)) ?_ (fun w x ih r hr hp => ?_) w
  · intro r hr _
    exact ⟨0, Nat.le_refl _, by simpa [tow] using hr⟩
  · rcases Nat.lt_or_ge (tow w).length r.length with h | h
    · refine ⟨w.length + 1, by simp, ?_⟩
      rw [List.take_of_length_le (by simp)]
      have h1 : tow w ++ [x] <+: r := List.prefix_of_prefix_length_le (tow_step w x) hr (by simp; omega)
      rw [tow_snoc] at hr ⊢
      exact clo_eq h1 hp hr.length_le
    · have h1 : r <+: tow w := List.prefix_of_prefix_length_le hr ((List.prefix_append _ _).trans (tow_step w x)) h
      obtain ⟨i, hi, e⟩ := ih r h1 hp
      exact ⟨i, by simp; omega, by rw [List.take_append_of_le_length hi]; exact e⟩
/-- A tower's letters are the word's. -/
theorem clo_mem {l : List α} {y : α} (h : y ∈ clo l) : y ∈ l := by
  unfold clo at h
  rcases List.mem_append.1 h with h | h
  · exact h
  · exact List.mem_of_mem_take (List.mem_reverse.1 h)
theorem tow_mem (w : List α) : ∀ y, y ∈ tow w → y ∈ w := by
  refine snoc_ind (p := fun w => ∀ y, y ∈ tow w → y ∈ w) (by simp [tow]) (fun w x ih y hy => ?_) w
  rw [tow_snoc] at hy
  rcases List.mem_append.1 (clo_mem hy) with h | h
  · exact List.mem_append_left _ (ih y h)
  · exact List.mem_append_right _ h

/-! ### the place at which a letter is added -/
/-- How long the longest palindrome is that the tower begins with and that the letter follows; -1: there is none. -/
def plR (x : α) : List α → Int
  | [] => -1
  | y :: v => if y = x then ((tow v.reverse).length : Int) else plR x v
def pl (x : α) (w : List α) : Int := plR x w.reverse
theorem pl_nil (x : α) : pl x ([] : List α) = -1 := rfl
theorem pl_snoc (x y : α) (w : List α) : pl x (w ++ [y]) = if y = x then ((tow w).length : Int) else pl x w := by
  simp only [pl, List.reverse_append, List.reverse_cons, List.reverse_nil, List.nil_append, List.cons_append, plR, List.reverse_reverse]
/-- Where the letter stands in the word for the last time. -/
theorem pl_cases (x : α) (w : List α) : (pl x w = -1 ∧ x ∉ w) ∨ ∃ i, ∃ h : i < w.length, w[i] = x ∧ (∀ j, ∀ h' : j < w.length, i < j → w[j] ≠ x) ∧ pl x w = ((tow (w.take i)).length : Int) := by
  refine snoc_ind (p := fun w => (pl x w = -1 ∧ x ∉ w) ∨ ∃ i, ∃ h : i < w.length, w[i] = x ∧ (∀ j, ∀ h' : j < w.length, i < j → w[j] ≠ x) ∧ pl x w = ((tow (w.take i)).length : Int)) ?_ (fun w y ih => ?_) w
  · exact .inl ⟨rfl, by simp⟩
  · rw [pl_snoc]
    by_cases hy : y = x
    · refine .inr ⟨w.length, by simp, by simpa using hy, fun j h1 h2 => ?_, ?_⟩
      · simp at h1; omega
      · rw [if_pos hy]; simp
    · rw [if_neg hy]
      rcases ih with ⟨h1, h2⟩ | ⟨i, hi, h1, h2, h3⟩
      · exact .inl ⟨h1, by simp [h2]; exact fun e => hy e.symm⟩
      · refine .inr ⟨i, by simp; omega, by rw [List.getElem_append_left hi]; exact h1, fun j hj hij => ?_, by rw [List.take_append_of_le_length (by omega)]; exact h3⟩
        rcases Nat.lt_or_ge j w.length with h | h
        · rw [List.getElem_append_left h]; exact h2 j h hij
        · have : j = w.length := by simp at hj; omega
          subst this
          simpa using hy
theorem pal_cons_snoc {x : α} {r : List α} : Pal (x :: (r ++ [x])) ↔ Pal r := by
  unfold Pal
  simp
theorem pal_suffix_of_prefix {u r : List α} (hu : Pal u) (hr : r <+: u) (hp : Pal r) : r <:+ u := by
  have := List.reverse_suffix.2 hr
  rw [hp, hu] at this
  exact this
/-- A palindromic suffix of u x. -/
theorem pal_snoc_suffix {u s : List α} {x : α} (h : s <:+ u ++ [x]) (hp : Pal s) (hn : 2 ≤ s.length) : ∃ r, s = x :: (r ++ [x]) ∧ Pal r ∧ x :: r <:+ u := by
  cases s with
  | nil => simp at hn
  | cons y s =>
    have hs : s ≠ [] := by intro e; subst e; simp at hn
    have e1 := (List.dropLast_concat_getLast hs).symm
    obtain ⟨t, ht⟩ := h
    rw [e1, ← List.cons_append, ← List.append_assoc] at ht
    obtain ⟨h2, h3⟩ := List.append_inj' ht rfl
    have hx : s.getLast hs = x := by simpa using h3
    rw [hx] at e1
    have hpy : Pal (y :: (s.dropLast ++ [x])) := by rw [← e1]; exact hp
    have hyx : x = y := by
      unfold Pal at hpy
      simp at hpy
      exact hpy.1
    subst hyx
    exact ⟨s.dropLast, by rw [← e1], pal_cons_snoc.1 hpy, ⟨t, h2⟩⟩
theorem fp_snoc (w : List α) (x : α) : (fp (tow w ++ [x]) : Int) = (tow w).length - pl x w - 1 := by
  have hp := fp_pal (tow w ++ [x])
  have hfl := fp_le (tow w ++ [x])
  have hsuf : (tow w ++ [x]).drop (fp (tow w ++ [x])) <:+ tow w ++ [x] := List.drop_suffix _ _
  have hne : fp (tow w ++ [x]) ≤ (tow w).length := fp_min _ _ (by rw [List.drop_left]; exact pal_one x)
  have hlen : ((tow w ++ [x]).drop (fp (tow w ++ [x]))).length = (tow w).length + 1 - fp (tow w ++ [x]) := by simp
  rcases pl_cases x w with ⟨h1, h2⟩ | ⟨i, hi, h1, h2, h3⟩
  · rw [h1]
    have hxu : x ∉ tow w := fun h => h2 (tow_mem w x h)
    rcases Nat.lt_or_ge (fp (tow w ++ [x])) (tow w).length with h | h
    · obtain ⟨r, h4, _, h6⟩ := pal_snoc_suffix hsuf hp (by omega)
      exact absurd (h6.subset (by simp)) hxu
    · omega
  · rw [h3]
    have hpr := tow_take_step w i hi
    rw [h1] at hpr
    have hsu : x :: tow (w.take i) <:+ tow w := by
      have := List.reverse_suffix.2 hpr
      rw [tow_pal w] at this
      simpa [show (tow (w.take i)).reverse = tow (w.take i) from tow_pal _] using this
    obtain ⟨t, ht⟩ := hsu
    have hl := congrArg List.length ht
    simp at hl
    have hup : fp (tow w ++ [x]) ≤ t.length := fp_min _ _ (by
      rw [← ht, List.append_assoc, List.drop_left]
      exact pal_cons_snoc.2 (tow_pal _))
    rcases Nat.lt_or_ge (fp (tow w ++ [x])) t.length with h | h
    · exfalso
      obtain ⟨r, h4, h5, h6⟩ := pal_snoc_suffix hsuf hp (by omega)
      have h7 : r ++ [x] <+: tow w := by
        have := List.reverse_prefix.2 h6
        rw [tow_pal w] at this
        simpa [show r.reverse = r from h5] using this
      obtain ⟨j, hj, e⟩ := tow_pp w r ((List.prefix_append _ _).trans h7) h5
      have hrl : r.length = (tow w).length + 1 - fp (tow w ++ [x]) - 2 := by rw [h4] at hlen; simp at hlen; omega
      have hij : i < j := by
        rcases Nat.lt_or_ge i j with h | h
        · exact h
        · exfalso
          have : (tow (w.take j)).length ≤ (tow (w.take i)).length := by
            rcases Nat.lt_or_eq_of_le h with h | h
            · exact Nat.le_of_lt (tow_len_take w h (by omega))
            · rw [h]; exact Nat.le_refl _
          rw [e] at hrl
          omega
      have hjw : j < w.length := by
        rcases Nat.lt_or_eq_of_le hj with h | h
        · exact h
        · exfalso
          have := h7.length_le
          rw [e, h, List.take_length] at this
          simp at this
          omega
      have h8 := tow_take_step w j hjw
      rw [e] at h7
      have h9 := List.prefix_of_prefix_length_le h7 h8 (by simp)
      have h10 := h9.eq_of_length (by simp)
      have h11 := List.append_cancel_left h10
      exact h2 j hjw hij (by simpa using h11.symm)
    · omega
theorem tow_len_snoc (w : List α) (x : α) : ((tow (w ++ [x])).length : Int) = 2 * (tow w).length - pl x w := by
  have h := fp_snoc w x
  rw [tow_snoc, clo_length]
  simp; omega
/-- How many letters b the palindrome has to which x is added. -/
def qnR (b x : α) : List α → Int
  | [] => if x = b then -1 else 0
  | y :: v => if y = x then (((tow v.reverse).count b : Nat) : Int) else qnR b x v
def qn (b x : α) (w : List α) : Int := qnR b x w.reverse
theorem qn_nil (b x : α) : qn b x ([] : List α) = if x = b then -1 else 0 := rfl
theorem qn_snoc (b x y : α) (w : List α) : qn b x (w ++ [y]) = if y = x then (((tow w).count b : Nat) : Int) else qn b x w := by
  simp only [qn, List.reverse_append, List.reverse_cons, List.reverse_nil, List.nil_append, List.cons_append, qnR, List.reverse_reverse]
theorem qn_cases (b x : α) (w : List α) : (x ∉ w ∧ qn b x w = if x = b then -1 else 0) ∨ ∃ i, ∃ h : i < w.length, w[i] = x ∧ pl x w = ((tow (w.take i)).length : Int) ∧ qn b x w = (((tow (w.take i)).count b : Nat) : Int) := by
  refine snoc_ind (p := fun w => (x ∉ w ∧ qn b x w = if x = b then -1 else 0) ∨ ∃ i, ∃ h : i < w.length, w[i] = x ∧ pl x w = ((tow (w.take i)).length : Int) ∧ qn b x w = (((tow (w.take i)).count b : Nat) : Int)) ?_ (fun w y ih => ?_) w
  · exact .inl ⟨by simp, rfl⟩
  · rw [qn_snoc, pl_snoc]
    by_cases hy : y = x
    · exact .inr ⟨w.length, by simp, by simpa using hy, by rw [if_pos hy]; simp, by rw [if_pos hy]; simp⟩
    · rw [if_neg hy, if_neg hy]
      rcases ih with ⟨h1, h2⟩ | ⟨i, hi, h1, h2, h3⟩
      · exact .inl ⟨by simp [h1]; exact fun e => hy e.symm, h2⟩
      · exact .inr ⟨i, by simp; omega, by rw [List.getElem_append_left hi]; exact h1, by rw [List.take_append_of_le_length (by omega)]; exact h2, by rw [List.take_append_of_le_length (by omega)]; exact h3⟩
theorem pl_of_not_mem {x : α} {w : List α} (h : x ∉ w) : pl x w = -1 := by
  rcases pl_cases x w with ⟨h1, _⟩ | ⟨i, hi, h1, _⟩
  · exact h1
  · exact absurd (by rw [← h1]; exact List.getElem_mem hi) h
theorem tow_count_snoc (b : α) (w : List α) (x : α) : (((tow (w ++ [x])).count b : Nat) : Int) = 2 * ((tow w).count b : Nat) - qn b x w := by
  have hf := fp_snoc w x
  have hne : fp (tow w ++ [x]) ≤ (tow w).length := fp_min _ _ (by rw [List.drop_left]; exact pal_one x)
  rw [tow_snoc, clo, List.count_append, List.count_append, List.count_reverse]
  rw [List.take_append_of_le_length hne]
  rcases qn_cases b x w with ⟨h1, h2⟩ | ⟨i, hi, h1, h2, h3⟩
  · rw [h2]
    rw [pl_of_not_mem h1] at hf
    rw [show fp (tow w ++ [x]) = (tow w).length by omega, List.take_length]
    by_cases hxb : x = b
    · rw [if_pos hxb, hxb]; simp; omega
    · rw [if_neg hxb, List.count_cons_of_ne (by simpa using hxb)]; simp; omega
  · rw [h3]
    rw [h2] at hf
    have hpr := tow_take_step w i hi
    rw [h1] at hpr
    have hsu : x :: tow (w.take i) <:+ tow w := by
      have := List.reverse_suffix.2 hpr
      rw [tow_pal w] at this
      simpa [show (tow (w.take i)).reverse = tow (w.take i) from tow_pal _] using this
    obtain ⟨t, ht⟩ := hsu
    have hl := congrArg List.length ht
    simp at hl
    have hc := congrArg (List.count b) ht
    rw [List.count_append, List.count_cons] at hc
    have e : fp (tow w ++ [x]) = t.length := by omega
    rw [e]
    have : (tow w).take t.length = t := by rw [← ht, List.take_left]
    rw [this, List.count_cons, List.count_nil]
    by_cases hxb : (x == b) = true
    · simp only [hxb, if_true] at hc ⊢; omega
    · simp only [hxb] at hc ⊢; simp at hc ⊢; omega
/-- A border gives a period. -/
theorem tow_period (x : α) (w : List α) (k : Nat) (d : Nat) (hd : (d : Int) = (tow w).length - pl x w) (hk : d ≤ k) (h : k < (tow w).length) : ∃ h2 : k - d < (tow w).length, (tow w)[k] = (tow w)[k - d] := by
  refine ⟨by omega, ?_⟩
  rcases pl_cases x w with ⟨h1, _⟩ | ⟨i, hi, _, _, h3⟩
  · omega
  · have hp := tow_take_prefix w i
    have hs := pal_suffix_of_prefix (tow_pal w) hp (tow_pal _)
    obtain ⟨t, ht⟩ := hs
    obtain ⟨r, hr⟩ := hp
    have hl := congrArg List.length ht
    simp at hl
    have e : d = t.length := by omega
    have e1 : (tow w)[k]? = (tow (w.take i))[k - d]? := by
      conv => lhs; rw [← ht]
      rw [List.getElem?_append_right (by omega), e]
    have e2 : (tow w)[k - d]? = (tow (w.take i))[k - d]? := by
      conv => lhs; rw [← hr]
      rw [List.getElem?_append_left (by omega)]
    have := e1.trans e2.symm
    rw [List.getElem?_eq_getElem h, List.getElem?_eq_getElem (by omega)] at this
    exact Option.some.inj this
/-! ### rich words -/
/-- The longest palindrome at the end. -/
def lps (l : List α) : List α := l.drop (fp l)
theorem lps_pal (l : List α) : Pal (lps l) := fp_pal l
theorem lps_suffix (l : List α) : lps l <:+ l := List.drop_suffix _ _
theorem lps_longest {l s : List α} (h : s <:+ l) (hp : Pal s) : s <:+ lps l := by
  obtain ⟨t, rfl⟩ := h
  have := fp_min (t ++ s) t.length (by rw [List.drop_left]; exact hp)
  unfold lps
  rw [List.drop_append_of_le_length this]
  exact List.suffix_append _ _
/-- At each place the longest palindrome that ends there is new. -/
def Rich (s : List α) : Prop := ∀ v c, v ++ [c] <+: s → ¬ lps (v ++ [c]) <:+: v
theorem rich_nil : Rich ([] : List α) := by
  intro v c h
  have := h.length_le
  simp at this
theorem rich_snoc {l : List α} {x : α} (h : Rich l) (hn : ¬ lps (l ++ [x]) <:+: l) : Rich (l ++ [x]) := by
  intro v c hv
  rcases Nat.lt_or_ge v.length l.length with h1 | h1
  · exact h v c (List.prefix_of_prefix_length_le hv (List.prefix_append _ _) (by simp; omega))
  · have h2 := hv.length_le
    have h3 := hv.eq_of_length (by simp at h2 ⊢; omega)
    obtain ⟨h4, h5⟩ := List.append_inj' h3 rfl
    rw [h3, h4]; exact hn
theorem rich_clo {v : List α} (h : Rich v) : Rich (clo v) := by
  intro p c hp hin
  have hfl := fp_le v
  rcases Nat.lt_or_ge p.length v.length with h1 | h1
  · exact h p c (List.prefix_of_prefix_length_le hp (clo_prefix v) (by simp; omega)) hin
  · have h2 : v <+: p ++ [c] := List.prefix_of_prefix_length_le (clo_prefix v) hp (by simp; omega)
    obtain ⟨t, ht⟩ := h2
    have htp : t <+: (v.take (fp v)).reverse := by
      rw [← ht] at hp
      unfold clo at hp
      exact (List.prefix_append_right_inj v).1 hp
    have htl := congrArg List.length ht
    simp at htl
    have htl2 := htp.length_le
    simp at htl2
    obtain ⟨f', hf'⟩ : ∃ f', v.take (fp v) = f' ++ t.reverse := by
      have := List.reverse_suffix.2 htp
      rw [List.reverse_reverse] at this
      obtain ⟨f', e⟩ := this
      exact ⟨f', e.symm⟩
    have hv : v = f' ++ t.reverse ++ lps v := by rw [← hf']; exact (List.take_append_drop _ _).symm
    have hs0 : Pal (t.reverse ++ lps v ++ t) := by
      have := lps_pal v
      unfold Pal at this ⊢
      simp [this]
    have hs1 : t.reverse ++ lps v ++ t <:+ p ++ [c] := ⟨f', by
      rw [← ht]
      conv => rhs; rw [hv]
      simp⟩
    have hs2 := ((lps_longest hs1 hs0).isInfix).trans hin
    obtain ⟨a, b, hab⟩ := hs2
    have hl := congrArg List.length hab
    have hvl := congrArg List.length hv
    simp at hl hvl
    have hne : v ≠ [] := by
      intro e
      rw [e] at htl2
      simp [fp] at htl2
      rw [htl2, e] at ht
      simp at ht
    obtain ⟨v', c', hv'⟩ : ∃ v' c', v = v' ++ [c'] := ⟨_, _, (List.dropLast_concat_getLast hne).symm⟩
    have hv'l := congrArg List.length hv'
    simp at hv'l
    have hpv : a ++ t.reverse ++ lps v <+: p := ⟨t ++ b, by rw [← hab]; simp⟩
    have hvp : v' <+: p := by
      have : v' <+: p ++ [c] := ⟨c' :: t, by rw [← ht, hv']; simp⟩
      exact List.prefix_of_prefix_length_le this (List.prefix_append _ _) (by omega)
    have h9 : a ++ t.reverse ++ lps v <+: v' := List.prefix_of_prefix_length_le hpv hvp (by simp; omega)
    have h10 : lps v <:+: v' := (List.suffix_append _ _).isInfix.trans h9.isInfix
    refine h v' c' (by rw [← hv']; exact List.prefix_refl _) ?_
    rw [← hv']; exact h10
theorem infix_of_middle {a z b T L S : List α} (h : a ++ z ++ b = T ++ L ++ S) (h1 : a.length ≤ T.length) (h2 : b.length ≤ S.length) : ∃ z1 z2, z = z1 ++ L ++ z2 ∧ a.length + z1.length = T.length ∧ b.length + z2.length = S.length := by
  have e1 : a <+: T := List.prefix_of_prefix_length_le ⟨z ++ b, by rw [← List.append_assoc]⟩ (show T <+: a ++ z ++ b from ⟨L ++ S, by rw [h, List.append_assoc]⟩) h1
  have e2 : b <:+ S := List.suffix_of_suffix_length_le ⟨a ++ z, rfl⟩ (show S <:+ a ++ z ++ b from ⟨T ++ L, h.symm⟩) h2
  obtain ⟨z1, rfl⟩ := e1
  obtain ⟨z2, rfl⟩ := e2
  refine ⟨z1, z2, ?_, by simp, by simp; omega⟩
  have h3 : a ++ (z ++ b) = a ++ (z1 ++ L ++ z2 ++ b) := by simpa [List.append_assoc] using h
  have h4 := List.append_cancel_left h3
  exact List.append_cancel_right h4
/-- The palindrome that a letter makes at the end of a tower is new. -/
theorem tow_new : ∀ (n : Nat) (w : List α) (x : α), w.length = n → ¬ lps (tow w ++ [x]) <:+: tow w := by
  intro n
  induction n using Nat.strongRecOn with
  | ind n ihn =>
    intro w x hw hin
    have hlen := fp_snoc w x
    have hlx : x ∈ lps (tow w ++ [x]) := by
      have := lps_longest (l := tow w ++ [x]) (s := [x]) (List.suffix_append _ _) (pal_one x)
      exact this.subset (by simp)
    rcases pl_cases x w with ⟨h1, h2⟩ | ⟨i, hi, h1, h2, h3⟩
    · exact h2 (tow_mem w x (hin.subset hlx))
    · obtain ⟨R, hR⟩ : ∃ R, R = tow (w.take i) := ⟨_, rfl⟩
      have hz : lps (tow w ++ [x]) = x :: (R ++ [x]) := by
        have hpr := tow_take_step w i hi
        rw [h1] at hpr
        have hsu : x :: tow (w.take i) <:+ tow w := by
          have := List.reverse_suffix.2 hpr
          rw [tow_pal w] at this
          simpa [show (tow (w.take i)).reverse = tow (w.take i) from tow_pal _] using this
        obtain ⟨t, ht⟩ := hsu
        have hl := congrArg List.length ht
        simp at hl
        rw [h3] at hlen
        unfold lps
        rw [show fp (tow w ++ [x]) = t.length by omega, ← ht, List.append_assoc, List.drop_left, hR]
        rfl
      rw [hz] at hin
      have key : ∀ k m, m = i + 1 + k → m ≤ w.length → ¬ (x :: (R ++ [x])) <:+: tow (w.take m) := by
        intro k
        induction k with
        | zero =>
          intro m hm hmw hin2
          have hm : m = i + 1 := by omega
          subst hm
          rw [take_snoc w i hi, h1, tow_snoc, ← hR] at hin2
          have hA := ihn i (by omega) (w.take i) x (by simp; omega)
          rw [← hR] at hA
          obtain ⟨a, b, hab⟩ := hin2
          have hsplit : clo (R ++ [x]) = (R ++ [x]).take (fp (R ++ [x])) ++ lps (R ++ [x]) ++ ((R ++ [x]).take (fp (R ++ [x]))).reverse := by
            unfold lps; rw [List.take_append_drop]; rfl
          have hfl := fp_le (R ++ [x])
          have hl := congrArg List.length hab
          have hcl := clo_length (R ++ [x])
          have hll : (lps (R ++ [x])).length = R.length + 1 - fp (R ++ [x]) := by simp [lps]
          simp at hl hcl hfl
          rw [hsplit] at hab
          obtain ⟨z1, z2, e, e1, e2⟩ := infix_of_middle hab (by simp; omega) (by simp; omega)
          have e3 := congrArg List.length e
          simp at e1 e2 e3
          cases z1 with
          | nil => simp at e1 e3; omega
          | cons c1 z1 =>
            rcases List.eq_nil_or_concat z2 with rfl | ⟨z2', c2, rfl⟩
            · simp at e2 e3; omega
            · rw [List.concat_eq_append] at e
              simp only [List.cons_append, List.cons.injEq] at e
              obtain ⟨_, e⟩ := e
              rw [← List.append_assoc] at e
              obtain ⟨e, _⟩ := List.append_inj' e rfl
              exact hA ⟨z1, z2', e.symm⟩
        | succ k ihk =>
          intro m hm hmw hin2
          obtain ⟨m', rfl⟩ : ∃ m', m = m' + 1 := ⟨m - 1, by omega⟩
          have hm'w : m' < w.length := by omega
          have ih2 := ihk m' (by omega) (by omega)
          have hyx : w[m'] ≠ x := h2 m' hm'w (by omega)
          rw [take_snoc w m' hm'w, tow_snoc] at hin2
          have hA := ihn m' (by omega) (w.take m') w[m'] (by simp; omega)
          have hRU : R <+: tow (w.take m') := by
            have := tow_take_prefix (w.take m') i
            rw [List.take_take, Nat.min_eq_left (by omega), ← hR] at this
            exact this
          have hUp := tow_pal (w.take m')
          have hVl := tow_len_snoc (w.take m') w[m']
          have hfs := fp_snoc (w.take m') w[m']
          rw [tow_snoc] at hVl
          obtain ⟨y, hy⟩ : ∃ y, y = w[m'] := ⟨_, rfl⟩
          obtain ⟨U, hU⟩ : ∃ U, U = tow (w.take m') := ⟨_, rfl⟩
          rw [← hy] at hin2 hA hVl hfs hyx
          rw [← hU] at hin2 hA hVl hfs hRU ih2 hUp
          obtain ⟨a, b, hab⟩ := hin2
          have hfl : fp (U ++ [y]) ≤ U.length := fp_min _ _ (by rw [List.drop_left]; exact pal_one y)
          have hcl := clo_length (U ++ [y])
          have hsplit : clo (U ++ [y]) = (U ++ [y]).take (fp (U ++ [y])) ++ lps (U ++ [y]) ++ ((U ++ [y]).take (fp (U ++ [y]))).reverse := by
            unfold lps; rw [List.take_append_drop]; rfl
          have hUV : U <+: clo (U ++ [y]) := (List.prefix_append _ _).trans (clo_prefix _)
          have hUS : U <:+ clo (U ++ [y]) := pal_suffix_of_prefix (clo_pal _) hUV hUp
          have hl := congrArg List.length hab
          simp at hl hcl
          rcases Nat.lt_or_ge (fp (U ++ [y])) a.length with c1 | c1
          · -- within the second one
            have : (x :: (R ++ [x])) ++ b <:+ clo (U ++ [y]) := ⟨a, by rw [← hab]; simp⟩
            have := List.suffix_of_suffix_length_le this hUS (by simp; omega)
            exact ih2 ((List.prefix_append _ _).isInfix.trans this.isInfix)
          rcases Nat.lt_or_ge (fp (U ++ [y])) b.length with c2 | c2
          · have : a ++ (x :: (R ++ [x])) <+: clo (U ++ [y]) := ⟨b, hab⟩
            have := List.prefix_of_prefix_length_le this hUV (by simp; omega)
            exact ih2 ((List.suffix_append _ _).isInfix.trans this.isInfix)
          · rw [hsplit] at hab
            obtain ⟨z1, z2, e, e1, e2⟩ := infix_of_middle hab (by simp; omega) (by simp; omega)
            have hLy : [y] <:+ lps (U ++ [y]) := lps_longest (List.suffix_append _ _) (pal_one y)
            have hLy2 : [y] <+: lps (U ++ [y]) := by
              have := List.reverse_prefix.2 hLy
              rw [lps_pal] at this
              exact this
            obtain ⟨L1, hL1⟩ := hLy
            obtain ⟨L2, hL2⟩ := hLy2
            cases z1 with
            | nil =>
              rw [← hL2] at e
              simp at e
              exact hyx e.1.symm
            | cons d1 z1 =>
              rcases List.eq_nil_or_concat z2 with rfl | ⟨z2', d2, rfl⟩
              · rw [← hL1] at e
                have e9 : (x :: R) ++ [x] = (d1 :: (z1 ++ L1)) ++ [y] := by simpa using e
                obtain ⟨_, e8⟩ := List.append_inj' e9 rfl
                exact hyx (by simpa using e8.symm)
              · rw [List.concat_eq_append] at e
                simp only [List.cons_append, List.cons.injEq] at e
                obtain ⟨_, e⟩ := e
                rw [← List.append_assoc] at e
                obtain ⟨e, _⟩ := List.append_inj' e rfl
                exact hA (List.IsInfix.trans ⟨z1, z2', e.symm⟩ hRU.isInfix)
      have := key (w.length - (i + 1)) w.length (by omega) (Nat.le_refl _)
      rw [List.take_length] at this
      exact this hin
theorem tow_rich (w : List α) : Rich (tow w) := by
  refine snoc_ind (p := fun w => Rich (tow w)) rich_nil (fun w x ih => ?_) w
  rw [tow_snoc]
  exact rich_clo (rich_snoc ih (tow_new _ w x rfl))
end Go.Proofs.Ytbdlhgdfnnbjiaa.Pal
