import Derived.Test.YtbdlhgdfnnbjiaaPYx1
import Derived.Test.YtbdlhgdfnnbjiaaPYx11
import Derived.Test.YtbdlhgdfnnbjiaaBPal
import Derived.Lib.Index
/-! What the references compute: palindromes, ends, richness; words. -/
namespace Go.Proofs.Ytbdlhgdfnnbjiaa.PY
open Go.RowKit Go.Proofs.YtbdlhgdfnnbjiaaW.PrintWords Go.Proofs.YtbdlhgdfnnbjiaaW.PrintLast Go.Proofs.Ytbdlhgdfnnbjiaa.Pal
/-! ### lists -/
theorem pal_half {l : List UInt8} : Pal l ↔ ∀ j, j < l.length / 2 → l[j]? = l[l.length - 1 - j]? := by
  constructor
  · intro h j hj
    have hr : l.reverse = l := h
    have : l.reverse[j]? = l[l.length - 1 - j]? := List.getElem?_reverse (by omega)
    rw [hr] at this
    exact this
  · intro h
    refine List.ext_getElem? (fun j => ?_)
    by_cases hj : j < l.length
    · rw [List.getElem?_reverse hj]
      by_cases h1 : j < l.length / 2
      · exact (h j h1).symm
      · by_cases h2 : l.length - 1 - j < l.length / 2
        · have := h _ h2
          rw [this]
          congr 1
          omega
        · congr 1
          omega
    · rw [List.getElem?_eq_none (by simpa using hj), List.getElem?_eq_none (by omega)]
theorem index_le : ∀ (s sub : List UInt8) (i : Nat), i ≤ s.length → Lib.occAt s sub i = true → 0 ≤ Lib.index s sub ∧ Lib.index s sub ≤ i
  | [], sub, i, hi, h => by
    obtain rfl : i = 0 := by simpa using hi
    cases sub with
    | nil => simp [Lib.index]
    | cons x t => simp [Lib.occAt] at h
  | b :: l, sub, i, hi, h => by
    unfold Lib.index
    by_cases c : sub.isPrefixOf (b :: l) = true
    · rw [if_pos c]; omega
    · rw [if_neg c]
      cases i with
      | zero => exact absurd h c
      | succ i =>
        obtain ⟨h1, h2⟩ := index_le l sub i (by simpa using hi) h
        have : ¬ (Lib.index l sub == -1) = true := by simp; omega
        rw [if_neg this]; omega
theorem index_occ : ∀ (s sub : List UInt8) (i : Nat), Lib.index s sub = i → Lib.occAt s sub i = true
  | [], sub, i, h => by
    unfold Lib.index at h
    split at h
    · rename_i c
      obtain rfl : i = 0 := by omega
      cases sub with
      | nil => rfl
      | cons x t => simp at c
    · omega
  | b :: l, sub, i, h => by
    unfold Lib.index at h
    split at h
    · rename_i c
      obtain rfl : i = 0 := by omega
      exact c
    · split at h
      · omega
      · rename_i c c2
        have c3 : Lib.index l sub ≠ -1 := by simpa using c2
        have := Lib.index_ge l sub
        cases i with
        | zero => omega
        | succ i => exact index_occ l sub i (by omega)
/-- An instance of the last longest palindrome that begins earlier lies in what stands before it. -/
theorem index_lt {l : List UInt8} {i f : Nat} (hi : i < l.length) (hf : f ≤ i) : Lib.index l ((l.take (i + 1)).drop f) < f ↔ (l.take (i + 1)).drop f <:+: l.take i := by
  have hul : ((l.take (i + 1)).drop f).length = i + 1 - f := by rw [List.length_drop, List.length_take]; omega
  constructor
  · intro h
    have hself : Lib.occAt l ((l.take (i + 1)).drop f) f = true := by
      unfold Lib.occAt
      rw [List.isPrefixOf_iff_prefix]
      rw [List.drop_take]
      exact List.take_prefix _ _
    obtain ⟨h0, _⟩ := index_le _ _ f (by omega) hself
    obtain ⟨x, hx⟩ := Int.eq_ofNat_of_zero_le h0
    have hocc := index_occ _ _ x hx
    rw [hx] at h
    unfold Lib.occAt at hocc
    rw [List.isPrefixOf_iff_prefix, List.prefix_iff_eq_take, hul] at hocc
    rw [hocc]
    have e : (l.drop x).take (i + 1 - f) = ((l.take i).drop x).take (i + 1 - f) := by
      rw [List.drop_take, List.take_take]
      congr 1
      omega
    rw [e]
    exact (List.take_prefix _ _).isInfix.trans (List.drop_suffix _ _).isInfix
  · rintro ⟨a, b, h⟩
    have hl := congrArg List.length h
    rw [List.length_append, List.length_append, hul, List.length_take] at hl
    have hocc : Lib.occAt l ((l.take (i + 1)).drop f) a.length = true := by
      unfold Lib.occAt
      rw [List.isPrefixOf_iff_prefix]
      have : l = a ++ ((l.take (i + 1)).drop f ++ (b ++ l.drop i)) := by
        rw [← List.append_assoc, ← List.append_assoc, h]
        exact (List.take_append_drop i l).symm
      have h2 := congrArg (List.drop a.length) this
      rw [List.drop_left] at h2
      rw [h2]
      exact List.prefix_append _ _
    have := (index_le _ _ a.length (by omega) hocc).2
    omega
/-- What Ends answers. -/
def endsL (l : List UInt8) : List Int := (List.range l.length).map fun i => ((i + 1 : Nat) : Int) - fp (l.take (i + 1))
/-- What Rich answers. -/
def richL (l : List UInt8) : Nat → Nat → Int
  | 0, _ => -1
  | n + 1, i => if lps (l.take (i + 1)) <:+: l.take i then (i : Int) else richL l n (i + 1)
/-! ### the references -/
theorem rpal_loop {s : ByteArray} (hs : s.size ≤ 1000000) : ∀ n i : Nat, s.size / 2 = i + n → Ev (fun k => galloonref01_Palindrome.l0 k s i) (decide (∀ j, j < (L s).length / 2 → i ≤ j → (L s)[j]? = (L s)[(L s).length - 1 - j]?))
  | 0, i, h => by
    have hw : wrap64 ((s.size : Int) / 2) = ((s.size / 2 : Nat) : Int) := by rw [w64 (by omega)]; omega
    refine Ev.step (f := fun _ => some true) (fun k => ?_) ?_
    · simp only [galloonref01_Palindrome.l0]; rw [hw, if_neg (by omega)]
    · refine Ev.to (Ev.now _) ?_
      symm
      rw [decide_eq_true_iff]
      intro j hj hij
      rw [L_size] at hj
      omega
  | n + 1, i, h => by
    have hw : wrap64 ((s.size : Int) / 2) = ((s.size / 2 : Nat) : Int) := by rw [w64 (by omega)]; omega
    have hw1 : wrap64 (wrap64 ((s.size : Int) - 1) - i) = ((s.size - 1 - i : Nat) : Int) := by rw [w64 (n := (s.size : Int) - 1) (by omega), w64 (by omega)]; omega
    have hw2 : wrap64 ((i : Int) + 1) = ((i + 1 : Nat) : Int) := by rw [w64 (by omega)]; rfl
    have h1 : i < (L s).length := by rw [L_size]; omega
    have h2 : s.size - 1 - i < (L s).length := by rw [L_size]; omega
    have hb1 := bt_L h1
    have hb2 := bt_L h2
    by_cases c : (L s)[i] = (L s)[s.size - 1 - i]
    · refine Ev.step (f := fun k => galloonref01_Palindrome.l0 k s ((i + 1 : Nat) : Int)) (fun k => ?_) (Ev.to (rpal_loop hs n (i + 1) (by omega)) ?_)
      · simp only [galloonref01_Palindrome.l0]
        rw [hw, hw1, if_pos (by omega), if_pos (by omega), if_pos (by omega), if_pos (by omega), if_pos (by omega), hb1, hb2, if_pos (by rw [c]), hw2]
      · rw [Bool.eq_iff_iff, decide_eq_true_iff, decide_eq_true_iff]
        constructor
        · intro hh j hj hij
          by_cases e : j = i
          · subst e
            rw [L_size, List.getElem?_eq_getElem h1, List.getElem?_eq_getElem h2, c]
          · exact hh j hj (by omega)
        · intro hh j hj hij
          exact hh j hj (by omega)
    · refine Ev.step (f := fun _ => some false) (fun k => ?_) (Ev.to (Ev.now _) ?_)
      · simp only [galloonref01_Palindrome.l0]
        rw [hw, hw1, if_pos (by omega), if_pos (by omega), if_pos (by omega), if_pos (by omega), if_pos (by omega), hb1, hb2, if_neg]
        intro e
        exact c (UInt8.toNat_inj.1 (by omega))
      · symm
        rw [decide_eq_false_iff_not]
        intro hh
        have := hh i (by rw [L_size]; omega) (Nat.le_refl _)
        rw [L_size, List.getElem?_eq_getElem h1, List.getElem?_eq_getElem h2] at this
        exact c (Option.some.inj this)
theorem rpal_ev {s : ByteArray} (hs : s.size ≤ 1000000) : Ev (fun k => galloonref01_Palindrome.f k s) (decide (Pal (L s))) := by
  refine Ev.to (rpal_loop hs (s.size / 2) 0 (by omega)) ?_
  rw [Bool.eq_iff_iff, decide_eq_true_iff, decide_eq_true_iff, pal_half]
  exact ⟨fun h j hj => h j hj (Nat.zero_le _), fun h j hj _ => h j hj⟩
theorem rends_l1 {s : ByteArray} (hs : s.size ≤ 100000) (R : List Int) (x3 : List Int) (hx : x3.length ≤ 100000) (x4 : Nat) (h4 : x4 ≤ s.size) : ∀ n j : Nat, j + n = x4 →
    Ev (fun k => galloonref01_Ends.l0 k s (x3 ++ [(n : Int) - fp (((L s).take x4).drop j)]) ((x4 + 1 : Nat) : Int)) R → Ev (fun k => galloonref01_Ends.l1 k s x3 x4 j) R
  | n, j, h, hE => by
    have hx1 : L (s.extract (j : Int).toNat (x4 : Int).toNat) = ((L s).take x4).drop j := by
      rw [L_extract, Int.toNat_natCast, Int.toNat_natCast, List.drop_take]
    have hp : Ev (fun k => galloonref01_Palindrome.f k (s.extract (j : Int).toNat (x4 : Int).toNat)) (decide (Pal (((L s).take x4).drop j))) := by
      rw [← hx1]; exact rpal_ev (by rw [ByteArray.size_extract]; omega)
    have hw2 : wrap64 ((j : Int) + 1) = ((j + 1 : Nat) : Int) := by rw [w64 (by omega)]; rfl
    have hw3 : wrap64 ((x4 : Int) + 1) = ((x4 + 1 : Nat) : Int) := by rw [w64 (by omega)]; rfl
    have hw4 : wrap64 ((x4 : Int) - j) = n := by rw [w64 (by omega)]; omega
    refine Ev.step (f := fun k => (galloonref01_Palindrome.f k (s.extract (j : Int).toNat (x4 : Int).toNat)).bind fun t => if t = true then galloonref01_Ends.l0 k s (x3 ++ [(n : Int)]) ((x4 + 1 : Nat) : Int) else galloonref01_Ends.l1 k s x3 x4 ((j + 1 : Nat) : Int)) (fun k => ?_) (Ev.bind hp ?_)
    · simp only [galloonref01_Ends.l1]
      rw [if_pos (by omega), if_pos (by omega), if_pos (by omega), hw2, hw3, hw4]
      simp only [if_pos (show x3.length < 17592186044416 by omega)]
    · by_cases c : Pal (((L s).take x4).drop j)
      · have hf : fp (((L s).take x4).drop j) = 0 := Nat.le_zero.1 (fp_min _ 0 (by simpa using c))
        rw [hf] at hE
        refine Ev.congr (f := fun k => galloonref01_Ends.l0 k s (x3 ++ [(n : Int)]) ((x4 + 1 : Nat) : Int)) (fun k => if_pos (by simpa using c)) ?_
        simpa using hE
      · refine Ev.congr (f := fun k => galloonref01_Ends.l1 k s x3 x4 ((j + 1 : Nat) : Int)) (fun k => if_neg (by simpa using c)) ?_
        cases n with
        | zero =>
          have : ((L s).take x4).drop j = [] := List.drop_of_length_le (by rw [List.length_take, L_size]; omega)
          rw [this] at c
          exact absurd rfl c
        | succ n =>
          have hd : ((L s).take x4).drop j = ((L s).take x4)[j]'(by rw [List.length_take, L_size]; omega) :: ((L s).take x4).drop (j + 1) := List.drop_eq_getElem_cons (by rw [List.length_take, L_size]; omega)
          have hf : fp (((L s).take x4).drop j) = fp (((L s).take x4).drop (j + 1)) + 1 := by
            rw [hd] at c ⊢
            conv => lhs; unfold fp
            rw [if_neg c]
          refine rends_l1 hs R x3 hx x4 h4 n (j + 1) (by omega) ?_
          rw [hf] at hE
          have e : ((n + 1 : Nat) : Int) - ((fp (((L s).take x4).drop (j + 1)) + 1 : Nat) : Int) = (n : Int) - fp (((L s).take x4).drop (j + 1)) := by omega
          rw [e] at hE
          exact hE
theorem rends_loop {s : ByteArray} (hs : s.size ≤ 100000) : ∀ n i : Nat, i + n = s.size → Ev (fun k => galloonref01_Ends.l0 k s ((endsL (L s)).take i) ((i + 1 : Nat) : Int)) (endsL (L s))
  | 0, i, h => by
    refine Ev.step (f := fun _ => some ((endsL (L s)).take i)) (fun k => ?_) (Ev.to (Ev.now _) ?_)
    · simp only [galloonref01_Ends.l0]; rw [if_neg (by omega)]
    · refine List.take_of_length_le ?_
      simp [endsL, L_size]; omega
  | n + 1, i, h => by
    have hl : (endsL (L s)).length = s.size := by simp [endsL, L_size]
    have hi : i < (endsL (L s)).length := by omega
    have hn : (endsL (L s)).take (i + 1) = (endsL (L s)).take i ++ [((i + 1 : Nat) : Int) - fp (((L s).take (i + 1)).drop 0)] := by
      rw [List.take_add_one, List.getElem?_eq_getElem hi]
      simp [endsL]
    refine Ev.step (f := fun k => galloonref01_Ends.l1 k s ((endsL (L s)).take i) ((i + 1 : Nat) : Int) ((0 : Nat) : Int)) (fun k => ?_) ?_
    · simp only [galloonref01_Ends.l0]; rw [if_pos (by omega)]; rfl
    · refine rends_l1 hs _ _ (by rw [List.length_take]; omega) (i + 1) (by omega) (i + 1) 0 (by omega) ?_
      rw [← hn]
      exact rends_loop hs n (i + 1) (by omega)
theorem rends_ev {s : ByteArray} (hs : s.size ≤ 100000) : Ev (fun k => galloonref01_Ends.f k s) (endsL (L s)) := by
  have := rends_loop hs s.size 0 (by omega)
  simpa [galloonref01_Ends.f] using this
theorem occurs_loop {P U : ByteArray} (hP : P.size ≤ 1000000) (hU : U.size ≤ 1000000) : ∀ n x : Nat, (x + U.size + n = P.size + 1 ∨ (n = 0 ∧ P.size < x + U.size ∧ x ≤ 1000000)) → Ev (fun k => galloonref01_occurs.l0 k P U x) (decide (∃ j, j < P.size + 1 ∧ x ≤ j ∧ ((L P).drop j).take U.size = L U ∧ j + U.size ≤ P.size))
  | 0, x, h => by
    have hw : wrap64 ((x : Int) + U.size) = ((x + U.size : Nat) : Int) := by rw [w64 (by omega)]; rfl
    refine Ev.step (f := fun _ => some false) (fun k => ?_) (Ev.to (Ev.now _) ?_)
    · simp only [galloonref01_occurs.l0]; rw [hw, if_neg (by omega)]
    · symm
      rw [decide_eq_false_iff_not]
      rintro ⟨j, _, h1, _, h2⟩
      omega
  | n + 1, x, h => by
    have h : x + U.size + (n + 1) = P.size + 1 := by omega
    have hw : wrap64 ((x : Int) + U.size) = ((x + U.size : Nat) : Int) := by rw [w64 (by omega)]; rfl
    have hw2 : wrap64 ((x : Int) + 1) = ((x + 1 : Nat) : Int) := by rw [w64 (by omega)]; rfl
    have hx : (P.extract (x : Int).toNat ((x + U.size : Nat) : Int).toNat).toList = ((L P).drop x).take U.size := by
      rw [toList_L, L_extract, Int.toNat_natCast, Int.toNat_natCast]
      congr 1
      omega
    by_cases c : ((L P).drop x).take U.size = L U
    · refine Ev.step (f := fun _ => some true) (fun k => ?_) (Ev.to (Ev.now _) ?_)
      · simp only [galloonref01_occurs.l0]
        rw [hw, if_pos (by omega), if_pos (by omega), if_pos (by omega), hx, toList_L, if_pos c]
      · symm
        rw [decide_eq_true_iff]
        exact ⟨x, by omega, Nat.le_refl _, c, by omega⟩
    · refine Ev.step (f := fun k => galloonref01_occurs.l0 k P U ((x + 1 : Nat) : Int)) (fun k => ?_) (Ev.to (occurs_loop hP hU n (x + 1) (by omega)) ?_)
      · simp only [galloonref01_occurs.l0]
        rw [hw, if_pos (by omega), if_pos (by omega), if_pos (by omega), hx, toList_L, if_neg c, hw2]
      · rw [Bool.eq_iff_iff, decide_eq_true_iff, decide_eq_true_iff]
        constructor
        · rintro ⟨j, h0, h1, h2⟩
          exact ⟨j, h0, by omega, h2⟩
        · rintro ⟨j, h0, h1, h2⟩
          refine ⟨j, h0, ?_, h2⟩
          by_cases e : j = x
          · subst e; exact absurd h2.1 c
          · omega
theorem occurs_ev {P U : ByteArray} (hP : P.size ≤ 1000000) (hU : U.size ≤ 1000000) : Ev (fun k => galloonref01_occurs.f k P U) (decide (L U <:+: L P)) := by
  have h := occurs_loop hP hU (P.size + 1 - U.size) 0 (by omega)
  refine Ev.to h ?_
  rw [Bool.eq_iff_iff, decide_eq_true_iff, decide_eq_true_iff]
  constructor
  · rintro ⟨j, _, _, h1, _⟩
    rw [← h1]
    exact (List.take_prefix _ _).isInfix.trans (List.drop_suffix _ _).isInfix
  · rintro ⟨a, b, h1⟩
    have hl := congrArg List.length h1
    rw [List.length_append, List.length_append, L_size, L_size] at hl
    refine ⟨a.length, by omega, Nat.zero_le _, ?_, by omega⟩
    rw [← h1, List.append_assoc, List.drop_left, ← L_size, List.take_left]
theorem rrich_loop {s : ByteArray} (hs : s.size ≤ 1000) : ∀ n i : Nat, i + n = s.size → Ev (fun k => galloonref01_Rich.l0 k s (endsL (L s)) i) (richL (L s) n i)
  | 0, i, h => by
    refine Ev.step (f := fun _ => some (-1)) (fun k => ?_) (Ev.now _)
    simp only [galloonref01_Rich.l0]; rw [if_neg (by omega)]
  | n + 1, i, h => by
    have hl : (endsL (L s)).length = s.size := by simp [endsL, L_size]
    have hfp := fp_le ((L s).take (i + 1))
    rw [List.length_take, L_size] at hfp
    have hf1 : fp ((L s).take (i + 1)) ≤ i := by
      have ht : (L s).take (i + 1) = (L s)[0]'(by rw [L_size]; omega) :: ((L s).take (i + 1)).drop 1 := by
        have := List.drop_eq_getElem_cons (l := (L s).take (i + 1)) (i := 0) (by rw [List.length_take, L_size]; omega)
        simpa using this
      have := fp_lt ((L s)[0]'(by rw [L_size]; omega)) (((L s).take (i + 1)).drop 1)
      rw [← ht, List.length_drop, List.length_take, L_size] at this
      omega
    have hrd : rd (endsL (L s)) i = ((i + 1 : Nat) : Int) - fp ((L s).take (i + 1)) := by
      have hi : i < (endsL (L s)).length := by omega
      simp [rd, hi]
      simp [endsL]
    have hw2 : wrap64 ((i : Int) + 1) = ((i + 1 : Nat) : Int) := by rw [w64 (by omega)]; rfl
    have hw3 : wrap64 (((i + 1 : Nat) : Int) - (((i + 1 : Nat) : Int) - fp ((L s).take (i + 1)))) = (fp ((L s).take (i + 1)) : Int) := by rw [w64 (by omega)]; omega
    have hx1 : L (s.extract 0 (i : Int).toNat) = (L s).take i := by rw [L_extract]; simp
    have hx2 : L (s.extract ((fp ((L s).take (i + 1)) : Nat) : Int).toNat (((i + 1 : Nat) : Nat) : Int).toNat) = lps ((L s).take (i + 1)) := by
      rw [L_extract, Int.toNat_natCast, Int.toNat_natCast, ← List.drop_take]; rfl
    have ho : Ev (fun k => galloonref01_occurs.f k (s.extract 0 (i : Int).toNat) (s.extract ((fp ((L s).take (i + 1)) : Nat) : Int).toNat (((i + 1 : Nat) : Nat) : Int).toNat)) (decide (lps ((L s).take (i + 1)) <:+: (L s).take i)) := by
      have := occurs_ev (P := s.extract 0 (i : Int).toNat) (U := s.extract ((fp ((L s).take (i + 1)) : Nat) : Int).toNat (((i + 1 : Nat) : Nat) : Int).toNat) (by rw [ByteArray.size_extract]; omega) (by rw [ByteArray.size_extract]; omega)
      rw [hx1, hx2] at this
      exact this
    refine Ev.step (f := fun k => (galloonref01_occurs.f k (s.extract 0 (i : Int).toNat) (s.extract ((fp ((L s).take (i + 1)) : Nat) : Int).toNat (((i + 1 : Nat) : Nat) : Int).toNat)).bind fun t => if t = true then some (i : Int) else galloonref01_Rich.l0 k s (endsL (L s)) ((i + 1 : Nat) : Int)) (fun k => ?_) (Ev.bind ho ?_)
    · simp only [galloonref01_Rich.l0]
      rw [hrd, hw2, hw3, if_pos (by omega), if_pos (by omega), if_pos (by omega), if_pos (by omega), if_pos (by omega), if_pos (by omega), if_pos (by omega)]
    · by_cases c : lps ((L s).take (i + 1)) <:+: (L s).take i
      · refine Ev.ite_true (by simpa using c) (Ev.to (Ev.now _) ?_)
        simp [richL, c]
      · refine Ev.ite_false (by simpa using c) (Ev.to (rrich_loop hs n (i + 1) (by omega)) ?_)
        simp [richL, c]
theorem rrich_ev {s : ByteArray} (hs : s.size ≤ 1000) : Ev (fun k => galloonref01_Rich.f k s) (richL (L s) s.size 0) :=
  Ev.bind (rends_ev (by omega)) (rrich_loop hs s.size 0 (by omega))
theorem rword_loop {s : ByteArray} (hs : s.size ≤ 1000000) : ∀ n i : Nat, i + n = s.size → Ev (fun k => galloonref01_Word.l0 k s i) (decide (s.size ≤ 100 ∧ ∀ c ∈ (L s).drop i, 97 ≤ c.toNat ∧ c.toNat ≤ 100))
  | 0, i, h => by
    refine Ev.step (f := fun _ => some (decide ((s.size : Int) ≤ 100))) (fun k => ?_) (Ev.to (Ev.now _) ?_)
    · simp only [galloonref01_Word.l0]; rw [if_neg (by omega)]
    · have : (L s).drop i = [] := List.drop_of_length_le (by rw [L_size]; omega)
      rw [this, Bool.eq_iff_iff, decide_eq_true_iff, decide_eq_true_iff]
      simp; omega
  | n + 1, i, h => by
    have h1 : i < (L s).length := by rw [L_size]; omega
    have hb1 := bt_L h1
    have hd : (L s).drop i = (L s)[i] :: (L s).drop (i + 1) := List.drop_eq_getElem_cons h1
    have hw2 : wrap64 ((i : Int) + 1) = ((i + 1 : Nat) : Int) := by rw [w64 (by omega)]; rfl
    by_cases c1 : ((L s)[i].toNat : Int) < 97
    · refine Ev.step (f := fun _ => some false) (fun k => ?_) (Ev.to (Ev.now _) ?_)
      · simp only [galloonref01_Word.l0]; rw [if_pos (by omega), if_pos (by omega), hb1, if_pos c1]
      · symm; rw [decide_eq_false_iff_not, hd]; rintro ⟨_, hh⟩; have := hh _ (List.mem_cons_self ..); omega
    · by_cases c2 : ((L s)[i].toNat : Int) > 100
      · refine Ev.step (f := fun _ => some false) (fun k => ?_) (Ev.to (Ev.now _) ?_)
        · simp only [galloonref01_Word.l0]; rw [if_pos (by omega), if_pos (by omega), hb1, if_neg c1, if_pos c2]
        · symm; rw [decide_eq_false_iff_not, hd]; rintro ⟨_, hh⟩; have := hh _ (List.mem_cons_self ..); omega
      · refine Ev.step (f := fun k => galloonref01_Word.l0 k s ((i + 1 : Nat) : Int)) (fun k => ?_) (Ev.to (rword_loop hs n (i + 1) (by omega)) ?_)
        · simp only [galloonref01_Word.l0]; rw [if_pos (by omega), if_pos (by omega), hb1, if_neg c1, if_neg c2, hw2]
        · rw [Bool.eq_iff_iff, decide_eq_true_iff, decide_eq_true_iff, hd]
          refine and_congr_right fun _ => ⟨fun hh c hc => ?_, fun hh c hc => hh c (List.mem_cons_of_mem _ hc)⟩
          rcases List.mem_cons.1 hc with rfl | hc
          · omega
          · exact hh c hc
theorem rword_ev {s : ByteArray} (hs : s.size ≤ 1000000) : Ev (fun k => galloonref01_Word.f k s) (decide (s.size ≤ 100 ∧ ∀ c ∈ L s, 97 ≤ c.toNat ∧ c.toNat ≤ 100)) := by
  have := rword_loop hs s.size 0 (by omega)
  simpa [galloonref01_Word.f] using this
theorem ints_loop {l : List Int} (hl : l.length ≤ 1000000000) : ∀ n i : Nat, i + n = l.length → Ev (fun k => galloonlaw01_ints.l0 k l l i) true
  | 0, i, h => by
    refine Ev.step (f := fun _ => some true) (fun k => ?_) (Ev.now _)
    simp only [galloonlaw01_ints.l0]; rw [if_neg (by omega)]
  | n + 1, i, h => by
    have hw2 : wrap64 ((i : Int) + 1) = ((i + 1 : Nat) : Int) := by rw [w64 (by omega)]; rfl
    refine Ev.step (f := fun k => galloonlaw01_ints.l0 k l l ((i + 1 : Nat) : Int)) (fun k => ?_) (ints_loop hl n (i + 1) (by omega))
    simp only [galloonlaw01_ints.l0]; rw [if_pos (by omega), if_pos (by omega), if_pos (by omega), if_pos trivial, hw2]
theorem ints_ev {l : List Int} (hl : l.length ≤ 1000000000) : Ev (fun k => galloonlaw01_ints.f k l l) true := by
  unfold galloonlaw01_ints.f
  exact Ev.ite_true rfl (ints_loop hl l.length 0 (by omega))
/-! ### the package -/
theorem ends_loop {s : ByteArray} (hs : s.size ≤ 1000) : ∀ n i : Nat, i + n = s.size → Ev (fun k => trim_Ends.l0 k s ((endsL (L s)).take i) s.size i) (endsL (L s), 0)
  | 0, i, h => by
    refine Ev.step (f := fun _ => some ((endsL (L s)).take i, 0)) (fun k => ?_) (Ev.to (Ev.now _) ?_)
    · simp only [trim_Ends.l0]; rw [if_neg (by omega)]
    · rw [List.take_of_length_le]
      simp [endsL, L_size]; omega
  | n + 1, i, h => by
    have hl : (endsL (L s)).length = s.size := by simp [endsL, L_size]
    have hi : i < (endsL (L s)).length := by omega
    have hn : (endsL (L s)).take (i + 1) = (endsL (L s)).take i ++ [((i + 1 : Nat) : Int) - fp ((L s).take (i + 1))] := by
      rw [List.take_add_one, List.getElem?_eq_getElem hi]
      simp [endsL]
    have hw2 : wrap64 ((i : Int) + 1) = ((i + 1 : Nat) : Int) := by rw [w64 (by omega)]; rfl
    have he : Ev (fun k => trim_end.f k (s.extract 0 ((i + 1 : Nat) : Int).toNat)) (((i + 1 : Nat) : Int) - fp ((L s).take (i + 1))) := by
      have := end_ev (s := s.extract 0 ((i + 1 : Nat) : Int).toNat) (by rw [ByteArray.size_extract]; omega)
      rw [Int.toNat_natCast, L_to, ByteArray.size_extract, show min (i + 1) s.size - 0 = i + 1 by omega] at this
      rw [Int.toNat_natCast]
      exact this
    have hlt : ((endsL (L s)).take i).length < 17592186044416 := by rw [List.length_take]; omega
    refine Ev.step (f := fun k => (trim_end.f k (s.extract 0 ((i + 1 : Nat) : Int).toNat)).bind fun t => trim_Ends.l0 k s ((endsL (L s)).take i ++ [t]) s.size ((i + 1 : Nat) : Int)) (fun k => ?_) (Ev.bind he ?_)
    · simp only [trim_Ends.l0]
      rw [if_pos (by omega), hw2, if_pos (by omega), if_pos (by omega)]
      simp only [if_pos hlt]
    · rw [← hn]
      exact ends_loop hs n (i + 1) (by omega)
theorem rich_loop {s : ByteArray} (hs : s.size ≤ 1000) : ∀ n i : Nat, i + n = s.size → Ev (fun k => trim_Rich.l0 k s s.size i) (richL (L s) n i, 0)
  | 0, i, h => by
    refine Ev.step (f := fun _ => some (-1, 0)) (fun k => ?_) (Ev.now _)
    simp only [trim_Rich.l0]; rw [if_neg (by omega)]
  | n + 1, i, h => by
    have hfp := fp_le ((L s).take (i + 1))
    rw [List.length_take, L_size] at hfp
    have hf1 : fp ((L s).take (i + 1)) ≤ i := by
      have ht : (L s).take (i + 1) = (L s)[0]'(by rw [L_size]; omega) :: ((L s).take (i + 1)).drop 1 := by
        have := List.drop_eq_getElem_cons (l := (L s).take (i + 1)) (i := 0) (by rw [List.length_take, L_size]; omega)
        simpa using this
      have := fp_lt ((L s)[0]'(by rw [L_size]; omega)) (((L s).take (i + 1)).drop 1)
      rw [← ht, List.length_drop, List.length_take, L_size] at this
      omega
    have hw2 : wrap64 ((i : Int) + 1) = ((i + 1 : Nat) : Int) := by rw [w64 (by omega)]; rfl
    have hw3 : wrap64 (((i + 1 : Nat) : Int) - (((i + 1 : Nat) : Int) - fp ((L s).take (i + 1)))) = (fp ((L s).take (i + 1)) : Int) := by rw [w64 (by omega)]; omega
    have he : Ev (fun k => trim_end.f k (s.extract 0 ((i + 1 : Nat) : Int).toNat)) (((i + 1 : Nat) : Int) - fp ((L s).take (i + 1))) := by
      have := end_ev (s := s.extract 0 ((i + 1 : Nat) : Int).toNat) (by rw [ByteArray.size_extract]; omega)
      rw [Int.toNat_natCast, L_to, ByteArray.size_extract, show min (i + 1) s.size - 0 = i + 1 by omega] at this
      rw [Int.toNat_natCast]
      exact this
    have hidx : strings_Index.f s (s.extract ((fp ((L s).take (i + 1)) : Nat) : Int).toNat ((i + 1 : Nat) : Int).toNat) = some (Lib.index (L s) (((L s).take (i + 1)).drop (fp ((L s).take (i + 1))))) := by
      unfold strings_Index.f
      rw [if_pos (by omega)]
      congr 2
      show L _ = _
      rw [L_extract, Int.toNat_natCast, Int.toNat_natCast, ← List.drop_take]
    have hlt := index_lt (l := L s) (i := i) (by rw [L_size]; omega) hf1
    refine Ev.step (f := fun k => (trim_end.f k (s.extract 0 ((i + 1 : Nat) : Int).toNat)).bind fun t => (if 0 ≤ (wrap64 (((i + 1 : Nat) : Int) - t)) then (if (wrap64 (((i + 1 : Nat) : Int) - t)) ≤ ((i + 1 : Nat) : Int) then ((strings_Index.f s (s.extract ((wrap64 (((i + 1 : Nat) : Int) - t)) : Int).toNat (((i + 1 : Nat) : Int)).toNat)).bind fun t116 => (if t116 < (wrap64 (((i + 1 : Nat) : Int) - t)) then (some ((i : Int), 0)) else (trim_Rich.l0 k s s.size ((i + 1 : Nat) : Int)))) else (none)) else (none))) (fun k => ?_) (Ev.bind he ?_)
    · simp only [trim_Rich.l0]
      rw [if_pos (by omega), hw2, if_pos (by omega), if_pos (by omega)]
    · rw [hw3]
      refine Ev.ite_true (by omega) (Ev.ite_true (by omega) ?_)
      rw [hidx]
      simp only [Option.bind_some]
      by_cases c : lps ((L s).take (i + 1)) <:+: (L s).take i
      · refine Ev.ite_true (hlt.2 c) (Ev.to (Ev.now _) ?_)
        simp [richL, c]
      · refine Ev.ite_false (fun e => c (hlt.1 e)) (Ev.to (rich_loop hs n (i + 1) (by omega)) ?_)
        simp [richL, c]
theorem awake_ev : Ev (fun k => galloonlaw01_awake.f k) true := Ev.of galloonlaw01_awake.mono (k := 60) (by decide +kernel)
theorem short_ev (a : ByteArray) : ∃ t, galloonlaw01_short.f a = some t ∧ t.size ≤ 101 := by
  unfold galloonlaw01_short.f mn
  refine ⟨_, by rw [if_pos (by split <;> omega), if_pos (by split <;> omega)], ?_⟩
  rw [ByteArray.size_extract]
  split <;> omega
end Go.Proofs.Ytbdlhgdfnnbjiaa.PY
