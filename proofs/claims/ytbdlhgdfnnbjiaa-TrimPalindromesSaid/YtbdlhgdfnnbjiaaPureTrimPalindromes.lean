import Derived.Test.YtbdlhgdfnnbjiaaPYx1
import Derived.Test.YtbdlhgdfnnbjiaaPYx11
import Derived.Test.YtbdlhgdfnnbjiaaPYx20
import Derived.Test.YtbdlhgdfnnbjiaaPYx22
import Derived.Test.YtbdlhgdfnnbjiaaGPalindromes
import Derived.Test.YtbdlhgdfnnbjiaaBPal
import Derived.Sort.Walk0
import Derived.Lib.Index
set_option linter.unusedVariables false
/-! What the references compute: palindromes, ends, richness; words. -/
namespace Go.Proofs.Ytbdlhgdfnnbjiaa.PY
open Go.RowKit Go.Proofs.YtbdlhgdfnnbjiaaW.PrintWords Go.Proofs.YtbdlhgdfnnbjiaaW.PrintLast Go.Proofs.Ytbdlhgdfnnbjiaa.Pal
/-! ### lists -/
theorem pal_half {l : List UInt8} : Pal l ↔ ∀ j, j < l.length / 2 → l[j]? = l[l.length - 1 - j]? := by
  constructor
  · intro h j hj
    have hr : l.reverse = l := h
    have : l.reverse[j]? = l[l.length - 1 - j]? := List.getElem?_reverse (by omega)
    rw [hr] at this
    exact this
  · intro h
    refine List.ext_getElem? (fun j => ?_)
    by_cases hj : j < l.length
    · rw [List.getElem?_reverse hj]
      by_cases h1 : j < l.length / 2
      · exact (h j h1).symm
      · by_cases h2 : l.length - 1 - j < l.length / 2
        · have := h _ h2
          rw [this]
          congr 1
          omega
        · congr 1
          omega
    · rw [List.getElem?_eq_none (by simpa using hj), List.getElem?_eq_none (by omega)]
theorem index_le : ∀ (s sub : List UInt8) (i : Nat), i ≤ s.length → Lib.occAt s sub i = true → 0 ≤ Lib.index s sub ∧ Lib.index s sub ≤ i
  | [], sub, i, hi, h => by
    obtain rfl : i = 0 := by simpa using hi
    cases sub with
    | nil => simp [Lib.index]
    | cons x t => simp [Lib.occAt] at h
  | b :: l, sub, i, hi, h => by
    unfold Lib.index
    by_cases c : sub.isPrefixOf (b :: l) = true
    · rw [if_pos c]; omega
    · rw [if_neg c]
      cases i with
      | zero => exact absurd h c
      | succ i =>
        obtain ⟨h1, h2⟩ := index_le l sub i (by simpa using hi) h
        have : ¬ (Lib.index l sub == -1) = true := by simp; omega
        rw [if_neg this]; omega
theorem index_occ : ∀ (s sub : List UInt8) (i : Nat), Lib.index s sub = i → Lib.occAt s sub i = true
  | [], sub, i, h => by
    unfold Lib.index at h
    split at h
    · rename_i c
      obtain rfl : i = 0 := by omega
      cases sub with
      | nil => rfl
      | cons x t => simp at c
    · omega
  | b :: l, sub, i, h => by
    unfold Lib.index at h
    split at h
    · rename_i c
      obtain rfl : i = 0 := by omega
      exact c
    · split at h
      · omega
      · rename_i c c2
        have c3 : Lib.index l sub ≠ -1 := by simpa using c2
        have := Lib.index_ge l sub
        cases i with
        | zero => omega
        | succ i => exact index_occ l sub i (by omega)
/-- An instance of the last longest palindrome that begins earlier lies in what stands before it. -/
theorem index_lt {l : List UInt8} {i f : Nat} (hi : i < l.length) (hf : f ≤ i) : Lib.index l ((l.take (i + 1)).drop f) < f ↔ (l.take (i + 1)).drop f <:+: l.take i := by
  have hul : ((l.take (i + 1)).drop f).length = i + 1 - f := by rw [List.length_drop, List.length_take]; omega
  constructor
  · intro h
    have hself : Lib.occAt l ((l.take (i + 1)).drop f) f = true := by
      unfold Lib.occAt
      rw [List.isPrefixOf_iff_prefix]
      rw [List.drop_take]
      exact List.take_prefix _ _
    obtain ⟨h0, _⟩ := index_le _ _ f (by omega) hself
    obtain ⟨x, hx⟩ := Int.eq_ofNat_of_zero_le h0
    have hocc := index_occ _ _ x hx
    rw [hx] at h
    unfold Lib.occAt at hocc
    rw [List.isPrefixOf_iff_prefix, List.prefix_iff_eq_take, hul] at hocc
    rw [hocc]
    have e : (l.drop x).take (i + 1 - f) = ((l.take i).drop x).take (i + 1 - f) := by
      rw [List.drop_take, List.take_take]
      congr 1
      omega
    rw [e]
    exact (List.take_prefix _ _).isInfix.trans (List.drop_suffix _ _).isInfix
  · rintro ⟨a, b, h⟩
    have hl := congrArg List.length h
    rw [List.length_append, List.length_append, hul, List.length_take] at hl
    have hocc : Lib.occAt l ((l.take (i + 1)).drop f) a.length = true := by
      unfold Lib.occAt
      rw [List.isPrefixOf_iff_prefix]
      have : l = a ++ ((l.take (i + 1)).drop f ++ (b ++ l.drop i)) := by
        rw [← List.append_assoc, ← List.append_assoc, h]
        exact (List.take_append_drop i l).symm
      have h2 := congrArg (List.drop a.length) this
      rw [List.drop_left] at h2
      rw [h2]
      exact List.prefix_append _ _
    have := (index_le _ _ a.length (by omega) hocc).2
    omega
/-- What Ends answers. -/
def endsL (l : List UInt8) : List Int := (List.range l.length).map fun i => ((i + 1 : Nat) : Int) - fp (l.take (i + 1))
/-- What Rich answers. -/
def richL (l : List UInt8) : Nat → Nat → Int
  | 0, _ => -1
  | n + 1, i => if lps (l.take (i + 1)) <:+: l.take i then (i : Int) else richL l n (i + 1)
/-! ### the references -/
theorem rpal_loop {s : ByteArray} (hs : s.size ≤ 1000000) : ∀ n i : Nat, s.size / 2 = i + n → Ev (fun k => galloonref01_Palindrome.l0 k s i) (decide (∀ j, j < (L s).length / 2 → i ≤ j → (L s)[j]? = (L s)[(L s).length - 1 - j]?))
  | 0, i, h => by
    have hw : wrap64 ((s.size : Int) / 2) = ((s.size / 2 : Nat) : Int) := by rw [w64 (by omega)]; omega
    refine Ev.step (f := fun _ => some true) (fun k => ?_) ?_
    · simp only [galloonref01_Palindrome.l0]; rw [hw, if_neg (by omega)]
    · refine Ev.to (Ev.now _) ?_
      symm
      rw [decide_eq_true_iff]
      intro j hj hij
      rw [L_size] at hj
      omega
  | n + 1, i, h => by
    have hw : wrap64 ((s.size : Int) / 2) = ((s.size / 2 : Nat) : Int) := by rw [w64 (by omega)]; omega
    have hw1 : wrap64 (wrap64 ((s.size : Int) - 1) - i) = ((s.size - 1 - i : Nat) : Int) := by rw [w64 (n := (s.size : Int) - 1) (by omega), w64 (by omega)]; omega
    have hw2 : wrap64 ((i : Int) + 1) = ((i + 1 : Nat) : Int) := by rw [w64 (by omega)]; rfl
    have h1 : i < (L s).length := by rw [L_size]; omega
    have h2 : s.size - 1 - i < (L s).length := by rw [L_size]; omega
    have hb1 := bt_L h1
    have hb2 := bt_L h2
    by_cases c : (L s)[i] = (L s)[s.size - 1 - i]
    · refine Ev.step (f := fun k => galloonref01_Palindrome.l0 k s ((i + 1 : Nat) : Int)) (fun k => ?_) (Ev.to (rpal_loop hs n (i + 1) (by omega)) ?_)
      · simp only [galloonref01_Palindrome.l0]
        rw [hw, hw1, if_pos (by omega), if_pos (by omega), if_pos (by omega), if_pos (by omega), if_pos (by omega), hb1, hb2, if_pos (by rw [c]), hw2]
      · rw [Bool.eq_iff_iff, decide_eq_true_iff, decide_eq_true_iff]
        constructor
        · intro hh j hj hij
          by_cases e : j = i
          · subst e
            rw [L_size, List.getElem?_eq_getElem h1, List.getElem?_eq_getElem h2, c]
          · exact hh j hj (by omega)
        · intro hh j hj hij
          exact hh j hj (by omega)
    · refine Ev.step (f := fun _ => some false) (fun k => ?_) (Ev.to (Ev.now _) ?_)
      · simp only [galloonref01_Palindrome.l0]
        rw [hw, hw1, if_pos (by omega), if_pos (by omega), if_pos (by omega), if_pos (by omega), if_pos (by omega), hb1, hb2, if_neg]
        intro e
        exact c (UInt8.toNat_inj.1 (by omega))
      · symm
        rw [decide_eq_false_iff_not]
        intro hh
        have := hh i (by rw [L_size]; omega) (Nat.le_refl _)
        rw [L_size, List.getElem?_eq_getElem h1, List.getElem?_eq_getElem h2] at this
        exact c (Option.some.inj this)
theorem rpal_ev {s : ByteArray} (hs : s.size ≤ 1000000) : Ev (fun k => galloonref01_Palindrome.f k s) (decide (Pal (L s))) := by
  refine Ev.to (rpal_loop hs (s.size / 2) 0 (by omega)) ?_
  rw [Bool.eq_iff_iff, decide_eq_true_iff, decide_eq_true_iff, pal_half]
  exact ⟨fun h j hj => h j hj (Nat.zero_le _), fun h j hj _ => h j hj⟩
theorem rends_l1 {s : ByteArray} (hs : s.size ≤ 100000) (R : List Int) (x3 : List Int) (hx : x3.length ≤ 100000) (x4 : Nat) (h4 : x4 ≤ s.size) : ∀ n j : Nat, j + n = x4 →
    Ev (fun k => galloonref01_Ends.l0 k s (x3 ++ [(n : Int) - fp (((L s).take x4).drop j)]) ((x4 + 1 : Nat) : Int)) R → Ev (fun k => galloonref01_Ends.l1 k s x3 x4 j) R
  | n, j, h, hE => by
    have hx1 : L (s.extract (j : Int).toNat (x4 : Int).toNat) = ((L s).take x4).drop j := by
      rw [L_extract, Int.toNat_natCast, Int.toNat_natCast, List.drop_take]
    have hp : Ev (fun k => galloonref01_Palindrome.f k (s.extract (j : Int).toNat (x4 : Int).toNat)) (decide (Pal (((L s).take x4).drop j))) := by
      rw [← hx1]; exact rpal_ev (by rw [ByteArray.size_extract]; omega)
    have hw2 : wrap64 ((j : Int) + 1) = ((j + 1 : Nat) : Int) := by rw [w64 (by omega)]; rfl
    have hw3 : wrap64 ((x4 : Int) + 1) = ((x4 + 1 : Nat) : Int) := by rw [w64 (by omega)]; rfl
    have hw4 : wrap64 ((x4 : Int) - j) = n := by rw [w64 (by omega)]; omega
    refine Ev.step (f := fun k => (galloonref01_Palindrome.f k (s.extract (j : Int).toNat (x4 : Int).toNat)).bind fun t => if t = true then galloonref01_Ends.l0 k s (x3 ++ [(n : Int)]) ((x4 + 1 : Nat) : Int) else galloonref01_Ends.l1 k s x3 x4 ((j + 1 : Nat) : Int)) (fun k => ?_) (Ev.bind hp ?_)
    · simp only [galloonref01_Ends.l1]
      rw [if_pos (by omega), if_pos (by omega), if_pos (by omega), hw2, hw3, hw4]
      simp only [if_pos (show x3.length < 17592186044416 by omega)]
    · by_cases c : Pal (((L s).take x4).drop j)
      · have hf : fp (((L s).take x4).drop j) = 0 := Nat.le_zero.1 (fp_min _ 0 (by simpa using c))
        rw [hf] at hE
        refine Ev.congr (f := fun k => galloonref01_Ends.l0 k s (x3 ++ [(n : Int)]) ((x4 + 1 : Nat) : Int)) (fun k => if_pos (by simpa using c)) ?_
        simpa using hE
      · refine Ev.congr (f := fun k => galloonref01_Ends.l1 k s x3 x4 ((j + 1 : Nat) : Int)) (fun k => if_neg (by simpa using c)) ?_
        cases n with
        | zero =>
          have : ((L s).take x4).drop j = [] := List.drop_of_length_le (by rw [List.length_take, L_size]; omega)
          rw [this] at c
          exact absurd rfl c
        | succ n =>
          have hd : ((L s).take x4).drop j = ((L s).take x4)[j]'(by rw [List.length_take, L_size]; omega) :: ((L s).take x4).drop (j + 1) := List.drop_eq_getElem_cons (by rw [List.length_take, L_size]; omega)
          have hf : fp (((L s).take x4).drop j) = fp (((L s).take x4).drop (j + 1)) + 1 := by
            rw [hd] at c ⊢
            conv => lhs; unfold fp
            rw [if_neg c]
          refine rends_l1 hs R x3 hx x4 h4 n (j + 1) (by omega) ?_
          rw [hf] at hE
          have e : ((n + 1 : Nat) : Int) - ((fp (((L s).take x4).drop (j + 1)) + 1 : Nat) : Int) = (n : Int) - fp (((L s).take x4).drop (j + 1)) := by omega
          rw [e] at hE
          exact hE
theorem rends_loop {s : ByteArray} (hs : s.size ≤ 100000) : ∀ n i : Nat, i + n = s.size → Ev (fun k => galloonref01_Ends.l0 k s ((endsL (L s)).take i) ((i + 1 : Nat) : Int)) (endsL (L s))
  | 0, i, h => by
    refine Ev.step (f := fun _ => some ((endsL (L s)).take i)) (fun k => ?_) (Ev.to (Ev.now _) ?_)
    · simp only [galloonref01_Ends.l0]; rw [if_neg (by omega)]
    · refine List.take_of_length_le ?_
      simp [endsL, L_size]; omega
  | n + 1, i, h => by
    have hl : (endsL (L s)).length = s.size := by simp [endsL, L_size]
    have hi : i < (endsL (L s)).length := by omega
    have hn : (endsL (L s)).take (i + 1) = (endsL (L s)).take i ++ [((i + 1 : Nat) : Int) - fp (((L s).take (i + 1)).drop 0)] := by
      rw [List.take_add_one, List.getElem?_eq_getElem hi]
      simp [endsL]
    refine Ev.step (f := fun k => galloonref01_Ends.l1 k s ((endsL (L s)).take i) ((i + 1 : Nat) : Int) ((0 : Nat) : Int)) (fun k => ?_) ?_
    · simp only [galloonref01_Ends.l0]; rw [if_pos (by omega)]; rfl
    · refine rends_l1 hs _ _ (by rw [List.length_take]; omega) (i + 1) (by omega) (i + 1) 0 (by omega) ?_
      rw [← hn]
      exact rends_loop hs n (i + 1) (by omega)
theorem rends_ev {s : ByteArray} (hs : s.size ≤ 100000) : Ev (fun k => galloonref01_Ends.f k s) (endsL (L s)) := by
  have := rends_loop hs s.size 0 (by omega)
  simpa [galloonref01_Ends.f] using this
theorem occurs_loop {P U : ByteArray} (hP : P.size ≤ 1000000) (hU : U.size ≤ 1000000) : ∀ n x : Nat, (x + U.size + n = P.size + 1 ∨ (n = 0 ∧ P.size < x + U.size ∧ x ≤ 1000000)) → Ev (fun k => galloonref01_occurs.l0 k P U x) (decide (∃ j, j < P.size + 1 ∧ x ≤ j ∧ ((L P).drop j).take U.size = L U ∧ j + U.size ≤ P.size))
  | 0, x, h => by
    have hw : wrap64 ((x : Int) + U.size) = ((x + U.size : Nat) : Int) := by rw [w64 (by omega)]; rfl
    refine Ev.step (f := fun _ => some false) (fun k => ?_) (Ev.to (Ev.now _) ?_)
    · simp only [galloonref01_occurs.l0]; rw [hw, if_neg (by omega)]
    · symm
      rw [decide_eq_false_iff_not]
      rintro ⟨j, _, h1, _, h2⟩
      omega
  | n + 1, x, h => by
    have h : x + U.size + (n + 1) = P.size + 1 := by omega
    have hw : wrap64 ((x : Int) + U.size) = ((x + U.size : Nat) : Int) := by rw [w64 (by omega)]; rfl
    have hw2 : wrap64 ((x : Int) + 1) = ((x + 1 : Nat) : Int) := by rw [w64 (by omega)]; rfl
    have hx : (P.extract (x : Int).toNat ((x + U.size : Nat) : Int).toNat).toList = ((L P).drop x).take U.size := by
      rw [toList_L, L_extract, Int.toNat_natCast, Int.toNat_natCast]
      congr 1
      omega
    by_cases c : ((L P).drop x).take U.size = L U
    · refine Ev.step (f := fun _ => some true) (fun k => ?_) (Ev.to (Ev.now _) ?_)
      · simp only [galloonref01_occurs.l0]
        rw [hw, if_pos (by omega), if_pos (by omega), if_pos (by omega), hx, toList_L, if_pos c]
      · symm
        rw [decide_eq_true_iff]
        exact ⟨x, by omega, Nat.le_refl _, c, by omega⟩
    · refine Ev.step (f := fun k => galloonref01_occurs.l0 k P U ((x + 1 : Nat) : Int)) (fun k => ?_) (Ev.to (occurs_loop hP hU n (x + 1) (by omega)) ?_)
      · simp only [galloonref01_occurs.l0]
        rw [hw, if_pos (by omega), if_pos (by omega), if_pos (by omega), hx, toList_L, if_neg c, hw2]
      · rw [Bool.eq_iff_iff, decide_eq_true_iff, decide_eq_true_iff]
        constructor
        · rintro ⟨j, h0, h1, h2⟩
          exact ⟨j, h0, by omega, h2⟩
        · rintro ⟨j, h0, h1, h2⟩
          refine ⟨j, h0, ?_, h2⟩
          by_cases e : j = x
          · subst e; exact absurd h2.1 c
          · omega
theorem occurs_ev {P U : ByteArray} (hP : P.size ≤ 1000000) (hU : U.size ≤ 1000000) : Ev (fun k => galloonref01_occurs.f k P U) (decide (L U <:+: L P)) := by
  have h := occurs_loop hP hU (P.size + 1 - U.size) 0 (by omega)
  refine Ev.to h ?_
  rw [Bool.eq_iff_iff, decide_eq_true_iff, decide_eq_true_iff]
  constructor
  · rintro ⟨j, _, _, h1, _⟩
    rw [← h1]
    exact (List.take_prefix _ _).isInfix.trans (List.drop_suffix _ _).isInfix
  · rintro ⟨a, b, h1⟩
    have hl := congrArg List.length h1
    rw [List.length_append, List.length_append, L_size, L_size] at hl
    refine ⟨a.length, by omega, Nat.zero_le _, ?_, by omega⟩
    rw [← h1, List.append_assoc, List.drop_left, ← L_size, List.take_left]
theorem rrich_loop {s : ByteArray} (hs : s.size ≤ 1000) : ∀ n i : Nat, i + n = s.size → Ev (fun k => galloonref01_Rich.l0 k s (endsL (L s)) i) (richL (L s) n i)
  | 0, i, h => by
    refine Ev.step (f := fun _ => some (-1)) (fun k => ?_) (Ev.now _)
    simp only [galloonref01_Rich.l0]; rw [if_neg (by omega)]
  | n + 1, i, h => by
    have hl : (endsL (L s)).length = s.size := by simp [endsL, L_size]
    have hfp := fp_le ((L s).take (i + 1))
    rw [List.length_take, L_size] at hfp
    have hf1 : fp ((L s).take (i + 1)) ≤ i := by
      have ht : (L s).take (i + 1) = (L s)[0]'(by rw [L_size]; omega) :: ((L s).take (i + 1)).drop 1 := by
        have := List.drop_eq_getElem_cons (l := (L s).take (i + 1)) (i := 0) (by rw [List.length_take, L_size]; omega)
        simpa using this
      have := fp_lt ((L s)[0]'(by rw [L_size]; omega)) (((L s).take (i + 1)).drop 1)
      rw [← ht, List.length_drop, List.length_take, L_size] at this
      omega
    have hrd : rd (endsL (L s)) i = ((i + 1 : Nat) : Int) - fp ((L s).take (i + 1)) := by
      have hi : i < (endsL (L s)).length := by omega
      simp [rd, hi]
      simp [endsL]
    have hw2 : wrap64 ((i : Int) + 1) = ((i + 1 : Nat) : Int) := by rw [w64 (by omega)]; rfl
    have hw3 : wrap64 (((i + 1 : Nat) : Int) - (((i + 1 : Nat) : Int) - fp ((L s).take (i + 1)))) = (fp ((L s).take (i + 1)) : Int) := by rw [w64 (by omega)]; omega
    have hx1 : L (s.extract 0 (i : Int).toNat) = (L s).take i := by rw [L_extract]; simp
    have hx2 : L (s.extract ((fp ((L s).take (i + 1)) : Nat) : Int).toNat (((i + 1 : Nat) : Nat) : Int).toNat) = lps ((L s).take (i + 1)) := by
      rw [L_extract, Int.toNat_natCast, Int.toNat_natCast, ← List.drop_take]; rfl
    have ho : Ev (fun k => galloonref01_occurs.f k (s.extract 0 (i : Int).toNat) (s.extract ((fp ((L s).take (i + 1)) : Nat) : Int).toNat (((i + 1 : Nat) : Nat) : Int).toNat)) (decide (lps ((L s).take (i + 1)) <:+: (L s).take i)) := by
      have := occurs_ev (P := s.extract 0 (i : Int).toNat) (U := s.extract ((fp ((L s).take (i + 1)) : Nat) : Int).toNat (((i + 1 : Nat) : Nat) : Int).toNat) (by rw [ByteArray.size_extract]; omega) (by rw [ByteArray.size_extract]; omega)
      rw [hx1, hx2] at this
      exact this
    refine Ev.step (f := fun k => (galloonref01_occurs.f k (s.extract 0 (i : Int).toNat) (s.extract ((fp ((L s).take (i + 1)) : Nat) : Int).toNat (((i + 1 : Nat) : Nat) : Int).toNat)).bind fun t => if t = true then some (i : Int) else galloonref01_Rich.l0 k s (endsL (L s)) ((i + 1 : Nat) : Int)) (fun k => ?_) (Ev.bind ho ?_)
    · simp only [galloonref01_Rich.l0]
      rw [hrd, hw2, hw3, if_pos (by omega), if_pos (by omega), if_pos (by omega), if_pos (by omega), if_pos (by omega), if_pos (by omega), if_pos (by omega)]
    · by_cases c : lps ((L s).take (i + 1)) <:+: (L s).take i
      · refine Ev.ite_true (by simpa using c) (Ev.to (Ev.now _) ?_)
        simp [richL, c]
      · refine Ev.ite_false (by simpa using c) (Ev.to (rrich_loop hs n (i + 1) (by omega)) ?_)
        simp [richL, c]
theorem rrich_ev {s : ByteArray} (hs : s.size ≤ 1000) : Ev (fun k => galloonref01_Rich.f k s) (richL (L s) s.size 0) :=
  Ev.bind (rends_ev (by omega)) (rrich_loop hs s.size 0 (by omega))
theorem rword_loop {s : ByteArray} (hs : s.size ≤ 1000000) : ∀ n i : Nat, i + n = s.size → Ev (fun k => galloonref01_Word.l0 k s i) (decide (s.size ≤ 100 ∧ ∀ c ∈ (L s).drop i, 97 ≤ c.toNat ∧ c.toNat ≤ 100))
  | 0, i, h => by
    refine Ev.step (f := fun _ => some (decide ((s.size : Int) ≤ 100))) (fun k => ?_) (Ev.to (Ev.now _) ?_)
    · simp only [galloonref01_Word.l0]; rw [if_neg (by omega)]
    · have : (L s).drop i = [] := List.drop_of_length_le (by rw [L_size]; omega)
      rw [this, Bool.eq_iff_iff, decide_eq_true_iff, decide_eq_true_iff]
      simp; omega
  | n + 1, i, h => by
    have h1 : i < (L s).length := by rw [L_size]; omega
    have hb1 := bt_L h1
    have hd : (L s).drop i = (L s)[i] :: (L s).drop (i + 1) := List.drop_eq_getElem_cons h1
    have hw2 : wrap64 ((i : Int) + 1) = ((i + 1 : Nat) : Int) := by rw [w64 (by omega)]; rfl
    by_cases c1 : ((L s)[i].toNat : Int) < 97
    · refine Ev.step (f := fun _ => some false) (fun k => ?_) (Ev.to (Ev.now _) ?_)
      · simp only [galloonref01_Word.l0]; rw [if_pos (by omega), if_pos (by omega), hb1, if_pos c1]
      · symm; rw [decide_eq_false_iff_not, hd]; rintro ⟨_, hh⟩; have := hh _ (List.mem_cons_self ..); omega
    · by_cases c2 : ((L s)[i].toNat : Int) > 100
      · refine Ev.step (f := fun _ => some false) (fun k => ?_) (Ev.to (Ev.now _) ?_)
        · simp only [galloonref01_Word.l0]; rw [if_pos (by omega), if_pos (by omega), hb1, if_neg c1, if_pos c2]
        · symm; rw [decide_eq_false_iff_not, hd]; rintro ⟨_, hh⟩; have := hh _ (List.mem_cons_self ..); omega
      · refine Ev.step (f := fun k => galloonref01_Word.l0 k s ((i + 1 : Nat) : Int)) (fun k => ?_) (Ev.to (rword_loop hs n (i + 1) (by omega)) ?_)
        · simp only [galloonref01_Word.l0]; rw [if_pos (by omega), if_pos (by omega), hb1, if_neg c1, if_neg c2, hw2]
        · rw [Bool.eq_iff_iff, decide_eq_true_iff, decide_eq_true_iff, hd]
          refine and_congr_right fun _ => ⟨fun hh c hc => ?_, fun hh c hc => hh c (List.mem_cons_of_mem _ hc)⟩
          rcases List.mem_cons.1 hc with rfl | hc
          · omega
          · exact hh c hc
theorem rword_ev {s : ByteArray} (hs : s.size ≤ 1000000) : Ev (fun k => galloonref01_Word.f k s) (decide (s.size ≤ 100 ∧ ∀ c ∈ L s, 97 ≤ c.toNat ∧ c.toNat ≤ 100)) := by
  have := rword_loop hs s.size 0 (by omega)
  simpa [galloonref01_Word.f] using this
theorem ints_loop {l : List Int} (hl : l.length ≤ 1000000000) : ∀ n i : Nat, i + n = l.length → Ev (fun k => galloonlaw01_ints.l0 k l l i) true
  | 0, i, h => by
    refine Ev.step (f := fun _ => some true) (fun k => ?_) (Ev.now _)
    simp only [galloonlaw01_ints.l0]; rw [if_neg (by omega)]
  | n + 1, i, h => by
    have hw2 : wrap64 ((i : Int) + 1) = ((i + 1 : Nat) : Int) := by rw [w64 (by omega)]; rfl
    refine Ev.step (f := fun k => galloonlaw01_ints.l0 k l l ((i + 1 : Nat) : Int)) (fun k => ?_) (ints_loop hl n (i + 1) (by omega))
    simp only [galloonlaw01_ints.l0]; rw [if_pos (by omega), if_pos (by omega), if_pos (by omega), if_pos trivial, hw2]
theorem ints_ev {l : List Int} (hl : l.length ≤ 1000000000) : Ev (fun k => galloonlaw01_ints.f k l l) true := by
  unfold galloonlaw01_ints.f
  exact Ev.ite_true rfl (ints_loop hl l.length 0 (by omega))
/-! ### the package -/
theorem ends_loop {s : ByteArray} (hs : s.size ≤ 1000) : ∀ n i : Nat, i + n = s.size → Ev (fun k => trim_Ends.l0 k s ((endsL (L s)).take i) s.size i) (endsL (L s), 0)
  | 0, i, h => by
    refine Ev.step (f := fun _ => some ((endsL (L s)).take i, 0)) (fun k => ?_) (Ev.to (Ev.now _) ?_)
    · simp only [trim_Ends.l0]; rw [if_neg (by omega)]
    · rw [List.take_of_length_le]
      simp [endsL, L_size]; omega
  | n + 1, i, h => by
    have hl : (endsL (L s)).length = s.size := by simp [endsL, L_size]
    have hi : i < (endsL (L s)).length := by omega
    have hn : (endsL (L s)).take (i + 1) = (endsL (L s)).take i ++ [((i + 1 : Nat) : Int) - fp ((L s).take (i + 1))] := by
      rw [List.take_add_one, List.getElem?_eq_getElem hi]
      simp [endsL]
    have hw2 : wrap64 ((i : Int) + 1) = ((i + 1 : Nat) : Int) := by rw [w64 (by omega)]; rfl
    have he : Ev (fun k => trim_end.f k (s.extract 0 ((i + 1 : Nat) : Int).toNat)) (((i + 1 : Nat) : Int) - fp ((L s).take (i + 1))) := by
      have := end_ev (s := s.extract 0 ((i + 1 : Nat) : Int).toNat) (by rw [ByteArray.size_extract]; omega)
      rw [Int.toNat_natCast, L_to, ByteArray.size_extract, show min (i + 1) s.size - 0 = i + 1 by omega] at this
      rw [Int.toNat_natCast]
      exact this
    have hlt : ((endsL (L s)).take i).length < 17592186044416 := by rw [List.length_take]; omega
    refine Ev.step (f := fun k => (trim_end.f k (s.extract 0 ((i + 1 : Nat) : Int).toNat)).bind fun t => trim_Ends.l0 k s ((endsL (L s)).take i ++ [t]) s.size ((i + 1 : Nat) : Int)) (fun k => ?_) (Ev.bind he ?_)
    · simp only [trim_Ends.l0]
      rw [if_pos (by omega), hw2, if_pos (by omega), if_pos (by omega)]
      simp only [if_pos hlt]
    · rw [← hn]
      exact ends_loop hs n (i + 1) (by omega)
theorem rich_loop {s : ByteArray} (hs : s.size ≤ 1000) : ∀ n i : Nat, i + n = s.size → Ev (fun k => trim_Rich.l0 k s s.size i) (richL (L s) n i, 0)
  | 0, i, h => by
    refine Ev.step (f := fun _ => some (-1, 0)) (fun k => ?_) (Ev.now _)
    simp only [trim_Rich.l0]; rw [if_neg (by omega)]
  | n + 1, i, h => by
    have hfp := fp_le ((L s).take (i + 1))
    rw [List.length_take, L_size] at hfp
    have hf1 : fp ((L s).take (i + 1)) ≤ i := by
      have ht : (L s).take (i + 1) = (L s)[0]'(by rw [L_size]; omega) :: ((L s).take (i + 1)).drop 1 := by
        have := List.drop_eq_getElem_cons (l := (L s).take (i + 1)) (i := 0) (by rw [List.length_take, L_size]; omega)
        simpa using this
      have := fp_lt ((L s)[0]'(by rw [L_size]; omega)) (((L s).take (i + 1)).drop 1)
      rw [← ht, List.length_drop, List.length_take, L_size] at this
      omega
    have hw2 : wrap64 ((i : Int) + 1) = ((i + 1 : Nat) : Int) := by rw [w64 (by omega)]; rfl
    have hw3 : wrap64 (((i + 1 : Nat) : Int) - (((i + 1 : Nat) : Int) - fp ((L s).take (i + 1)))) = (fp ((L s).take (i + 1)) : Int) := by rw [w64 (by omega)]; omega
    have he : Ev (fun k => trim_end.f k (s.extract 0 ((i + 1 : Nat) : Int).toNat)) (((i + 1 : Nat) : Int) - fp ((L s).take (i + 1))) := by
      have := end_ev (s := s.extract 0 ((i + 1 : Nat) : Int).toNat) (by rw [ByteArray.size_extract]; omega)
      rw [Int.toNat_natCast, L_to, ByteArray.size_extract, show min (i + 1) s.size - 0 = i + 1 by omega] at this
      rw [Int.toNat_natCast]
      exact this
    have hidx : strings_Index.f s (s.extract ((fp ((L s).take (i + 1)) : Nat) : Int).toNat ((i + 1 : Nat) : Int).toNat) = some (Lib.index (L s) (((L s).take (i + 1)).drop (fp ((L s).take (i + 1))))) := by
      unfold strings_Index.f
      rw [if_pos (by omega)]
      congr 2
      show L _ = _
      rw [L_extract, Int.toNat_natCast, Int.toNat_natCast, ← List.drop_take]
    have hlt := index_lt (l := L s) (i := i) (by rw [L_size]; omega) hf1
    refine Ev.step (f := fun k => (trim_end.f k (s.extract 0 ((i + 1 : Nat) : Int).toNat)).bind fun t => (if 0 ≤ (wrap64 (((i + 1 : Nat) : Int) - t)) then (if (wrap64 (((i + 1 : Nat) : Int) - t)) ≤ ((i + 1 : Nat) : Int) then ((strings_Index.f s (s.extract ((wrap64 (((i + 1 : Nat) : Int) - t)) : Int).toNat (((i + 1 : Nat) : Int)).toNat)).bind fun t116 => (if t116 < (wrap64 (((i + 1 : Nat) : Int) - t)) then (some ((i : Int), 0)) else (trim_Rich.l0 k s s.size ((i + 1 : Nat) : Int)))) else (none)) else (none))) (fun k => ?_) (Ev.bind he ?_)
    · simp only [trim_Rich.l0]
      rw [if_pos (by omega), hw2, if_pos (by omega), if_pos (by omega)]
    · rw [hw3]
      refine Ev.ite_true (by omega) (Ev.ite_true (by omega) ?_)
      rw [hidx]
      simp only [Option.bind_some]
      by_cases c : lps ((L s).take (i + 1)) <:+: (L s).take i
      · refine Ev.ite_true (hlt.2 c) (Ev.to (Ev.now _) ?_)
        simp [richL, c]
      · refine Ev.ite_false (fun e => c (hlt.1 e)) (Ev.to (rich_loop hs n (i + 1) (by omega)) ?_)
        simp [richL, c]
theorem awake_ev : Ev (fun k => galloonlaw01_awake.f k) true := Ev.of galloonlaw01_awake.mono (k := 60) (by decide +kernel)
theorem short_ev (a : ByteArray) : ∃ t, galloonlaw01_short.f a = some t ∧ t.size ≤ 101 := by
  unfold galloonlaw01_short.f mn
  refine ⟨_, by rw [if_pos (by split <;> omega), if_pos (by split <;> omega)], ?_⟩
  rw [ByteArray.size_extract]
  split <;> omega
end Go.Proofs.Ytbdlhgdfnnbjiaa.PY
/-! The palindromes at a center. -/
namespace Go.Proofs.Ytbdlhgdfnnbjiaa.PY
open Go.RowKit Go.Proofs.YtbdlhgdfnnbjiaaW.PrintWords Go.Proofs.YtbdlhgdfnnbjiaaW.PrintLast Go.Proofs.Ytbdlhgdfnnbjiaa.Pal
/-- The letters from i up to e. -/
def seg (l : List UInt8) (i e : Nat) : List UInt8 := (l.drop i).take (e - i)
theorem seg_len {l : List UInt8} {i e : Nat} (h : e ≤ l.length) : (seg l i e).length = e - i := by
  unfold seg; rw [List.length_take, List.length_drop]; omega
theorem seg_ends {l : List UInt8} {i e : Nat} (h : i + 2 ≤ e) (he : e ≤ l.length) : seg l i e = l[i]'(by omega) :: (seg l (i + 1) (e - 1) ++ [l[e - 1]'(by omega)]) := by
  refine List.ext_getElem? (fun t => ?_)
  unfold seg
  cases t with
  | zero =>
    rw [List.getElem?_take_of_lt (by omega), List.getElem?_drop, List.getElem?_cons_zero, Nat.add_zero, List.getElem?_eq_getElem]
  | succ t =>
    rw [List.getElem?_cons_succ]
    by_cases c : t < e - 1 - (i + 1)
    · rw [List.getElem?_append_left (by rw [List.length_take, List.length_drop]; omega), List.getElem?_take_of_lt (by omega), List.getElem?_take_of_lt c, List.getElem?_drop, List.getElem?_drop]
      congr 1; omega
    · by_cases c2 : t = e - 1 - (i + 1)
      · rw [List.getElem?_append_right (by rw [List.length_take, List.length_drop]; omega), List.getElem?_take_of_lt (by omega), List.getElem?_drop, List.length_take, List.length_drop, show i + (t + 1) = e - 1 by omega, show t - min (e - 1 - (i + 1)) (l.length - (i + 1)) = 0 by omega, List.getElem?_cons_zero, List.getElem?_eq_getElem]
      · rw [List.getElem?_eq_none (by rw [List.length_take, List.length_drop]; omega), List.getElem?_eq_none (by rw [List.length_append, List.length_take, List.length_drop]; simp; omega)]
theorem seg_step {l : List UInt8} {i e : Nat} (h : i + 2 ≤ e) (he : e ≤ l.length) : Pal (seg l i e) ↔ l[i]'(by omega) = l[e - 1]'(by omega) ∧ Pal (seg l (i + 1) (e - 1)) := by
  rw [seg_ends h he]
  constructor
  · intro hp
    have h1 : (l[i]'(by omega) :: (seg l (i + 1) (e - 1) ++ [l[e - 1]'(by omega)])).reverse = _ := hp
    rw [List.reverse_cons, List.reverse_append, List.reverse_singleton, List.singleton_append, List.cons_append] at h1
    have h2 := (List.cons.inj h1).1
    refine ⟨h2.symm, ?_⟩
    rw [h2] at hp
    exact pal_cons_snoc.1 hp
  · rintro ⟨h1, h2⟩
    rw [h1]
    exact pal_cons_snoc.2 h2
theorem pal_inner {l : List UInt8} : ∀ (d i e : Nat), e ≤ l.length → i + d ≤ e - d → d ≤ e → Pal (seg l i e) → Pal (seg l (i + d) (e - d))
  | 0, i, e, _, _, _, h => h
  | d + 1, i, e, he, hd, hde, h => by
    by_cases c : i + 2 ≤ e
    · have := pal_inner d (i + 1) (e - 1) (by omega) (by omega) (by omega) ((seg_step c he).1 h).2
      rw [show i + 1 + d = i + (d + 1) by omega, show e - 1 - d = e - (d + 1) by omega] at this
      exact this
    · omega
theorem pal_short {l : List UInt8} {i e : Nat} (h : e ≤ i + 1) : Pal (seg l i e) := by
  have hl : (seg l i e).length ≤ 1 := by unfold seg; rw [List.length_take]; omega
  rcases hs : seg l i e with _ | ⟨x, _ | ⟨y, t⟩⟩
  · exact pal_nil
  · exact pal_one x
  · rw [hs] at hl; simp at hl
theorem cenL_loop {s : ByteArray} (hs : s.size ≤ 100) : ∀ (k i e : Nat), i + 1 ≤ k → i ≤ e → e ≤ s.size → Pal (seg (L s) i e) →
    ∃ i0 e0 : Nat, trim_centered.l0 k s i ((e : Int) - 1) = some ((e0 : Int) - i0) ∧ i0 + e0 = i + e ∧ i0 ≤ i ∧ e0 ≤ s.size ∧ Pal (seg (L s) i0 e0) ∧ ∀ i' e', i' + e' = i + e → i' < i0 → e' ≤ s.size → ¬ Pal (seg (L s) i' e')
  | 0, i, e, h, _, _, _ => by omega
  | k + 1, i, e, h, hie, he, hp => by
    have hw1 : wrap64 ((e : Int) - 1 + 1) = (e : Int) := by rw [w64 (by omega)]; omega
    have hw3 : wrap64 (wrap64 ((e : Int) - 1 - i) + 1) = (e : Int) - i := by rw [w64 (n := (e : Int) - 1 - i) (by omega), w64 (by omega)]; omega
    by_cases c1 : 0 < i
    · have hw2 : wrap64 ((i : Int) - 1) = ((i - 1 : Nat) : Int) := by rw [w64 (by omega)]; omega
      by_cases c2 : e < s.size
      · have h1 : i - 1 < (L s).length := by rw [L_size]; omega
        have h2 : e < (L s).length := by rw [L_size]; omega
        have hb1 := bt_L h1
        have hb2 := bt_L h2
        have hst : Pal (seg (L s) (i - 1) (e + 1)) ↔ (L s)[i - 1] = (L s)[e] ∧ Pal (seg (L s) (i - 1 + 1) e) := seg_step (l := L s) (i := i - 1) (e := e + 1) (by omega) (by omega)
        rw [show i - 1 + 1 = i by omega] at hst
        by_cases c3 : (L s)[i - 1] = (L s)[e]
        · obtain ⟨i0, e0, q1, q2, q3, q4, q5, q6⟩ := cenL_loop hs k (i - 1) (e + 1) (by omega) (by omega) (by omega) (hst.2 ⟨c3, hp⟩)
          refine ⟨i0, e0, ?_, by omega, by omega, q4, q5, fun i' e' a b d => q6 i' e' (by omega) b d⟩
          rw [← q1]
          conv => lhs; unfold trim_centered.l0
          rw [hw1, hw2, if_pos (by omega), if_pos (by omega), if_pos (by omega), if_pos (by omega), if_pos (by omega), hb1, hb2, if_pos (by rw [c3]), show ((e + 1 : Nat) : Int) - 1 = (e : Int) by omega]
        · refine ⟨i, e, ?_, rfl, Nat.le_refl _, he, hp, fun i' e' a b d hpal => ?_⟩
          · unfold trim_centered.l0
            rw [hw1, hw2, hw3, if_pos (by omega), if_pos (by omega), if_pos (by omega), if_pos (by omega), if_pos (by omega), hb1, hb2, if_neg (fun e => c3 (UInt8.toNat_inj.1 (by omega)))]
          · have := pal_inner (i - 1 - i') i' e' (by rw [L_size]; exact d) (by omega) (by omega) hpal
            rw [show i' + (i - 1 - i') = i - 1 by omega, show e' - (i - 1 - i') = e + 1 by omega] at this
            exact c3 (hst.1 this).1
      · refine ⟨i, e, ?_, rfl, Nat.le_refl _, he, hp, fun i' e' a b d => by omega⟩
        unfold trim_centered.l0
        rw [hw1, hw3, if_pos (by omega), if_neg (by omega)]
    · refine ⟨i, e, ?_, rfl, Nat.le_refl _, he, hp, fun i' e' a b d => by omega⟩
      unfold trim_centered.l0
      rw [hw3, if_neg (by omega)]
/-- What stands at a center. -/
theorem cen_spec {s : ByteArray} (hs : s.size ≤ 100) {c : Nat} (hc : c + 1 < 2 * s.size) :
    ∃ i0 e0 : Nat, trim_centered.f 200 s c = some ((e0 : Int) - i0) ∧ i0 + e0 = c + 1 ∧ i0 ≤ e0 ∧ e0 ≤ s.size ∧ Pal (seg (L s) i0 e0) ∧ ∀ i' e', i' + e' = c + 1 → i' < i0 → e' ≤ s.size → ¬ Pal (seg (L s) i' e') := by
  have hw1 : wrap64 (Int.tdiv (wrap64 ((c : Int) + 1)) 2) = (((c + 1) / 2 : Nat) : Int) := by
    rw [w64 (n := (c : Int) + 1) (by omega), Int.tdiv_eq_ediv_of_nonneg (by omega), w64 (by omega)]; omega
  have hw2 : wrap64 (Int.tdiv (c : Int) 2) = (((c / 2 + 1 : Nat) : Int)) - 1 := by
    rw [Int.tdiv_eq_ediv_of_nonneg (by omega), w64 (by omega)]; omega
  obtain ⟨i0, e0, q1, q2, q3, q4, q5, q6⟩ := cenL_loop hs 200 ((c + 1) / 2) (c / 2 + 1) (by omega) (by omega) (by omega) (pal_short (by omega))
  refine ⟨i0, e0, ?_, by omega, by omega, q4, q5, fun i' e' a b d => q6 i' e' (by omega) b d⟩
  unfold trim_centered.f
  rw [hw1, hw2]
  exact q1
end Go.Proofs.Ytbdlhgdfnnbjiaa.PY
/-! Words. -/
namespace Go.Proofs.Ytbdlhgdfnnbjiaa.PY
open Go.RowKit Go.Proofs.YtbdlhgdfnnbjiaaW.PrintWords Go.Proofs.YtbdlhgdfnnbjiaaW.PrintLast Go.Proofs.Ytbdlhgdfnnbjiaa.Pal
def Word (s : ByteArray) : Prop := s.size ≤ 100 ∧ ∀ c ∈ L s, 97 ≤ c.toNat ∧ c.toNat ≤ 100
theorem isWord_yes {s : ByteArray} (h : Word s) : trim_isWord.f s = some true := by rw [isWord_iff]; exact congrArg some (decide_eq_true h)
theorem isWord_no {s : ByteArray} (h : ¬ Word s) : trim_isWord.f s = some false := by rw [isWord_iff]; exact congrArg some (decide_eq_false h)
end Go.Proofs.Ytbdlhgdfnnbjiaa.PY
/-! The palindromes of a word: the package's list and the reference's list are one. -/
namespace Go.Proofs.Ytbdlhgdfnnbjiaa.PY
open Go.RowKit Go.Sort Go.Proofs.YtbdlhgdfnnbjiaaW.PrintWords Go.Proofs.YtbdlhgdfnnbjiaaW.PrintLast Go.Proofs.Ytbdlhgdfnnbjiaa.Pal
theorem seg_L (s : ByteArray) (a b : Nat) : L (s.extract a b) = seg (L s) a b := L_extract s a b
theorem mem_partsC {s : ByteArray} {c : Nat} : ∀ (k i0 e0 : Nat) (t : Int × ByteArray), i0 + e0 = c + 1 → (t ∈ partsC s c k ((e0 : Int) - i0) ↔ ∃ d : Nat, d < k ∧ i0 + d + d < e0 ∧ t = (((i0 + d : Nat) : Int), s.extract (i0 + d) (e0 - d)))
  | 0, i0, e0, t, h => by
    simp [partsC]
  | k + 1, i0, e0, t, h => by
    by_cases c1 : (0 : Int) < (e0 : Int) - i0
    · have hp : ((c : Int) + 1 - ((e0 : Int) - i0)) / 2 = (i0 : Int) := by omega
      have hq : ((i0 : Int) + ((e0 : Int) - i0)).toNat = e0 := by omega
      rw [partsC_pos s c k _ c1, hp, hq, Int.toNat_natCast, List.mem_cons]
      by_cases c2 : i0 + 2 ≤ e0
      · have e : (e0 : Int) - i0 - 2 = ((e0 - 1 : Nat) : Int) - ((i0 + 1 : Nat) : Int) := by omega
        rw [e, mem_partsC k (i0 + 1) (e0 - 1) t (by omega)]
        constructor
        · rintro (rfl | ⟨d, h1, h2, rfl⟩)
          · exact ⟨0, by omega, by omega, rfl⟩
          · refine ⟨d + 1, by omega, by omega, ?_⟩
            rw [show i0 + 1 + d = i0 + (d + 1) by omega, show e0 - 1 - d = e0 - (d + 1) by omega]
        · rintro ⟨d, h1, h2, rfl⟩
          cases d with
          | zero => exact Or.inl rfl
          | succ d =>
            refine Or.inr ⟨d, by omega, by omega, ?_⟩
            rw [show i0 + 1 + d = i0 + (d + 1) by omega, show e0 - 1 - d = e0 - (d + 1) by omega]
      · rw [partsC_neg s c k _ (by omega)]
        constructor
        · rintro (rfl | h1)
          · exact ⟨0, by omega, by omega, rfl⟩
          · cases h1
        · rintro ⟨d, h1, h2, rfl⟩
          obtain rfl : d = 0 := by omega
          exact Or.inl rfl
    · rw [partsC_neg s c _ _ c1]
      constructor
      · intro h1; cases h1
      · rintro ⟨d, h1, h2, _⟩; omega
/-- A palindrome within a word, and its place. -/
def IsPalAt (s : ByteArray) (a b : Nat) : Prop := a < b ∧ b ≤ s.size ∧ Pal (seg (L s) a b)
theorem mem_partsL {s : ByteArray} (hs : s.size ≤ 100) (t : Int × ByteArray) : t ∈ partsL s ↔ ∃ a b : Nat, IsPalAt s a b ∧ t = ((a : Int), s.extract a b) := by
  unfold partsL partsU
  rw [List.mem_flatMap]
  constructor
  · rintro ⟨c, hc, ht⟩
    rw [List.mem_range] at hc
    obtain ⟨i0, e0, q1, q2, q3, q4, q5, q6⟩ := cen_spec hs (c := c) (by omega)
    have hcen : cen s c = (e0 : Int) - i0 := by unfold cen; rw [q1]; rfl
    rw [hcen, mem_partsC 101 i0 e0 t q2] at ht
    obtain ⟨d, h1, h2, rfl⟩ := ht
    exact ⟨i0 + d, e0 - d, ⟨by omega, by omega, pal_inner d i0 e0 (by rw [L_size]; exact q4) (by omega) (by omega) q5⟩, rfl⟩
  · rintro ⟨a, b, ⟨h1, h2, h3⟩, rfl⟩
    obtain ⟨i0, e0, q1, q2, q3, q4, q5, q6⟩ := cen_spec hs (c := a + b - 1) (by omega)
    have hcen : cen s (a + b - 1) = (e0 : Int) - i0 := by unfold cen; rw [q1]; rfl
    refine ⟨a + b - 1, by rw [List.mem_range]; omega, ?_⟩
    have hai : i0 ≤ a := by
      rcases Nat.lt_or_ge a i0 with h | h
      · exact absurd h3 (q6 a b (by omega) h h2)
      · exact h
    rw [hcen, mem_partsC 101 i0 e0 _ q2]
    exact ⟨a - i0, by omega, by omega, by rw [show i0 + (a - i0) = a by omega, show e0 - (a - i0) = b by omega]⟩
theorem palSpec_iff {s : ByteArray} (hs : s.size ≤ 100) (y : ByteArray) : y ∈ palSpec s ↔ ∃ a b : Nat, IsPalAt s a b ∧ y = s.extract a b := by
  rw [palSpec_mem]
  constructor
  · rintro ⟨t, ht, rfl⟩
    obtain ⟨a, b, h, rfl⟩ := (mem_partsL hs t).1 ht
    exact ⟨a, b, h, rfl⟩
  · rintro ⟨a, b, h, rfl⟩
    exact ⟨((a : Int), s.extract a b), (mem_partsL hs _).2 ⟨a, b, h, rfl⟩, rfl⟩
theorem ltP_irrefl (x : ByteArray) : ¬ ltP x x = true := fun h => ltL_irrefl _ (ltP_iff.1 h)
theorem sorted_eq : ∀ l1 l2 : List ByteArray, l1.Pairwise (fun a b => ltP a b = true) → l2.Pairwise (fun a b => ltP a b = true) → (∀ y, y ∈ l1 ↔ y ∈ l2) → l1 = l2
  | [], [], _, _, _ => rfl
  | [], y :: l2, _, _, h => absurd ((h y).2 (List.mem_cons_self ..)) (by simp)
  | x :: l1, [], _, _, h => absurd ((h x).1 (List.mem_cons_self ..)) (by simp)
  | x :: l1, y :: l2, h1, h2, h => by
    obtain ⟨a1, b1⟩ := List.pairwise_cons.1 h1
    obtain ⟨a2, b2⟩ := List.pairwise_cons.1 h2
    have hxy : x = y := by
      rcases List.mem_cons.1 ((h x).1 (List.mem_cons_self ..)) with e | e
      · exact e
      · rcases List.mem_cons.1 ((h y).2 (List.mem_cons_self ..)) with e2 | e2
        · exact e2.symm
        · exact absurd (ltP_trans (a1 y e2) (a2 x e)) (ltP_irrefl x)
    subst hxy
    congr 1
    refine sorted_eq l1 l2 b1 b2 (fun z => ⟨fun hz => ?_, fun hz => ?_⟩)
    · rcases List.mem_cons.1 ((h z).1 (List.mem_cons_of_mem _ hz)) with e | e
      · exact absurd (e ▸ a1 z hz) (ltP_irrefl z)
      · exact e
    · rcases List.mem_cons.1 ((h z).2 (List.mem_cons_of_mem _ hz)) with e | e
      · exact absurd (e ▸ a2 z hz) (ltP_irrefl z)
      · exact e
theorem insP_len (x : ByteArray) : ∀ l, (insP x l).length ≤ l.length + 1
  | [] => Nat.le_refl _
  | y :: l => by
    have := insP_len x l
    unfold insP
    split
    · simp
    · split <;> simp <;> omega
theorem ltP_of {x y : ByteArray} : ltP x y = true ↔ x.size < y.size ∨ (x.size = y.size ∧ Op.bytesLess x.toList y.toList = true) := by
  unfold ltP
  rw [bytesLess_eq, toList_L, toList_L]
  simp [L]
theorem insert_loop {l : List ByteArray} (x : ByteArray) (hl : l.length ≤ 100000) : ∀ n i : Nat, i + n = l.length → Ev (fun k => galloonref01_insert.l0 k l x i) (l.take i ++ insP x (l.drop i))
  | 0, i, h => by
    have hd : l.drop i = [] := List.drop_of_length_le (by omega)
    have ht : l.take i = l := List.take_of_length_le (by omega)
    rw [hd, ht]
    refine Ev.step (f := fun _ => some (l ++ [x])) (fun k => ?_) (Ev.now _)
    simp only [galloonref01_insert.l0]
    rw [if_neg (by omega), if_pos (by omega), if_pos (by omega)]
    simp only [Option.bind_some, Int.toNat_natCast, hd, ht, List.length_nil, List.nil_append, List.append_nil]
    rw [if_pos (by omega), if_pos (by omega), if_pos (by simp; omega)]
  | n + 1, i, h => by
    have hi : i < l.length := by omega
    have hw : wrap64 ((i : Int) + 1) = ((i + 1 : Nat) : Int) := by rw [w64 (by omega)]; rfl
    obtain ⟨y, hy⟩ : ∃ y, y = rdOf ByteArray.empty l i := ⟨_, rfl⟩
    have hyl : y = l[i] := by rw [hy]; simp [rdOf, hi]
    have hd : l.drop i = y :: l.drop (i + 1) := by rw [hyl]; exact List.drop_eq_getElem_cons hi
    have ht : l.take (i + 1) = l.take i ++ [y] := by rw [List.take_add_one, List.getElem?_eq_getElem hi, hyl]; rfl
    have hyx : y.toList = x.toList ↔ y = x := ⟨fun e => L_inj (by rw [toList_L, toList_L] at e; exact e), fun e => by rw [e]⟩
    by_cases c1 : ltP y x = true
    · have c2 : ¬ ltP x y = true := fun e => ltP_irrefl x (ltP_trans e c1)
      have ih := insert_loop x hl n (i + 1) (by omega)
      refine Ev.step (f := fun k => galloonref01_insert.l0 k l x ((i + 1 : Nat) : Int)) (fun k => ?_) (Ev.to ih ?_)
      · rcases ltP_of.1 c1 with d | ⟨d1, d2⟩
        · simp only [galloonref01_insert.l0]
          rw [if_pos (by omega), if_pos (by omega), ← hy, if_pos (by omega), hw]
        · simp only [galloonref01_insert.l0]
          rw [if_pos (by omega), if_pos (by omega), ← hy, if_neg (by omega), if_pos (by omega), if_pos d2, hw]
      · rw [hd, ht]
        conv => rhs; unfold insP
        rw [if_neg c2, if_pos c1, List.append_assoc]
        rfl
    · have c3 : ¬ y.size < x.size := fun e => c1 (ltP_of.2 (Or.inl e))
      by_cases c4 : y = x
      · have c2 : ¬ ltP x y = true := by rw [c4]; exact ltP_irrefl x
        refine Ev.step (f := fun _ => some l) (fun k => ?_) (Ev.to (Ev.now _) ?_)
        · have c5 : ¬ Op.bytesLess y.toList x.toList = true := fun e => c1 (ltP_of.2 (Or.inr ⟨by rw [c4], e⟩))
          simp only [galloonref01_insert.l0]
          rw [if_pos (by omega), if_pos (by omega), ← hy, if_neg (by omega), if_pos (by rw [c4]), if_neg c5, if_pos (hyx.2 c4)]
        · rw [hd]
          conv => rhs; unfold insP
          rw [if_neg c2, if_neg c1, ← hd, List.take_append_drop]
      · have c2 : ltP x y = true := by
          rcases Bool.eq_false_or_eq_true (ltP x y) with e | e
          · exact e
          · exact absurd (ltP_tri (by rw [e]; simp) c1).symm c4
        refine Ev.step (f := fun _ => some (l.take i ++ (x :: l.drop i))) (fun k => ?_) (Ev.to (Ev.now _) ?_)
        · have hlen : (l.take i).length = i := by rw [List.length_take]; omega
          by_cases c6 : y.size = x.size
          · have c5 : ¬ Op.bytesLess y.toList x.toList = true := fun e => c1 (ltP_of.2 (Or.inr ⟨c6, e⟩))
            simp only [galloonref01_insert.l0]
            rw [if_pos (by omega), if_pos (by omega), ← hy, if_neg (by omega), if_pos (by omega), if_neg c5, if_neg (fun e => c4 (hyx.1 e)), if_pos (by omega)]
            simp only [Option.bind_some, Int.toNat_natCast, List.length_nil, List.nil_append]
            rw [if_pos (by omega), if_pos (by omega), if_pos (by rw [List.length_append, List.length_drop]; simp; omega), List.append_assoc]
            rfl
          · simp only [galloonref01_insert.l0]
            rw [if_pos (by omega), if_pos (by omega), ← hy, if_neg (by omega), if_neg (by omega), if_neg (fun e => c4 (hyx.1 e)), if_pos (by omega)]
            simp only [Option.bind_some, Int.toNat_natCast, List.length_nil, List.nil_append]
            rw [if_pos (by omega), if_pos (by omega), if_pos (by rw [List.length_append, List.length_drop]; simp; omega), List.append_assoc]
            rfl
        · rw [hd]
          conv => rhs; unfold insP
          rw [if_pos c2]
theorem insert_ev {l : List ByteArray} (x : ByteArray) (hl : l.length ≤ 100000) : Ev (fun k => galloonref01_insert.f k l x) (insP x l) := insert_loop x hl l.length 0 (by omega)
end Go.Proofs.Ytbdlhgdfnnbjiaa.PY
/-! The reference's list of palindromes, and the centers. -/
namespace Go.Proofs.Ytbdlhgdfnnbjiaa.PY
open Go.RowKit Go.Sort Go.Proofs.YtbdlhgdfnnbjiaaW.PrintWords Go.Proofs.YtbdlhgdfnnbjiaaW.PrintLast Go.Proofs.Ytbdlhgdfnnbjiaa.Pal
structure Inv (s : ByteArray) (l : List ByteArray) (a0 b0 m : Nat) : Prop where
  S : l.Pairwise (fun a b => ltP a b = true)
  M : ∀ y, y ∈ l ↔ ∃ a b, IsPalAt s a b ∧ (a < a0 ∨ (a = a0 ∧ b < b0)) ∧ y = s.extract a b
  K : l.length ≤ m
theorem rpals_l1 {s : ByteArray} (hs : s.size ≤ 100) {a : Nat} (ha : a < s.size) (R : List ByteArray) : ∀ (n b m : Nat) (l : List ByteArray), b + n = s.size + 1 → a + 1 ≤ b → Inv s l a b m → m + n ≤ 100000 → (∀ l', Inv s l' (a + 1) 0 (m + n) → Ev (fun k => galloonref01_Palindromes.l0 k s l' ((a + 1 : Nat) : Int)) R) → Ev (fun k => galloonref01_Palindromes.l1 k s l a b) R
  | 0, b, m, l, h, hab, hI, hm, hE => by
    have hw : wrap64 ((a : Int) + 1) = ((a + 1 : Nat) : Int) := by rw [w64 (by omega)]; rfl
    refine Ev.step (f := fun k => galloonref01_Palindromes.l0 k s l ((a + 1 : Nat) : Int)) (fun k => ?_) (hE l ⟨hI.S, fun y => ?_, hI.K⟩)
    · simp only [galloonref01_Palindromes.l1]
      rw [if_neg (by omega), hw]
    · rw [hI.M]
      constructor
      · rintro ⟨p, q, h1, h2, h3⟩
        exact ⟨p, q, h1, by omega, h3⟩
      · rintro ⟨p, q, h1, h2, h3⟩
        have := h1.2.1
        exact ⟨p, q, h1, by omega, h3⟩
  | n + 1, b, m, l, h, hab, hI, hm, hE => by
    have hw : wrap64 ((b : Int) + 1) = ((b + 1 : Nat) : Int) := by rw [w64 (by omega)]; rfl
    have hx : L (s.extract (a : Int).toNat (b : Int).toNat) = seg (L s) a b := by rw [Int.toNat_natCast, Int.toNat_natCast, seg_L]
    have hp : Ev (fun k => galloonref01_Palindrome.f k (s.extract (a : Int).toNat (b : Int).toNat)) (decide (Pal (seg (L s) a b))) := by
      rw [← hx]; exact rpal_ev (by rw [ByteArray.size_extract]; omega)
    refine Ev.step (f := fun k => (galloonref01_Palindrome.f k (s.extract (a : Int).toNat (b : Int).toNat)).bind fun t => if t = true then ((galloonref01_insert.f k l (s.extract (a : Int).toNat (b : Int).toNat)).bind fun t291 => galloonref01_Palindromes.l1 k s t291 a ((b + 1 : Nat) : Int)) else galloonref01_Palindromes.l1 k s l a ((b + 1 : Nat) : Int)) (fun k => ?_) (Ev.bind hp ?_)
    · simp only [galloonref01_Palindromes.l1]
      rw [if_pos (by omega), if_pos (by omega), if_pos (by omega), hw]
    · by_cases c : Pal (seg (L s) a b)
      · refine Ev.ite_true (decide_eq_true c) (Ev.bind (insert_ev _ (by have := hI.K; omega)) ?_)
        rw [Int.toNat_natCast, Int.toNat_natCast]
        have hl := insP_len (s.extract a b) l
        refine rpals_l1 hs ha R n (b + 1) (m + 1) _ (by omega) (by omega) ⟨insP_sorted _ _ hI.S, fun y => ?_, by have := hI.K; omega⟩ (by omega) (fun l' hl' => hE l' ⟨hl'.S, hl'.M, by have := hl'.K; omega⟩)
        rw [insP_mem, hI.M]
        constructor
        · rintro (rfl | ⟨p, q, h1, h2, h3⟩)
          · exact ⟨a, b, ⟨by omega, by omega, c⟩, by omega, rfl⟩
          · exact ⟨p, q, h1, by omega, h3⟩
        · rintro ⟨p, q, h1, h2, h3⟩
          by_cases e : p = a ∧ q = b
          · obtain ⟨rfl, rfl⟩ := e
            exact Or.inl h3
          · exact Or.inr ⟨p, q, h1, by omega, h3⟩
      · refine Ev.ite_false (by simpa using c) ?_
        refine rpals_l1 hs ha R n (b + 1) m l (by omega) (by omega) ⟨hI.S, fun y => ?_, hI.K⟩ (by omega) (fun l' hl' => hE l' ⟨hl'.S, hl'.M, by have := hl'.K; omega⟩)
        rw [hI.M]
        constructor
        · rintro ⟨p, q, h1, h2, h3⟩
          exact ⟨p, q, h1, by omega, h3⟩
        · rintro ⟨p, q, h1, h2, h3⟩
          by_cases e : p = a ∧ q = b
          · obtain ⟨rfl, rfl⟩ := e
            exact absurd h1.2.2 c
          · exact ⟨p, q, h1, by omega, h3⟩
theorem rpals_l0 {s : ByteArray} (hs : s.size ≤ 100) : ∀ (n a : Nat) (l : List ByteArray), a + n = s.size → Inv s l a 0 (a * 101) → Ev (fun k => galloonref01_Palindromes.l0 k s l a) (palSpec s)
  | 0, a, l, h, hI => by
    refine Ev.step (f := fun _ => some l) (fun k => ?_) (Ev.to (Ev.now _) (sorted_eq _ _ hI.S (palSpec_sorted s) (fun y => ?_)))
    · simp only [galloonref01_Palindromes.l0]
      rw [if_neg (by omega)]
    · rw [hI.M, palSpec_iff hs]
      constructor
      · rintro ⟨p, q, h1, h2, h3⟩
        exact ⟨p, q, h1, h3⟩
      · rintro ⟨p, q, h1, h3⟩
        have := h1.1
        have := h1.2.1
        exact ⟨p, q, h1, by omega, h3⟩
  | n + 1, a, l, h, hI => by
    have hw : wrap64 ((a : Int) + 1) = ((a + 1 : Nat) : Int) := by rw [w64 (by omega)]; rfl
    refine Ev.step (f := fun k => galloonref01_Palindromes.l1 k s l a ((a + 1 : Nat) : Int)) (fun k => ?_) (rpals_l1 hs (by omega) _ (s.size - a) (a + 1) (a * 101) l (by omega) (Nat.le_refl _) ⟨hI.S, fun y => ?_, hI.K⟩ (by omega) (fun l' hl' => rpals_l0 hs n (a + 1) l' (by omega) ⟨hl'.S, hl'.M, by have := hl'.K; omega⟩))
    · simp only [galloonref01_Palindromes.l0]
      rw [if_pos (by omega), hw]
    · rw [hI.M]
      constructor
      · rintro ⟨p, q, h1, h2, h3⟩
        exact ⟨p, q, h1, by omega, h3⟩
      · rintro ⟨p, q, h1, h2, h3⟩
        have := h1.1
        exact ⟨p, q, h1, by omega, h3⟩
theorem rpals_ev {s : ByteArray} (hs : s.size ≤ 100) : Ev (fun k => galloonref01_Palindromes.f k s) (palSpec s) :=
  rpals_l0 hs s.size 0 [] (by omega) ⟨List.Pairwise.nil, fun y => ⟨fun h => absurd h (by simp), fun ⟨p, q, _, h, _⟩ => by omega⟩, Nat.zero_le _⟩
theorem palSpec_len (s : ByteArray) (hs : s.size ≤ 100) : (palSpec s).length ≤ 100000 := by
  have h1 := partsL_len s hs
  have h2 : ∀ (ts : List (Int × ByteArray)) (l : List ByteArray), (ts.foldl (fun l x => insP x.2 l) l).length ≤ l.length + ts.length := by
    intro ts
    induction ts with
    | nil => intro l; simp
    | cons t ts ih => intro l; have := ih (insP t.2 l); have := insP_len t.2 l; simp only [List.foldl_cons, List.length_cons]; omega
  have := h2 (partsL s) []
  unfold palSpec
  simp at this
  omega
theorem texts_loop {l : List ByteArray} (hl : l.length ≤ 1000000000) : ∀ n i : Nat, i + n = l.length → Ev (fun k => galloonlaw01_texts.l0 k l l i) true
  | 0, i, h => by
    refine Ev.step (f := fun _ => some true) (fun k => ?_) (Ev.now _)
    simp only [galloonlaw01_texts.l0]; rw [if_neg (by omega)]
  | n + 1, i, h => by
    have hw2 : wrap64 ((i : Int) + 1) = ((i + 1 : Nat) : Int) := by rw [w64 (by omega)]; rfl
    refine Ev.step (f := fun k => galloonlaw01_texts.l0 k l l ((i + 1 : Nat) : Int)) (fun k => ?_) (texts_loop hl n (i + 1) (by omega))
    simp only [galloonlaw01_texts.l0]; rw [if_pos (by omega), if_pos (by omega), if_pos (by omega), if_pos trivial, hw2]
theorem texts_ev {l : List ByteArray} (hl : l.length ≤ 1000000000) : Ev (fun k => galloonlaw01_texts.f k l l) true := by
  unfold galloonlaw01_texts.f
  exact Ev.ite_true rfl (texts_loop hl l.length 0 (by omega))
/-! ### centers -/
def cenL (s : ByteArray) : List Int := (List.range (2 * s.size - 1)).map fun c => cen s c
theorem cenL_len (s : ByteArray) : (cenL s).length = 2 * s.size - 1 := by simp [cenL]
theorem cen_some {s : ByteArray} (hs : s.size ≤ 100) {c : Nat} (hc : c + 1 < 2 * s.size) : trim_centered.f 200 s c = some (cen s c) := by
  obtain ⟨i0, e0, q1, _⟩ := cen_spec hs hc
  unfold cen
  rw [q1]; rfl
theorem cenL_take {s : ByteArray} {i : Nat} (h : i < 2 * s.size - 1) : (cenL s).take (i + 1) = (cenL s).take i ++ [cen s i] := by
  have hi : i < (cenL s).length := by rw [cenL_len]; exact h
  rw [List.take_add_one, List.getElem?_eq_getElem hi]
  simp [cenL]
theorem cen_set {s : ByteArray} {i n : Nat} (h : i + (n + 1) = 2 * s.size - 1) : ((cenL s).take i ++ List.replicate (n + 1) 0).set i (cen s i) = (cenL s).take (i + 1) ++ List.replicate n 0 := by
  have hl : ((cenL s).take i).length = i := by rw [List.length_take, cenL_len]; omega
  rw [List.set_append_right _ _ (by omega), hl, Nat.sub_self, cenL_take (by omega), List.append_assoc]
  rfl
theorem centers_loop {s : ByteArray} (hs : s.size ≤ 100) : ∀ n i : Nat, i + n = 2 * s.size - 1 → Ev (fun k => trim_Centers.l0 k s ((cenL s).take i ++ List.replicate n 0) ((2 * s.size - 1 : Nat) : Int) i) (cenL s, 0)
  | 0, i, h => by
    refine Ev.step (f := fun _ => some ((cenL s).take i ++ List.replicate 0 0, 0)) (fun k => ?_) (Ev.to (Ev.now _) ?_)
    · simp only [trim_Centers.l0]; rw [if_neg (by omega)]
    · rw [List.take_of_length_le (by rw [cenL_len]; omega)]; simp
  | n + 1, i, h => by
    have hw : wrap64 ((i : Int) + 1) = ((i + 1 : Nat) : Int) := by rw [w64 (by omega)]; rfl
    have hc : Ev (fun k => trim_centered.f k s i) (cen s i) := Ev.of (trim_centered.mono s i) (cen_some hs (by omega))
    refine Ev.step (f := fun k => (trim_centered.f k s i).bind fun t => trim_Centers.l0 k s (((cenL s).take i ++ List.replicate (n + 1) 0).set i t) ((2 * s.size - 1 : Nat) : Int) ((i + 1 : Nat) : Int)) (fun k => ?_) (Ev.bind hc ?_)
    · simp only [trim_Centers.l0]
      have h3 : (0 : Int) ≤ (i : Int) := by omega
      have h4 : (i : Int) < (((cenL s).take i ++ List.replicate (n + 1) 0).length : Int) := by rw [List.length_append, List.length_take, cenL_len, List.length_replicate]; omega
      rw [if_pos (by omega)]
      simp only [if_pos h3, if_pos h4, hw, Int.toNat_natCast]
    · rw [cen_set h]
      exact centers_loop hs n (i + 1) (by omega)
theorem Centers_ev {s : ByteArray} (h : Word s) : Ev (fun k => trim_Centers.f k s) (cenL s, 0) := by
  have hs := h.1
  have hm : mx 0 (wrap64 ((wrap64 (2 * (s.size : Int))) - 1)) = ((2 * s.size - 1 : Nat) : Int) := by
    rw [w64 (n := 2 * (s.size : Int)) (by omega), w64 (by omega)]
    unfold mx
    split <;> omega
  have h1 : (0 : Int) ≤ ((2 * s.size - 1 : Nat) : Int) := Int.natCast_nonneg _
  have h2 : 2 * s.size - 1 ≤ 35184372088832 := by omega
  have h3 := centers_loop hs (2 * s.size - 1) 0 (Nat.zero_add _)
  rw [List.take_zero, List.nil_append, show (((0 : Nat)) : Int) = (0 : Int) from rfl] at h3
  obtain ⟨m, hmm⟩ : ∃ m, m = 2 * s.size - 1 := ⟨_, rfl⟩
  rw [← hmm] at hm h1 h2 h3
  have e : ∀ k, trim_Centers.f k s = trim_Centers.l0 k s (List.replicate m 0) (m : Int) 0 := by
    intro k
    unfold trim_Centers.f
    rw [isWord_yes h, Option.bind_some, if_pos rfl, hm, if_pos h1, Int.toNat_natCast, if_pos h2, Option.bind_some, List.length_replicate]
  exact Ev.congr e h3
theorem rcen_l1 {s : ByteArray} (R : List Int) (x3 : List Int) (hx : x3.length ≤ 1000) (c : Nat) (hc : c ≤ 1000) (v : Int) (hE : Ev (fun k => galloonref01_Centers.l0 k s (x3 ++ [v]) ((c + 1 : Nat) : Int)) R) : ∀ (k0 : Nat) (i j : Int), trim_centered.l0 k0 s i j = some v → Ev (fun k => galloonref01_Centers.l1 k s x3 c i j) R
  | 0, i, j, h => by simp [trim_centered.l0] at h
  | k0 + 1, i, j, h => by
    have hw : wrap64 ((c : Int) + 1) = ((c + 1 : Nat) : Int) := by rw [w64 (by omega)]; rfl
    have hlt : x3.length < 17592186044416 := by omega
    simp only [trim_centered.l0] at h
    by_cases c1 : i > 0
    · rw [if_pos c1] at h
      by_cases c2 : wrap64 (j + 1) < (s.size : Int)
      · rw [if_pos c2] at h
        by_cases c3 : 0 ≤ wrap64 (i - 1)
        · rw [if_pos c3] at h
          by_cases c4 : wrap64 (i - 1) < (s.size : Int)
          · rw [if_pos c4] at h
            by_cases c5 : 0 ≤ wrap64 (j + 1)
            · rw [if_pos c5] at h
              by_cases c6 : bt s (wrap64 (i - 1)) = bt s (wrap64 (j + 1))
              · rw [if_pos c6] at h
                refine Ev.step (f := fun k => galloonref01_Centers.l1 k s x3 c (wrap64 (i - 1)) (wrap64 (j + 1))) (fun k => ?_) (rcen_l1 R x3 hx c hc v hE k0 _ _ h)
                simp only [galloonref01_Centers.l1]
                rw [if_pos c1, if_pos c2, if_pos c3, if_pos c4, if_pos c5, if_pos c6]
              · rw [if_neg c6] at h
                refine Ev.step (f := fun k => galloonref01_Centers.l0 k s (x3 ++ [v]) ((c + 1 : Nat) : Int)) (fun k => ?_) hE
                simp only [galloonref01_Centers.l1]
                rw [if_pos c1, if_pos c2, if_pos c3, if_pos c4, if_pos c5, if_neg c6, if_pos hlt, hw, Option.some.inj h]
            · rw [if_neg c5] at h; cases h
          · rw [if_neg c4] at h; cases h
        · rw [if_neg c3] at h; cases h
      · rw [if_neg c2] at h
        refine Ev.step (f := fun k => galloonref01_Centers.l0 k s (x3 ++ [v]) ((c + 1 : Nat) : Int)) (fun k => ?_) hE
        simp only [galloonref01_Centers.l1]
        rw [if_pos c1, if_neg c2, if_pos hlt, hw, Option.some.inj h]
    · rw [if_neg c1] at h
      refine Ev.step (f := fun k => galloonref01_Centers.l0 k s (x3 ++ [v]) ((c + 1 : Nat) : Int)) (fun k => ?_) hE
      simp only [galloonref01_Centers.l1]
      rw [if_neg c1, if_pos hlt, hw, Option.some.inj h]
theorem rcen_l0 {s : ByteArray} (hs : s.size ≤ 100) : ∀ n i : Nat, i + n = 2 * s.size - 1 → Ev (fun k => galloonref01_Centers.l0 k s ((cenL s).take i) i) (cenL s)
  | 0, i, h => by
    have hw : wrap64 ((wrap64 (2 * (s.size : Int))) - 1) = 2 * (s.size : Int) - 1 := by rw [w64 (n := 2 * (s.size : Int)) (by omega), w64 (by omega)]
    refine Ev.step (f := fun _ => some ((cenL s).take i)) (fun k => ?_) (Ev.to (Ev.now _) (List.take_of_length_le (by rw [cenL_len]; omega)))
    simp only [galloonref01_Centers.l0]; rw [hw, if_neg (by omega)]
  | n + 1, i, h => by
    have hw : wrap64 ((wrap64 (2 * (s.size : Int))) - 1) = 2 * (s.size : Int) - 1 := by rw [w64 (n := 2 * (s.size : Int)) (by omega), w64 (by omega)]
    refine Ev.step (f := fun k => galloonref01_Centers.l1 k s ((cenL s).take i) i (wrap64 (Int.tdiv (wrap64 ((i : Int) + 1)) 2)) (wrap64 (Int.tdiv (i : Int) 2))) (fun k => ?_) ?_
    · simp only [galloonref01_Centers.l0]; rw [hw, if_pos (by omega)]
    · refine rcen_l1 _ _ (by rw [List.length_take, cenL_len]; omega) i (by omega) (cen s i) ?_ 200 _ _ (cen_some hs (by omega))
      rw [← cenL_take (by omega)]
      exact rcen_l0 hs n (i + 1) (by omega)
theorem rcen_ev {s : ByteArray} (hs : s.size ≤ 100) : Ev (fun k => galloonref01_Centers.f k s) (cenL s) := by
  have := rcen_l0 hs (2 * s.size - 1) 0 (by omega)
  simpa [galloonref01_Centers.f] using this
theorem Palindromes_yes {s : ByteArray} (h : Word s) : trim_Palindromes.f s = some (palSpec s, 0) := by
  unfold trim_Palindromes.f
  rw [isWord_yes h]
  rfl
end Go.Proofs.Ytbdlhgdfnnbjiaa.PY
/-! Occurrences, the longest one; TrimPalindromes. -/
namespace Go.Proofs.Ytbdlhgdfnnbjiaa.PY
open Go.RowKit Go.Sort Go.Proofs.YtbdlhgdfnnbjiaaW.PrintWords Go.Proofs.YtbdlhgdfnnbjiaaW.PrintLast Go.Proofs.Ytbdlhgdfnnbjiaa.Pal
def lstB (l : List UInt8) (a : Nat) : Nat → Nat → List (Nat × Nat)
  | 0, _ => []
  | n + 1, b => if Pal (seg l a b) then (a, b) :: lstB l a n (b + 1) else lstB l a n (b + 1)
def lstA (l : List UInt8) (N : Nat) : Nat → Nat → List (Nat × Nat)
  | 0, _ => []
  | n + 1, a => lstB l a (N - a) (a + 1) ++ lstA l N n (a + 1)
theorem mem_lstB {l : List UInt8} {a p q : Nat} : ∀ n b, (p, q) ∈ lstB l a n b ↔ p = a ∧ b ≤ q ∧ q < b + n ∧ Pal (seg l a q)
  | 0, b => by simp [lstB]; omega
  | n + 1, b => by
    have ih := mem_lstB (l := l) (a := a) (p := p) (q := q) n (b + 1)
    unfold lstB
    by_cases c : Pal (seg l a b)
    · rw [if_pos c, List.mem_cons, ih]
      constructor
      · rintro (h | ⟨h1, h2, h3, h4⟩)
        · obtain ⟨rfl, rfl⟩ := Prod.mk.inj h
          exact ⟨rfl, by omega, by omega, c⟩
        · exact ⟨h1, by omega, by omega, h4⟩
      · rintro ⟨h1, h2, h3, h4⟩
        by_cases e : q = b
        · left; rw [h1, e]
        · exact Or.inr ⟨h1, by omega, by omega, h4⟩
    · rw [if_neg c, ih]
      constructor
      · rintro ⟨h1, h2, h3, h4⟩
        exact ⟨h1, by omega, by omega, h4⟩
      · rintro ⟨h1, h2, h3, h4⟩
        by_cases e : q = b
        · rw [e] at h4; exact absurd h4 c
        · exact ⟨h1, by omega, by omega, h4⟩
theorem mem_lstA {l : List UInt8} {N p q : Nat} : ∀ n a, a + n = N → ((p, q) ∈ lstA l N n a ↔ a ≤ p ∧ p < q ∧ q ≤ N ∧ Pal (seg l p q))
  | 0, a, h => by simp [lstA]; omega
  | n + 1, a, h => by
    have ih := mem_lstA (l := l) (N := N) (p := p) (q := q) n (a + 1) (by omega)
    unfold lstA
    rw [List.mem_append, mem_lstB, ih]
    constructor
    · rintro (⟨rfl, h2, h3, h4⟩ | ⟨h1, h2, h3, h4⟩)
      · exact ⟨Nat.le_refl _, by omega, by omega, h4⟩
      · exact ⟨by omega, h2, h3, h4⟩
    · rintro ⟨h1, h2, h3, h4⟩
      by_cases e : p = a
      · left; exact ⟨e, by omega, by omega, by rw [← e]; exact h4⟩
      · exact Or.inr ⟨by omega, h2, h3, h4⟩
theorem nodup_lstB {l : List UInt8} {a : Nat} : ∀ n b, (lstB l a n b).Nodup
  | 0, b => List.nodup_nil
  | n + 1, b => by
    unfold lstB
    split
    · refine List.nodup_cons.2 ⟨fun h => ?_, nodup_lstB n (b + 1)⟩
      have := (mem_lstB n (b + 1)).1 h
      omega
    · exact nodup_lstB n (b + 1)
theorem nodup_lstA {l : List UInt8} {N : Nat} : ∀ n a, a + n = N → (lstA l N n a).Nodup
  | 0, a, h => List.nodup_nil
  | n + 1, a, h => by
    unfold lstA
    refine List.nodup_append.2 ⟨nodup_lstB _ _, nodup_lstA n (a + 1) (by omega), ?_⟩
    rintro ⟨p, q⟩ h1 ⟨p', q'⟩ h2 e
    obtain ⟨rfl, rfl⟩ := Prod.mk.inj e
    have := (mem_lstB _ _).1 h1
    have := (mem_lstA n (a + 1) (by omega)).1 h2
    omega
theorem nodup_partsC {s : ByteArray} {c : Nat} : ∀ (k i0 e0 : Nat), i0 + e0 = c + 1 → (partsC s c k ((e0 : Int) - i0)).Nodup
  | 0, i0, e0, h => by simp [partsC]
  | k + 1, i0, e0, h => by
    by_cases c1 : (0 : Int) < (e0 : Int) - i0
    · have hp : ((c : Int) + 1 - ((e0 : Int) - i0)) / 2 = (i0 : Int) := by omega
      rw [partsC_pos s c k _ c1, hp]
      by_cases c2 : i0 + 2 ≤ e0
      · have e : (e0 : Int) - i0 - 2 = ((e0 - 1 : Nat) : Int) - ((i0 + 1 : Nat) : Int) := by omega
        rw [e]
        refine List.nodup_cons.2 ⟨fun h1 => ?_, nodup_partsC k (i0 + 1) (e0 - 1) (by omega)⟩
        obtain ⟨d, _, _, h2⟩ := (mem_partsC k (i0 + 1) (e0 - 1) _ (by omega)).1 h1
        have := (Prod.mk.inj h2).1
        omega
      · rw [partsC_neg s c k _ (by omega)]
        exact List.nodup_cons.2 ⟨by simp, List.nodup_nil⟩
    · rw [partsC_neg s c _ _ c1]; exact List.nodup_nil
theorem nodup_partsL {s : ByteArray} (hs : s.size ≤ 100) : (partsL s).Nodup := by
  unfold partsL partsU
  have key : ∀ c, c ∈ List.range (2 * s.size - 1) → ∃ i0 e0 : Nat, i0 + e0 = c + 1 ∧ e0 ≤ s.size ∧ cen s c = (e0 : Int) - i0 := by
    intro c hc
    rw [List.mem_range] at hc
    obtain ⟨i0, e0, q1, q2, q3, q4, q5, q6⟩ := cen_spec hs (c := c) (by omega)
    exact ⟨i0, e0, q2, q4, by unfold cen; rw [q1]; rfl⟩
  refine List.pairwise_flatMap.2 ⟨fun c hc => ?_, ?_⟩
  · obtain ⟨i0, e0, q2, _, q⟩ := key c hc
    rw [q]
    exact nodup_partsC 101 i0 e0 q2
  · have hn : (List.range (2 * s.size - 1)).Pairwise (· ≠ ·) := List.nodup_range
    refine List.Pairwise.imp_of_mem ?_ hn
    intro c c' hc hc' hne x hx y hy e
    obtain ⟨i0, e0, q2, q4, q⟩ := key c hc
    obtain ⟨i1, e1, r2, r4, r⟩ := key c' hc'
    rw [q] at hx
    rw [r] at hy
    obtain ⟨d, d1, d2, rfl⟩ := (mem_partsC 101 i0 e0 _ q2).1 hx
    obtain ⟨d', d1', d2', h2⟩ := (mem_partsC 101 i1 e1 _ r2).1 hy
    rw [h2] at e
    have e1' := (Prod.mk.inj e).1
    have e2 := congrArg ByteArray.size (Prod.mk.inj e).2
    rw [ByteArray.size_extract, ByteArray.size_extract] at e2
    omega
theorem partsL_count {s : ByteArray} (hs : s.size ≤ 100) : (partsL s).length = (lstA (L s) s.size s.size 0).length := by
  have hm : ((lstA (L s) s.size s.size 0).map fun p => ((p.1 : Int), s.extract p.1 p.2)).Nodup := by
    refine List.pairwise_map.2 (List.Pairwise.imp_of_mem ?_ (nodup_lstA (l := L s) (N := s.size) s.size 0 (by omega)))
    rintro ⟨p, q⟩ ⟨p', q'⟩ h1 h2 hne e
    have a1 := (mem_lstA s.size 0 (by omega)).1 h1
    have a2 := (mem_lstA s.size 0 (by omega)).1 h2
    have e1 := (Prod.mk.inj e).1
    have e2 := congrArg ByteArray.size (Prod.mk.inj e).2
    simp only [ByteArray.size_extract] at e1 e2
    exact hne (by rw [show p = p' by omega, show q = q' by omega])
  have hp : (partsL s).Perm ((lstA (L s) s.size s.size 0).map fun p => ((p.1 : Int), s.extract p.1 p.2)) := by
    refine (List.perm_ext_iff_of_nodup (nodup_partsL hs) hm).2 (fun t => ?_)
    rw [mem_partsL hs, List.mem_map]
    constructor
    · rintro ⟨a, b, ⟨h1, h2, h3⟩, rfl⟩
      exact ⟨(a, b), (mem_lstA s.size 0 (by omega)).2 ⟨by omega, h1, h2, h3⟩, rfl⟩
    · rintro ⟨⟨a, b⟩, h, rfl⟩
      have h1 := (mem_lstA s.size 0 (by omega)).1 h
      exact ⟨a, b, ⟨h1.2.1, h1.2.2.1, h1.2.2.2⟩, rfl⟩
  rw [hp.length_eq, List.length_map]
theorem rocc_l1 {s : ByteArray} (hs : s.size ≤ 100) {a : Nat} (ha : a < s.size) (R : Int) : ∀ (n b m : Nat), b + n = s.size + 1 → a + 1 ≤ b → m + n ≤ 100000 → Ev (fun k => galloonref01_Occurrences.l0 k s ((m + (lstB (L s) a n b).length : Nat) : Int) ((a + 1 : Nat) : Int)) R → Ev (fun k => galloonref01_Occurrences.l1 k s (m : Int) a b) R
  | 0, b, m, h, hab, hm, hE => by
    have hw : wrap64 ((a : Int) + 1) = ((a + 1 : Nat) : Int) := by rw [w64 (by omega)]; rfl
    refine Ev.step (f := fun k => galloonref01_Occurrences.l0 k s (m : Int) ((a + 1 : Nat) : Int)) (fun k => ?_) hE
    simp only [galloonref01_Occurrences.l1]
    rw [if_neg (by omega), hw]
  | n + 1, b, m, h, hab, hm, hE => by
    have hw : wrap64 ((b : Int) + 1) = ((b + 1 : Nat) : Int) := by rw [w64 (by omega)]; rfl
    have hw2 : wrap64 ((m : Int) + 1) = ((m + 1 : Nat) : Int) := by rw [w64 (by omega)]; rfl
    have hx : L (s.extract (a : Int).toNat (b : Int).toNat) = seg (L s) a b := by rw [Int.toNat_natCast, Int.toNat_natCast, seg_L]
    have hp : Ev (fun k => galloonref01_Palindrome.f k (s.extract (a : Int).toNat (b : Int).toNat)) (decide (Pal (seg (L s) a b))) := by
      rw [← hx]; exact rpal_ev (by rw [ByteArray.size_extract]; omega)
    refine Ev.step (f := fun k => (galloonref01_Palindrome.f k (s.extract (a : Int).toNat (b : Int).toNat)).bind fun t => if t = true then galloonref01_Occurrences.l1 k s ((m + 1 : Nat) : Int) a ((b + 1 : Nat) : Int) else galloonref01_Occurrences.l1 k s (m : Int) a ((b + 1 : Nat) : Int)) (fun k => ?_) (Ev.bind hp ?_)
    · simp only [galloonref01_Occurrences.l1]
      rw [if_pos (by omega), if_pos (by omega), if_pos (by omega), hw, hw2]
    · unfold lstB at hE
      by_cases c : Pal (seg (L s) a b)
      · rw [if_pos c, List.length_cons, show m + ((lstB (L s) a n (b + 1)).length + 1) = m + 1 + (lstB (L s) a n (b + 1)).length by omega] at hE
        exact Ev.ite_true (decide_eq_true c) (rocc_l1 hs ha R n (b + 1) (m + 1) (by omega) (by omega) (by omega) hE)
      · rw [if_neg c] at hE
        exact Ev.ite_false (by simpa using c) (rocc_l1 hs ha R n (b + 1) m (by omega) (by omega) (by omega) hE)
theorem lstB_len (l : List UInt8) (a : Nat) : ∀ n b, (lstB l a n b).length ≤ n
  | 0, _ => Nat.le_refl _
  | n + 1, b => by
    have := lstB_len l a n (b + 1)
    unfold lstB
    split
    · rw [List.length_cons]; omega
    · omega
theorem rocc_l0 {s : ByteArray} (hs : s.size ≤ 100) : ∀ (n a m : Nat), a + n = s.size → m ≤ a * 101 → Ev (fun k => galloonref01_Occurrences.l0 k s (m : Int) a) ((m + (lstA (L s) s.size n a).length : Nat) : Int)
  | 0, a, m, h, hm => by
    refine Ev.step (f := fun _ => some (m : Int)) (fun k => ?_) (Ev.now _)
    simp only [galloonref01_Occurrences.l0]
    rw [if_neg (by omega)]
  | n + 1, a, m, h, hm => by
    have hw : wrap64 ((a : Int) + 1) = ((a + 1 : Nat) : Int) := by rw [w64 (by omega)]; rfl
    have hl := lstB_len (L s) a (s.size - a) (a + 1)
    refine Ev.step (f := fun k => galloonref01_Occurrences.l1 k s (m : Int) a ((a + 1 : Nat) : Int)) (fun k => ?_) (rocc_l1 hs (by omega) _ (s.size - a) (a + 1) m (by omega) (Nat.le_refl _) (by omega) (Ev.to (rocc_l0 hs n (a + 1) (m + (lstB (L s) a (s.size - a) (a + 1)).length) (by omega) (by omega)) ?_))
    · simp only [galloonref01_Occurrences.l0]
      rw [if_pos (by omega), hw]
    · conv => rhs; unfold lstA
      rw [List.length_append, Nat.add_assoc]
theorem rocc_ev {s : ByteArray} (hs : s.size ≤ 100) : Ev (fun k => galloonref01_Occurrences.f k s) ((partsL s).length : Int) := by
  have := rocc_l0 hs s.size 0 0 (by omega) (Nat.zero_le _)
  rw [Nat.zero_add, ← partsL_count hs] at this
  exact this
/-! ### the longest one -/
def BestP (s : ByteArray) (V : Nat → Nat → Prop) (r : Int × Int) : Prop := (∀ a b, IsPalAt s a b → V a b → ((b : Int) - a < r.2 ∨ ((b : Int) - a = r.2 ∧ r.1 ≤ a))) ∧ (r = (0, 0) ∨ ∃ a b : Nat, IsPalAt s a b ∧ V a b ∧ r = ((a : Int), (b : Int) - a))
theorem best_eq {s : ByteArray} {r r' : Int × Int} (h : BestP s (fun _ _ => True) r) (h' : BestP s (fun _ _ => True) r') : r = r' := by
  obtain ⟨h1, h2⟩ := h
  obtain ⟨h1', h2'⟩ := h'
  rcases h2 with rfl | ⟨a, b, hp, _, rfl⟩ <;> rcases h2' with rfl | ⟨a', b', hp', _, rfl⟩
  · rfl
  · have := h1 a' b' hp' trivial
    have := hp'.1
    (try simp only at this); omega
  · have := h1' a b hp trivial
    have := hp.1
    (try simp only at this); omega
  · have e1 := h1 a' b' hp' trivial
    have e2 := h1' a b hp trivial
    simp only at e1 e2
    have : a = a' := by omega
    have : (b : Int) - a = (b' : Int) - a' := by omega
    subst a'
    rw [this]
theorem long_fold {s : ByteArray} : ∀ (ts : List (Int × ByteArray)) (V : Nat → Nat → Prop) (r : Int × Int), (∀ t ∈ ts, ∃ a b : Nat, IsPalAt s a b ∧ t = ((a : Int), s.extract a b)) → BestP s V r → BestP s (fun a b => V a b ∨ ((a : Int), s.extract a b) ∈ ts) (ts.foldl longStep r)
  | [], V, r, _, h => ⟨fun a b h1 h2 => h.1 a b h1 (h2.resolve_right (by simp)), h.2.imp id (fun ⟨a, b, h1, h2, h3⟩ => ⟨a, b, h1, Or.inl h2, h3⟩)⟩
  | t :: ts, V, r, ht, h => by
    obtain ⟨a, b, hp, rfl⟩ := ht t (List.mem_cons_self ..)
    have hsz : ((s.extract a b).size : Int) = (b : Int) - a := by rw [ByteArray.size_extract]; have := hp.1; have := hp.2.1; omega
    have step : BestP s (fun p q => V p q ∨ ((p : Int), s.extract p q) = ((a : Int), s.extract a b)) (longStep r ((a : Int), s.extract a b)) := by
      have huniq : ∀ p q, IsPalAt s p q → ((p : Int), s.extract p q) = ((a : Int), s.extract a b) → p = a ∧ q = b := by
        intro p q hq e
        have e1 := (Prod.mk.inj e).1
        have e2 := congrArg ByteArray.size (Prod.mk.inj e).2
        rw [ByteArray.size_extract, ByteArray.size_extract] at e2
        have := hq.1; have := hq.2.1; have := hp.1; have := hp.2.1
        omega
      unfold longStep
      simp only [hsz]
      by_cases c : r.2 < (b : Int) - a ∨ ((b : Int) - a = r.2 ∧ (a : Int) < r.1)
      · rw [if_pos c]
        refine ⟨fun p q h1 h2 => ?_, Or.inr ⟨a, b, hp, Or.inr rfl, rfl⟩⟩
        rcases h2 with h2 | h2
        · have := h.1 p q h1 h2
          simp only
          omega
        · obtain ⟨rfl, rfl⟩ := huniq p q h1 h2
          exact Or.inr ⟨rfl, Int.le_refl _⟩
      · rw [if_neg c]
        refine ⟨fun p q h1 h2 => ?_, h.2.imp id (fun ⟨a, b, h1, h2, h3⟩ => ⟨a, b, h1, Or.inl h2, h3⟩)⟩
        rcases h2 with h2 | h2
        · exact h.1 p q h1 h2
        · obtain ⟨rfl, rfl⟩ := huniq p q h1 h2
          omega
    have ih := long_fold ts _ _ (fun t h1 => ht t (List.mem_cons_of_mem _ h1)) step
    refine ⟨fun p q h1 h2 => ih.1 p q h1 ?_, ih.2.imp id (fun ⟨p, q, h1, h2, h3⟩ => ⟨p, q, h1, ?_, h3⟩)⟩
    · rcases h2 with h2 | h2
      · exact Or.inl (Or.inl h2)
      · rcases List.mem_cons.1 h2 with h2 | h2
        · exact Or.inl (Or.inr h2)
        · exact Or.inr h2
    · rcases h2 with (h2 | h2) | h2
      · exact Or.inl h2
      · exact Or.inr (List.mem_cons.2 (Or.inl h2))
      · exact Or.inr (List.mem_cons_of_mem _ h2)
theorem long_best {s : ByteArray} (hs : s.size ≤ 100) : BestP s (fun _ _ => True) (longSpec s) := by
  have h := long_fold (s := s) (partsL s) (fun _ _ => False) (0, 0) (fun t ht => (mem_partsL hs t).1 ht) ⟨fun _ _ _ h => h.elim, Or.inl rfl⟩
  refine ⟨fun a b h1 _ => h.1 a b h1 (Or.inr ((mem_partsL hs _).2 ⟨a, b, h1, rfl⟩)), h.2.imp id (fun ⟨a, b, h1, _, h3⟩ => ⟨a, b, h1, trivial, h3⟩)⟩
theorem rlong_l1 {s : ByteArray} (hs : s.size ≤ 100) {a : Nat} (ha : a < s.size) (R : Int × Int) : ∀ (n b : Nat) (r : Int × Int), b + n = s.size + 1 → a + 1 ≤ b → BestP s (fun p q => p < a ∨ (p = a ∧ q < b)) r → (∀ r', BestP s (fun p q => p < a + 1) r' → Ev (fun k => galloonref01_Longest.l0 k s r'.1 r'.2 ((a + 1 : Nat) : Int)) R) → Ev (fun k => galloonref01_Longest.l1 k s r.1 r.2 a b) R
  | 0, b, r, h, hab, hB, hE => by
    have hw : wrap64 ((a : Int) + 1) = ((a + 1 : Nat) : Int) := by rw [w64 (by omega)]; rfl
    refine Ev.step (f := fun k => galloonref01_Longest.l0 k s r.1 r.2 ((a + 1 : Nat) : Int)) (fun k => ?_) (hE r ⟨fun p q h1 h2 => hB.1 p q h1 (by have := h1.2.1; omega), hB.2.imp id (fun ⟨p, q, h1, h2, h3⟩ => ⟨p, q, h1, by omega, h3⟩)⟩)
    simp only [galloonref01_Longest.l1]
    rw [if_neg (by omega), hw]
  | n + 1, b, r, h, hab, hB, hE => by
    have hw : wrap64 ((b : Int) + 1) = ((b + 1 : Nat) : Int) := by rw [w64 (by omega)]; rfl
    have hw2 : wrap64 ((b : Int) - a) = (b : Int) - a := w64 (by omega)
    have hx : L (s.extract (a : Int).toNat (b : Int).toNat) = seg (L s) a b := by rw [Int.toNat_natCast, Int.toNat_natCast, seg_L]
    have hp : Ev (fun k => galloonref01_Palindrome.f k (s.extract (a : Int).toNat (b : Int).toNat)) (decide (Pal (seg (L s) a b))) := by
      rw [← hx]; exact rpal_ev (by rw [ByteArray.size_extract]; omega)
    have grow : ∀ r' : Int × Int, (IsPalAt s a b → ((b : Int) - a < r'.2 ∨ ((b : Int) - a = r'.2 ∧ r'.1 ≤ a))) → r' = r → BestP s (fun p q => p < a ∨ (p = a ∧ q < b + 1)) r' := by
      rintro r' h1 rfl
      refine ⟨fun p q h2 h3 => ?_, hB.2.imp id (fun ⟨p, q, h1, h2, h3⟩ => ⟨p, q, h1, by omega, h3⟩)⟩
      by_cases e : p = a ∧ q = b
      · obtain ⟨rfl, rfl⟩ := e
        exact h1 h2
      · exact hB.1 p q h2 (by omega)
    by_cases c0 : (b : Int) - a > r.2
    · refine Ev.step (f := fun k => (galloonref01_Palindrome.f k (s.extract (a : Int).toNat (b : Int).toNat)).bind fun t => if t = true then galloonref01_Longest.l1 k s (a : Int) ((b : Int) - a) a ((b + 1 : Nat) : Int) else galloonref01_Longest.l1 k s r.1 r.2 a ((b + 1 : Nat) : Int)) (fun k => ?_) (Ev.bind hp ?_)
      · simp only [galloonref01_Longest.l1]
        rw [if_pos (by omega), hw2, if_pos c0, if_pos (by omega), if_pos (by omega), hw]
      · by_cases c : Pal (seg (L s) a b)
        · refine Ev.ite_true (decide_eq_true c) (rlong_l1 hs ha R n (b + 1) ((a : Int), (b : Int) - a) (by omega) (by omega) ⟨fun p q h2 h3 => ?_, Or.inr ⟨a, b, ⟨by omega, by omega, c⟩, by omega, rfl⟩⟩ hE)
          by_cases e : p = a ∧ q = b
          · obtain ⟨rfl, rfl⟩ := e
            exact Or.inr ⟨rfl, Int.le_refl _⟩
          · have := hB.1 p q h2 (by omega)
            simp only
            omega
        · exact Ev.ite_false (by simpa using c) (rlong_l1 hs ha R n (b + 1) r (by omega) (by omega) (grow r (fun h => absurd h.2.2 c) rfl) hE)
    · refine Ev.step (f := fun k => galloonref01_Longest.l1 k s r.1 r.2 a ((b + 1 : Nat) : Int)) (fun k => ?_) (rlong_l1 hs ha R n (b + 1) r (by omega) (by omega) (grow r (fun h => ?_) rfl) hE)
      · simp only [galloonref01_Longest.l1]
        rw [if_pos (by omega), hw2, if_neg c0, hw]
      · rcases hB.2 with e | ⟨p, q, h1, h2, h3⟩
        · rw [e] at c0; simp only at c0; omega
        · rw [h3] at c0 ⊢
          simp only at c0 ⊢
          omega
theorem rlong_l0 {s : ByteArray} (hs : s.size ≤ 100) : ∀ (n a : Nat) (r : Int × Int), a + n = s.size → BestP s (fun p _ => p < a) r → Ev (fun k => galloonref01_Longest.l0 k s r.1 r.2 a) (longSpec s)
  | 0, a, r, h, hB => by
    refine Ev.step (f := fun _ => some (r.1, r.2)) (fun k => ?_) (Ev.to (Ev.now _) (best_eq ⟨fun p q h1 _ => hB.1 p q h1 (by have := h1.1; have := h1.2.1; omega), hB.2.imp id (fun ⟨p, q, h1, _, h3⟩ => ⟨p, q, h1, trivial, h3⟩)⟩ (long_best hs)))
    simp only [galloonref01_Longest.l0]
    rw [if_neg (by omega)]
  | n + 1, a, r, h, hB => by
    have hw : wrap64 ((a : Int) + 1) = ((a + 1 : Nat) : Int) := by rw [w64 (by omega)]; rfl
    refine Ev.step (f := fun k => galloonref01_Longest.l1 k s r.1 r.2 a ((a + 1 : Nat) : Int)) (fun k => ?_) (rlong_l1 hs (by omega) _ (s.size - a) (a + 1) r (by omega) (Nat.le_refl _) ⟨fun p q h1 h2 => hB.1 p q h1 (by have := h1.1; omega), hB.2.imp id (fun ⟨p, q, h1, h2, h3⟩ => ⟨p, q, h1, by omega, h3⟩)⟩ (fun r' hr' => rlong_l0 hs n (a + 1) r' (by omega) hr'))
    simp only [galloonref01_Longest.l0]
    rw [if_pos (by omega), hw]
theorem rlong_ev {s : ByteArray} (hs : s.size ≤ 100) : Ev (fun k => galloonref01_Longest.f k s) (longSpec s) :=
  rlong_l0 hs s.size 0 (0, 0) (by omega) ⟨fun _ _ _ h => by omega, Or.inl rfl⟩
end Go.Proofs.Ytbdlhgdfnnbjiaa.PY
/-! TrimPalindromes: the plain law. -/
namespace Go.Proofs.Ytbdlhgdfnnbjiaa.Pure
open Go.Proofs.Ytbdlhgdfnnbjiaa.PY Go.RowKit Go.Proofs.YtbdlhgdfnnbjiaaW.PrintWords Go.Proofs.YtbdlhgdfnnbjiaaW.PrintLast Go.Proofs.Ytbdlhgdfnnbjiaa.Pal
theorem TrimPalindromes : galloonlaw01_TrimPalindromes.Pure := by
  intro a0 _
  obtain ⟨t, ht, hts⟩ := short_ev a0
  have hw := rword_ev (s := t) (by omega)
  refine Ev.rounds (g := fun k => galloonlaw01_TrimPalindromes.f k a0) ?_
  unfold galloonlaw01_TrimPalindromes.f
  rw [ht]
  simp only [Option.bind_some]
  by_cases c : Word t
  · have hs := c.1
    have hO : trim_Occurrences.f t = some (((partsL t).length : Int), 0) := by unfold trim_Occurrences.f; rw [isWord_yes c]; rfl
    have hL : trim_Longest.f t = some ((longSpec t).1, (longSpec t).2, 0) := by unfold trim_Longest.f; rw [isWord_yes c]; rfl
    rw [Palindromes_yes c, hO, hL]
    simp only [Option.bind_some]
    refine Ev.bind (Centers_ev c) (Ev.bind hw (Ev.ite_true (decide_eq_true c) (Ev.bind (rlong_ev hs) (Ev.bind (rpals_ev hs) (Ev.bind (texts_ev (by have := palSpec_len t hs; omega)) (Ev.ite_true rfl ?_))))))
    simp only [if_true]
    exact Ev.bind (rcen_ev hs) (Ev.bind (ints_ev (by rw [cenL_len]; omega)) (Ev.ite_true rfl (Ev.bind (rocc_ev hs) (Ev.ite_true rfl (Ev.bind awake_ev (Ev.now _))))))
  · have hP : trim_Palindromes.f t = some ([], 2) := by unfold trim_Palindromes.f; rw [isWord_no c]; rfl
    have hO : trim_Occurrences.f t = some (0, 2) := by unfold trim_Occurrences.f; rw [isWord_no c]; rfl
    have hL : trim_Longest.f t = some (0, 0, 2) := by unfold trim_Longest.f; rw [isWord_no c]; rfl
    have hC : Ev (fun k => trim_Centers.f k t) ([], 2) := by
      unfold trim_Centers.f
      rw [isWord_no c]
      simp only [Option.bind_some]
      exact Ev.ite_false (by simp) (Ev.now _)
    rw [hP, hO, hL]
    simp only [Option.bind_some]
    refine Ev.bind hC (Ev.bind hw (Ev.ite_false (by rw [decide_eq_true_iff]; exact c) ?_))
    simp only [List.length_nil]
    exact Ev.bind awake_ev (Ev.now _)
end Go.Proofs.Ytbdlhgdfnnbjiaa.Pure
