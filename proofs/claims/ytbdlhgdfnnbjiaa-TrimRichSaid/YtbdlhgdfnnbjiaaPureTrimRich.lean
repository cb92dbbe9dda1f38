import Derived.Test.YtbdlhgdfnnbjiaaGIndex
import Derived.Test.YtbdlhgdfnnbjiaaGOrder
import Derived.Test.YtbdlhgdfnnbjiaaGParts
import Derived.Test.YtbdlhgdfnnbjiaaGSpec
import Derived.Test.YtbdlhgdfnnbjiaaGSub
import Derived.Test.YtbdlhgdfnnbjiaaGisWord
import Derived.Test.YtbdlhgdfnnbjiaaPYx10
import Derived.Test.YtbdlhgdfnnbjiaaPYx16
import Derived.Test.YtbdlhgdfnnbjiaaPYx3
import Derived.Test.YtbdlhgdfnnbjiaaPYx30
import Derived.Test.YtbdlhgdfnnbjiaaPYx5
import Derived.Test.YtbdlhgdfnnbjiaaPYx8
import Derived.Test.YtbdlhgdfnnbjiaaBPal
import Derived.Lib.Index
import Derived.Sort.Walk0
/-! TrimRich: the plain law, with the plain laws that it leans on. -/
namespace Go.Proofs.Ytbdlhgdfnnbjiaa.Pure
open Go.Proofs.Ytbdlhgdfnnbjiaa.PY Go.RowKit Go.Proofs.YtbdlhgdfnnbjiaaW.PrintWords Go.Proofs.YtbdlhgdfnnbjiaaW.PrintLast Go.Proofs.YtbdlhgdfnnbjiaaW.PrintMore Go.Proofs.Ytbdlhgdfnnbjiaa.Pal
theorem pal_half {l : List UInt8} : Pal l ↔ ∀ j, j < l.length / 2 → l[j]? = l[l.length - 1 - j]? := by
  constructor
  · intro h j hj
    have hr : l.reverse = l := h
    have : l.reverse[j]? = l[l.length - 1 - j]? := List.getElem?_reverse (by omega)
    rw [hr] at this
    exact this
  · intro h
    refine List.ext_getElem? (fun j => ?_)
    by_cases hj : j < l.length
    · rw [List.getElem?_reverse hj]
      by_cases h1 : j < l.length / 2
      · exact (h j h1).symm
      · by_cases h2 : l.length - 1 - j < l.length / 2
        · have := h _ h2
          rw [this]
          congr 1
          omega
        · congr 1
          omega
    · rw [List.getElem?_eq_none (by simpa using hj), List.getElem?_eq_none (by omega)]
theorem index_le : ∀ (s sub : List UInt8) (i : Nat), i ≤ s.length → Lib.occAt s sub i = true → 0 ≤ Lib.index s sub ∧ Lib.index s sub ≤ i
  | [], sub, i, hi, h => by
    obtain rfl : i = 0 := by simpa using hi
    cases sub with
    | nil => simp [Lib.index]
    | cons x t => simp [Lib.occAt] at h
  | b :: l, sub, i, hi, h => by
    unfold Lib.index
    by_cases c : sub.isPrefixOf (b :: l) = true
    · rw [if_pos c]; omega
    · rw [if_neg c]
      cases i with
      | zero => exact absurd h c
      | succ i =>
        obtain ⟨h1, h2⟩ := index_le l sub i (by simpa using hi) h
        have : ¬ (Lib.index l sub == -1) = true := by simp; omega
        rw [if_neg this]; omega
theorem index_occ : ∀ (s sub : List UInt8) (i : Nat), Lib.index s sub = i → Lib.occAt s sub i = true
  | [], sub, i, h => by
    unfold Lib.index at h
    split at h
    · rename_i c
      obtain rfl : i = 0 := by omega
      cases sub with
      | nil => rfl
      | cons x t => simp at c
    · omega
  | b :: l, sub, i, h => by
    unfold Lib.index at h
    split at h
    · rename_i c
      obtain rfl : i = 0 := by omega
      exact c
    · split at h
      · omega
      · rename_i c c2
        have c3 : Lib.index l sub ≠ -1 := by simpa using c2
        have := Lib.index_ge l sub
        cases i with
        | zero => omega
        | succ i => exact index_occ l sub i (by omega)
/-- An instance of the last longest palindrome that begins earlier lies in what stands before it. -/
theorem index_lt {l : List UInt8} {i f : Nat} (hi : i < l.length) (hf : f ≤ i) : Lib.index l ((l.take (i + 1)).drop f) < f ↔ (l.take (i + 1)).drop f <:+: l.take i := by
  have hul : ((l.take (i + 1)).drop f).length = i + 1 - f := by rw [List.length_drop, List.length_take]; omega
  constructor
  · intro h
    have hself : Lib.occAt l ((l.take (i + 1)).drop f) f = true := by
      unfold Lib.occAt
      rw [List.isPrefixOf_iff_prefix]
      rw [List.drop_take]
      exact List.take_prefix _ _
    obtain ⟨h0, _⟩ := index_le _ _ f (by omega) hself
    obtain ⟨x, hx⟩ := Int.eq_ofNat_of_zero_le h0
    have hocc := index_occ _ _ x hx
    rw [hx] at h
    unfold Lib.occAt at hocc
    rw [List.isPrefixOf_iff_prefix, List.prefix_iff_eq_take, hul] at hocc
    rw [hocc]
    have e : (l.drop x).take (i + 1 - f) = ((l.take i).drop x).take (i + 1 - f) := by
      rw [List.drop_take, List.take_take]
      congr 1
      omega
    rw [e]
    exact (List.take_prefix _ _).isInfix.trans (List.drop_suffix _ _).isInfix
  · rintro ⟨a, b, h⟩
    have hl := congrArg List.length h
    rw [List.length_append, List.length_append, hul, List.length_take] at hl
    have hocc : Lib.occAt l ((l.take (i + 1)).drop f) a.length = true := by
      unfold Lib.occAt
      rw [List.isPrefixOf_iff_prefix]
      have : l = a ++ ((l.take (i + 1)).drop f ++ (b ++ l.drop i)) := by
        rw [← List.append_assoc, ← List.append_assoc, h]
        exact (List.take_append_drop i l).symm
      have h2 := congrArg (List.drop a.length) this
      rw [List.drop_left] at h2
      rw [h2]
      exact List.prefix_append _ _
    have := (index_le _ _ a.length (by omega) hocc).2
    omega
/-- What Ends answers. -/
def endsL (l : List UInt8) : List Int := (List.range l.length).map fun i => ((i + 1 : Nat) : Int) - fp (l.take (i + 1))
/-- What Rich answers. -/
def richL (l : List UInt8) : Nat → Nat → Int
  | 0, _ => -1
  | n + 1, i => if lps (l.take (i + 1)) <:+: l.take i then (i : Int) else richL l n (i + 1)
theorem rpal_loop {s : ByteArray} (hs : s.size ≤ 1000000) : ∀ n i : Nat, s.size / 2 = i + n → Ev (fun k => galloonref01_Palindrome.l0 k s i) (decide (∀ j, j < (L s).length / 2 → i ≤ j → (L s)[j]? = (L s)[(L s).length - 1 - j]?))
  | 0, i, h => by
    have hw : wrap64 ((s.size : Int) / 2) = ((s.size / 2 : Nat) : Int) := by rw [w64 (by omega)]; omega
    refine Ev.step (f := fun _ => some true) (fun k => ?_) ?_
    · simp only [galloonref01_Palindrome.l0]; rw [hw, if_neg (by omega)]
    · refine Ev.to (Ev.now _) ?_
      symm
      rw [decide_eq_true_iff]
      intro j hj hij
      rw [L_size] at hj
      omega
  | n + 1, i, h => by
    have hw : wrap64 ((s.size : Int) / 2) = ((s.size / 2 : Nat) : Int) := by rw [w64 (by omega)]; omega
    have hw1 : wrap64 (wrap64 ((s.size : Int) - 1) - i) = ((s.size - 1 - i : Nat) : Int) := by rw [w64 (n := (s.size : Int) - 1) (by omega), w64 (by omega)]; omega
    have hw2 : wrap64 ((i : Int) + 1) = ((i + 1 : Nat) : Int) := by rw [w64 (by omega)]; rfl
    have h1 : i < (L s).length := by rw [L_size]; omega
    have h2 : s.size - 1 - i < (L s).length := by rw [L_size]; omega
    have hb1 := bt_L h1
    have hb2 := bt_L h2
    by_cases c : (L s)[i] = (L s)[s.size - 1 - i]
    · refine Ev.step (f := fun k => galloonref01_Palindrome.l0 k s ((i + 1 : Nat) : Int)) (fun k => ?_) (Ev.to (rpal_loop hs n (i + 1) (by omega)) ?_)
      · simp only [galloonref01_Palindrome.l0]
        rw [hw, hw1, if_pos (by omega), if_pos (by omega), if_pos (by omega), if_pos (by omega), if_pos (by omega), hb1, hb2, if_pos (by rw [c]), hw2]
      · rw [Bool.eq_iff_iff, decide_eq_true_iff, decide_eq_true_iff]
        constructor
        · intro hh j hj hij
          by_cases e : j = i
          · subst e
            rw [L_size, List.getElem?_eq_getElem h1, List.getElem?_eq_getElem h2, c]
          · exact hh j hj (by omega)
        · intro hh j hj hij
          exact hh j hj (by omega)
    · refine Ev.step (f := fun _ => some false) (fun k => ?_) (Ev.to (Ev.now _) ?_)
      · simp only [galloonref01_Palindrome.l0]
        rw [hw, hw1, if_pos (by omega), if_pos (by omega), if_pos (by omega), if_pos (by omega), if_pos (by omega), hb1, hb2, if_neg]
        intro e
        exact c (UInt8.toNat_inj.1 (by omega))
      · symm
        rw [decide_eq_false_iff_not]
        intro hh
        have := hh i (by rw [L_size]; omega) (Nat.le_refl _)
        rw [L_size, List.getElem?_eq_getElem h1, List.getElem?_eq_getElem h2] at this
        exact c (Option.some.inj this)
theorem rpal_ev {s : ByteArray} (hs : s.size ≤ 1000000) : Ev (fun k => galloonref01_Palindrome.f k s) (decide (Pal (L s))) := by
  refine Ev.to (rpal_loop hs (s.size / 2) 0 (by omega)) ?_
  rw [Bool.eq_iff_iff, decide_eq_true_iff, decide_eq_true_iff, pal_half]
  exact ⟨fun h j hj => h j hj (Nat.zero_le _), fun h j hj _ => h j hj⟩
theorem ends_loop {s : ByteArray} (hs : s.size ≤ 1000) : ∀ n i : Nat, i + n = s.size → Ev (fun k => trim_Ends.l0 k s ((endsL (L s)).take i) s.size i) (endsL (L s), 0)
  | 0, i, h => by
    refine Ev.step (f := fun _ => some ((endsL (L s)).take i, 0)) (fun k => ?_) (Ev.to (Ev.now _) ?_)
    · simp only [trim_Ends.l0]; rw [if_neg (by omega)]
    · rw [List.take_of_length_le]
      simp [endsL, L_size]; omega
  | n + 1, i, h => by
    have hl : (endsL (L s)).length = s.size := by simp [endsL, L_size]
    have hi : i < (endsL (L s)).length := by omega
    have hn : (endsL (L s)).take (i + 1) = (endsL (L s)).take i ++ [((i + 1 : Nat) : Int) - fp ((L s).take (i + 1))] := by
      rw [List.take_add_one, List.getElem?_eq_getElem hi]
      simp [endsL]
    have hw2 : wrap64 ((i : Int) + 1) = ((i + 1 : Nat) : Int) := by rw [w64 (by omega)]; rfl
    have he : Ev (fun k => trim_end.f k (s.extract 0 ((i + 1 : Nat) : Int).toNat)) (((i + 1 : Nat) : Int) - fp ((L s).take (i + 1))) := by
      have := end_ev (s := s.extract 0 ((i + 1 : Nat) : Int).toNat) (by rw [ByteArray.size_extract]; omega)
      rw [Int.toNat_natCast, L_to, ByteArray.size_extract, show min (i + 1) s.size - 0 = i + 1 by omega] at this
      rw [Int.toNat_natCast]
      exact this
    have hlt : ((endsL (L s)).take i).length < 17592186044416 := by rw [List.length_take]; omega
    refine Ev.step (f := fun k => (trim_end.f k (s.extract 0 ((i + 1 : Nat) : Int).toNat)).bind fun t => trim_Ends.l0 k s ((endsL (L s)).take i ++ [t]) s.size ((i + 1 : Nat) : Int)) (fun k => ?_) (Ev.bind he ?_)
    · simp only [trim_Ends.l0]
      rw [if_pos (by omega), hw2, if_pos (by omega), if_pos (by omega)]
      simp only [if_pos hlt]
    · rw [← hn]
      exact ends_loop hs n (i + 1) (by omega)
theorem rich_loop {s : ByteArray} (hs : s.size ≤ 1000) : ∀ n i : Nat, i + n = s.size → Ev (fun k => trim_Rich.l0 k s s.size i) (richL (L s) n i, 0)
  | 0, i, h => by
    refine Ev.step (f := fun _ => some (-1, 0)) (fun k => ?_) (Ev.now _)
    simp only [trim_Rich.l0]; rw [if_neg (by omega)]
  | n + 1, i, h => by
    have hfp := fp_le ((L s).take (i + 1))
    rw [List.length_take, L_size] at hfp
    have hf1 : fp ((L s).take (i + 1)) ≤ i := by
      have ht : (L s).take (i + 1) = (L s)[0]'(by rw [L_size]; omega) :: ((L s).take (i + 1)).drop 1 := by
        have := List.drop_eq_getElem_cons (l := (L s).take (i + 1)) (i := 0) (by rw [List.length_take, L_size]; omega)
        simpa using this
      have := fp_lt ((L s)[0]'(by rw [L_size]; omega)) (((L s).take (i + 1)).drop 1)
      rw [← ht, List.length_drop, List.length_take, L_size] at this
      omega
    have hw2 : wrap64 ((i : Int) + 1) = ((i + 1 : Nat) : Int) := by rw [w64 (by omega)]; rfl
    have hw3 : wrap64 (((i + 1 : Nat) : Int) - (((i + 1 : Nat) : Int) - fp ((L s).take (i + 1)))) = (fp ((L s).take (i + 1)) : Int) := by rw [w64 (by omega)]; omega
    have he : Ev (fun k => trim_end.f k (s.extract 0 ((i + 1 : Nat) : Int).toNat)) (((i + 1 : Nat) : Int) - fp ((L s).take (i + 1))) := by
      have := end_ev (s := s.extract 0 ((i + 1 : Nat) : Int).toNat) (by rw [ByteArray.size_extract]; omega)
      rw [Int.toNat_natCast, L_to, ByteArray.size_extract, show min (i + 1) s.size - 0 = i + 1 by omega] at this
      rw [Int.toNat_natCast]
      exact this
    have hidx : strings_Index.f s (s.extract ((fp ((L s).take (i + 1)) : Nat) : Int).toNat ((i + 1 : Nat) : Int).toNat) = some (Lib.index (L s) (((L s).take (i + 1)).drop (fp ((L s).take (i + 1))))) := by
      unfold strings_Index.f
      rw [if_pos (by omega)]
      congr 2
      show L _ = _
      rw [L_extract, Int.toNat_natCast, Int.toNat_natCast, ← List.drop_take]
    have hlt := index_lt (l := L s) (i := i) (by rw [L_size]; omega) hf1
    refine Ev.step (f := fun k => (trim_end.f k (s.extract 0 ((i + 1 : Nat) : Int).toNat)).bind fun t => (if 0 ≤ (wrap64 (((i + 1 : Nat) : Int) - t)) then (if (wrap64 (((i + 1 : Nat) : Int) - t)) ≤ ((i + 1 : Nat) : Int) then ((strings_Index.f s (s.extract ((wrap64 (((i + 1 : Nat) : Int) - t)) : Int).toNat (((i + 1 : Nat) : Int)).toNat)).bind fun t116 => (if t116 < (wrap64 (((i + 1 : Nat) : Int) - t)) then (some ((i : Int), 0)) else (trim_Rich.l0 k s s.size ((i + 1 : Nat) : Int)))) else (none)) else (none))) (fun k => ?_) (Ev.bind he ?_)
    · simp only [trim_Rich.l0]
      rw [if_pos (by omega), hw2, if_pos (by omega), if_pos (by omega)]
    · rw [hw3]
      refine Ev.ite_true (by omega) (Ev.ite_true (by omega) ?_)
      rw [hidx]
      simp only [Option.bind_some]
      by_cases c : lps ((L s).take (i + 1)) <:+: (L s).take i
      · refine Ev.ite_true (hlt.2 c) (Ev.to (Ev.now _) ?_)
        simp [richL, c]
      · refine Ev.ite_false (fun e => c (hlt.1 e)) (Ev.to (rich_loop hs n (i + 1) (by omega)) ?_)
        simp [richL, c]
theorem awake_ev : Ev (fun k => galloonlaw01_awake.f k) true := Ev.of galloonlaw01_awake.mono (k := 60) (by decide +kernel)
def Word (s : ByteArray) : Prop := s.size ≤ 100 ∧ ∀ c ∈ L s, 97 ≤ c.toNat ∧ c.toNat ≤ 100
theorem isWord_yes {s : ByteArray} (h : Word s) : trim_isWord.f s = some true := by rw [isWord_iff]; exact congrArg some (decide_eq_true h)
theorem Rich_ev {s : ByteArray} (h : Word s) : Ev (fun k => trim_Rich.f k s) (richL (L s) s.size 0, 0) := by
  unfold trim_Rich.f
  rw [isWord_yes h]
  simp only [Option.bind_some]
  exact Ev.ite_true trivial (rich_loop (by have := h.1; omega) s.size 0 (by omega))
theorem Ends_ev {s : ByteArray} (h : Word s) : Ev (fun k => trim_Ends.f k s) (endsL (L s), 0) := by
  unfold trim_Ends.f
  rw [isWord_yes h]
  simp only [Option.bind_some]
  exact Ev.ite_true trivial (ends_loop (by have := h.1; omega) s.size 0 (by omega))
/-- The letters from i up to e. -/
def seg (l : List UInt8) (i e : Nat) : List UInt8 := (l.drop i).take (e - i)
theorem seg_len {l : List UInt8} {i e : Nat} (h : e ≤ l.length) : (seg l i e).length = e - i := by
  unfold seg; rw [List.length_take, List.length_drop]; omega
theorem seg_ends {l : List UInt8} {i e : Nat} (h : i + 2 ≤ e) (he : e ≤ l.length) : seg l i e = l[i]'(by omega) :: (seg l (i + 1) (e - 1) ++ [l[e - 1]'(by omega)]) := by
  refine List.ext_getElem? (fun t => ?_)
  unfold seg
  cases t with
  | zero =>
    rw [List.getElem?_take_of_lt (by omega), List.getElem?_drop, List.getElem?_cons_zero, Nat.add_zero, List.getElem?_eq_getElem]
  | succ t =>
    rw [List.getElem?_cons_succ]
    by_cases c : t < e - 1 - (i + 1)
    · rw [List.getElem?_append_left (by rw [List.length_take, List.length_drop]; omega), List.getElem?_take_of_lt (by omega), List.getElem?_take_of_lt c, List.getElem?_drop, List.getElem?_drop]
      congr 1; omega
    · by_cases c2 : t = e - 1 - (i + 1)
      · rw [List.getElem?_append_right (by rw [List.length_take, List.length_drop]; omega), List.getElem?_take_of_lt (by omega), List.getElem?_drop, List.length_take, List.length_drop, show i + (t + 1) = e - 1 by omega, show t - min (e - 1 - (i + 1)) (l.length - (i + 1)) = 0 by omega, List.getElem?_cons_zero, List.getElem?_eq_getElem]
      · rw [List.getElem?_eq_none (by rw [List.length_take, List.length_drop]; omega), List.getElem?_eq_none (by rw [List.length_append, List.length_take, List.length_drop]; simp; omega)]
theorem seg_step {l : List UInt8} {i e : Nat} (h : i + 2 ≤ e) (he : e ≤ l.length) : Pal (seg l i e) ↔ l[i]'(by omega) = l[e - 1]'(by omega) ∧ Pal (seg l (i + 1) (e - 1)) := by
  rw [seg_ends h he]
  constructor
  · intro hp
    have h1 : (l[i]'(by omega) :: (seg l (i + 1) (e - 1) ++ [l[e - 1]'(by omega)])).reverse = _ := hp
    rw [List.reverse_cons, List.reverse_append, List.reverse_singleton, List.singleton_append, List.cons_append] at h1
    have h2 := (List.cons.inj h1).1
    refine ⟨h2.symm, ?_⟩
    rw [h2] at hp
    exact pal_cons_snoc.1 hp
  · rintro ⟨h1, h2⟩
    rw [h1]
    exact pal_cons_snoc.2 h2
theorem pal_inner {l : List UInt8} : ∀ (d i e : Nat), e ≤ l.length → i + d ≤ e - d → d ≤ e → Pal (seg l i e) → Pal (seg l (i + d) (e - d))
  | 0, i, e, _, _, _, h => h
  | d + 1, i, e, he, hd, hde, h => by
    by_cases c : i + 2 ≤ e
    · have := pal_inner d (i + 1) (e - 1) (by omega) (by omega) (by omega) ((seg_step c he).1 h).2
      rw [show i + 1 + d = i + (d + 1) by omega, show e - 1 - d = e - (d + 1) by omega] at this
      exact this
    · omega
theorem pal_short {l : List UInt8} {i e : Nat} (h : e ≤ i + 1) : Pal (seg l i e) := by
  have hl : (seg l i e).length ≤ 1 := by unfold seg; rw [List.length_take]; omega
  rcases hs : seg l i e with _ | ⟨x, _ | ⟨y, t⟩⟩
  · exact pal_nil
  · exact pal_one x
  · rw [hs] at hl; simp at hl
theorem cenL_loop {s : ByteArray} (hs : s.size ≤ 100) : ∀ (k i e : Nat), i + 1 ≤ k → i ≤ e → e ≤ s.size → Pal (seg (L s) i e) →
    ∃ i0 e0 : Nat, trim_centered.l0 k s i ((e : Int) - 1) = some ((e0 : Int) - i0) ∧ i0 + e0 = i + e ∧ i0 ≤ i ∧ e0 ≤ s.size ∧ Pal (seg (L s) i0 e0) ∧ ∀ i' e', i' + e' = i + e → i' < i0 → e' ≤ s.size → ¬ Pal (seg (L s) i' e')
  | 0, i, e, h, _, _, _ => by omega
  | k + 1, i, e, h, hie, he, hp => by
    have hw1 : wrap64 ((e : Int) - 1 + 1) = (e : Int) := by rw [w64 (by omega)]; omega
    have hw3 : wrap64 (wrap64 ((e : Int) - 1 - i) + 1) = (e : Int) - i := by rw [w64 (n := (e : Int) - 1 - i) (by omega), w64 (by omega)]; omega
    by_cases c1 : 0 < i
    · have hw2 : wrap64 ((i : Int) - 1) = ((i - 1 : Nat) : Int) := by rw [w64 (by omega)]; omega
      by_cases c2 : e < s.size
      · have h1 : i - 1 < (L s).length := by rw [L_size]; omega
        have h2 : e < (L s).length := by rw [L_size]; omega
        have hb1 := bt_L h1
        have hb2 := bt_L h2
        have hst : Pal (seg (L s) (i - 1) (e + 1)) ↔ (L s)[i - 1] = (L s)[e] ∧ Pal (seg (L s) (i - 1 + 1) e) := seg_step (l := L s) (i := i - 1) (e := e + 1) (by omega) (by omega)
        rw [show i - 1 + 1 = i by omega] at hst
        by_cases c3 : (L s)[i - 1] = (L s)[e]
        · obtain ⟨i0, e0, q1, q2, q3, q4, q5, q6⟩ := cenL_loop hs k (i - 1) (e + 1) (by omega) (by omega) (by omega) (hst.2 ⟨c3, hp⟩)
          refine ⟨i0, e0, ?_, by omega, by omega, q4, q5, fun i' e' a b d => q6 i' e' (by omega) b d⟩
          rw [← q1]
          conv => lhs; unfold trim_centered.l0
          rw [hw1, hw2, if_pos (by omega), if_pos (by omega), if_pos (by omega), if_pos (by omega), if_pos (by omega), hb1, hb2, if_pos (by rw [c3]), show ((e + 1 : Nat) : Int) - 1 = (e : Int) by omega]
        · refine ⟨i, e, ?_, rfl, Nat.le_refl _, he, hp, fun i' e' a b d hpal => ?_⟩
          · unfold trim_centered.l0
            rw [hw1, hw2, hw3, if_pos (by omega), if_pos (by omega), if_pos (by omega), if_pos (by omega), if_pos (by omega), hb1, hb2, if_neg (fun e => c3 (UInt8.toNat_inj.1 (by omega)))]
          · have := pal_inner (i - 1 - i') i' e' (by rw [L_size]; exact d) (by omega) (by omega) hpal
            rw [show i' + (i - 1 - i') = i - 1 by omega, show e' - (i - 1 - i') = e + 1 by omega] at this
            exact c3 (hst.1 this).1
      · refine ⟨i, e, ?_, rfl, Nat.le_refl _, he, hp, fun i' e' a b d => by omega⟩
        unfold trim_centered.l0
        rw [hw1, hw3, if_pos (by omega), if_neg (by omega)]
    · refine ⟨i, e, ?_, rfl, Nat.le_refl _, he, hp, fun i' e' a b d => by omega⟩
      unfold trim_centered.l0
      rw [hw3, if_neg (by omega)]
/-- What stands at a center. -/
theorem cen_spec {s : ByteArray} (hs : s.size ≤ 100) {c : Nat} (hc : c + 1 < 2 * s.size) :
    ∃ i0 e0 : Nat, trim_centered.f 200 s c = some ((e0 : Int) - i0) ∧ i0 + e0 = c + 1 ∧ i0 ≤ e0 ∧ e0 ≤ s.size ∧ Pal (seg (L s) i0 e0) ∧ ∀ i' e', i' + e' = c + 1 → i' < i0 → e' ≤ s.size → ¬ Pal (seg (L s) i' e') := by
  have hw1 : wrap64 (Int.tdiv (wrap64 ((c : Int) + 1)) 2) = (((c + 1) / 2 : Nat) : Int) := by
    rw [w64 (n := (c : Int) + 1) (by omega), Int.tdiv_eq_ediv_of_nonneg (by omega), w64 (by omega)]; omega
  have hw2 : wrap64 (Int.tdiv (c : Int) 2) = (((c / 2 + 1 : Nat) : Int)) - 1 := by
    rw [Int.tdiv_eq_ediv_of_nonneg (by omega), w64 (by omega)]; omega
  obtain ⟨i0, e0, q1, q2, q3, q4, q5, q6⟩ := cenL_loop hs 200 ((c + 1) / 2) (c / 2 + 1) (by omega) (by omega) (by omega) (pal_short (by omega))
  refine ⟨i0, e0, ?_, by omega, by omega, q4, q5, fun i' e' a b d => q6 i' e' (by omega) b d⟩
  unfold trim_centered.f
  rw [hw1, hw2]
  exact q1
theorem seg_L (s : ByteArray) (a b : Nat) : L (s.extract a b) = seg (L s) a b := L_extract s a b
theorem mem_partsC {s : ByteArray} {c : Nat} : ∀ (k i0 e0 : Nat) (t : Int × ByteArray), i0 + e0 = c + 1 → (t ∈ partsC s c k ((e0 : Int) - i0) ↔ ∃ d : Nat, d < k ∧ i0 + d + d < e0 ∧ t = (((i0 + d : Nat) : Int), s.extract (i0 + d) (e0 - d)))
  | 0, i0, e0, t, h => by
    simp [partsC]
  | k + 1, i0, e0, t, h => by
    by_cases c1 : (0 : Int) < (e0 : Int) - i0
    · have hp : ((c : Int) + 1 - ((e0 : Int) - i0)) / 2 = (i0 : Int) := by omega
      have hq : ((i0 : Int) + ((e0 : Int) - i0)).toNat = e0 := by omega
      rw [partsC_pos s c k _ c1, hp, hq, Int.toNat_natCast, List.mem_cons]
      by_cases c2 : i0 + 2 ≤ e0
      · have e : (e0 : Int) - i0 - 2 = ((e0 - 1 : Nat) : Int) - ((i0 + 1 : Nat) : Int) := by omega
        rw [e, mem_partsC k (i0 + 1) (e0 - 1) t (by omega)]
        constructor
        · rintro (rfl | ⟨d, h1, h2, rfl⟩)
          · exact ⟨0, by omega, by omega, rfl⟩
          · refine ⟨d + 1, by omega, by omega, ?_⟩
            rw [show i0 + 1 + d = i0 + (d + 1) by omega, show e0 - 1 - d = e0 - (d + 1) by omega]
        · rintro ⟨d, h1, h2, rfl⟩
          cases d with
          | zero => exact Or.inl rfl
          | succ d =>
            refine Or.inr ⟨d, by omega, by omega, ?_⟩
            rw [show i0 + 1 + d = i0 + (d + 1) by omega, show e0 - 1 - d = e0 - (d + 1) by omega]
      · rw [partsC_neg s c k _ (by omega)]
        constructor
        · rintro (rfl | h1)
          · exact ⟨0, by omega, by omega, rfl⟩
          · cases h1
        · rintro ⟨d, h1, h2, rfl⟩
          obtain rfl : d = 0 := by omega
          exact Or.inl rfl
    · rw [partsC_neg s c _ _ c1]
      constructor
      · intro h1; cases h1
      · rintro ⟨d, h1, h2, _⟩; omega
/-- A palindrome within a word, and its place. -/
def IsPalAt (s : ByteArray) (a b : Nat) : Prop := a < b ∧ b ≤ s.size ∧ Pal (seg (L s) a b)
theorem mem_partsL {s : ByteArray} (hs : s.size ≤ 100) (t : Int × ByteArray) : t ∈ partsL s ↔ ∃ a b : Nat, IsPalAt s a b ∧ t = ((a : Int), s.extract a b) := by
  unfold partsL partsU
  rw [List.mem_flatMap]
  constructor
  · rintro ⟨c, hc, ht⟩
    rw [List.mem_range] at hc
    obtain ⟨i0, e0, q1, q2, q3, q4, q5, q6⟩ := cen_spec hs (c := c) (by omega)
    have hcen : cen s c = (e0 : Int) - i0 := by unfold cen; rw [q1]; rfl
    rw [hcen, mem_partsC 101 i0 e0 t q2] at ht
    obtain ⟨d, h1, h2, rfl⟩ := ht
    exact ⟨i0 + d, e0 - d, ⟨by omega, by omega, pal_inner d i0 e0 (by rw [L_size]; exact q4) (by omega) (by omega) q5⟩, rfl⟩
  · rintro ⟨a, b, ⟨h1, h2, h3⟩, rfl⟩
    obtain ⟨i0, e0, q1, q2, q3, q4, q5, q6⟩ := cen_spec hs (c := a + b - 1) (by omega)
    have hcen : cen s (a + b - 1) = (e0 : Int) - i0 := by unfold cen; rw [q1]; rfl
    refine ⟨a + b - 1, by rw [List.mem_range]; omega, ?_⟩
    have hai : i0 ≤ a := by
      rcases Nat.lt_or_ge a i0 with h | h
      · exact absurd h3 (q6 a b (by omega) h h2)
      · exact h
    rw [hcen, mem_partsC 101 i0 e0 _ q2]
    exact ⟨a - i0, by omega, by omega, by rw [show i0 + (a - i0) = a by omega, show e0 - (a - i0) = b by omega]⟩
theorem palSpec_iff {s : ByteArray} (hs : s.size ≤ 100) (y : ByteArray) : y ∈ palSpec s ↔ ∃ a b : Nat, IsPalAt s a b ∧ y = s.extract a b := by
  rw [palSpec_mem]
  constructor
  · rintro ⟨t, ht, rfl⟩
    obtain ⟨a, b, h, rfl⟩ := (mem_partsL hs t).1 ht
    exact ⟨a, b, h, rfl⟩
  · rintro ⟨a, b, h, rfl⟩
    exact ⟨((a : Int), s.extract a b), (mem_partsL hs _).2 ⟨a, b, h, rfl⟩, rfl⟩
theorem ltP_irrefl (x : ByteArray) : ¬ ltP x x = true := fun h => ltL_irrefl _ (ltP_iff.1 h)
def cenL (s : ByteArray) : List Int := (List.range (2 * s.size - 1)).map fun c => cen s c
theorem cenL_len (s : ByteArray) : (cenL s).length = 2 * s.size - 1 := by simp [cenL]
theorem cen_some {s : ByteArray} (hs : s.size ≤ 100) {c : Nat} (hc : c + 1 < 2 * s.size) : trim_centered.f 200 s c = some (cen s c) := by
  obtain ⟨i0, e0, q1, _⟩ := cen_spec hs hc
  unfold cen
  rw [q1]; rfl
theorem cenL_take {s : ByteArray} {i : Nat} (h : i < 2 * s.size - 1) : (cenL s).take (i + 1) = (cenL s).take i ++ [cen s i] := by
  have hi : i < (cenL s).length := by rw [cenL_len]; exact h
  rw [List.take_add_one, List.getElem?_eq_getElem hi]
  simp [cenL]
theorem cen_set {s : ByteArray} {i n : Nat} (h : i + (n + 1) = 2 * s.size - 1) : ((cenL s).take i ++ List.replicate (n + 1) 0).set i (cen s i) = (cenL s).take (i + 1) ++ List.replicate n 0 := by
  have hl : ((cenL s).take i).length = i := by rw [List.length_take, cenL_len]; omega
  rw [List.set_append_right _ _ (by omega), hl, Nat.sub_self, cenL_take (by omega), List.append_assoc]
  rfl
theorem centers_loop {s : ByteArray} (hs : s.size ≤ 100) : ∀ n i : Nat, i + n = 2 * s.size - 1 → Ev (fun k => trim_Centers.l0 k s ((cenL s).take i ++ List.replicate n 0) ((2 * s.size - 1 : Nat) : Int) i) (cenL s, 0)
  | 0, i, h => by
    refine Ev.step (f := fun _ => some ((cenL s).take i ++ List.replicate 0 0, 0)) (fun k => ?_) (Ev.to (Ev.now _) ?_)
    · simp only [trim_Centers.l0]; rw [if_neg (by omega)]
    · rw [List.take_of_length_le (by rw [cenL_len]; omega)]; simp
  | n + 1, i, h => by
    have hw : wrap64 ((i : Int) + 1) = ((i + 1 : Nat) : Int) := by rw [w64 (by omega)]; rfl
    have hc : Ev (fun k => trim_centered.f k s i) (cen s i) := Ev.of (trim_centered.mono s i) (cen_some hs (by omega))
    refine Ev.step (f := fun k => (trim_centered.f k s i).bind fun t => trim_Centers.l0 k s (((cenL s).take i ++ List.replicate (n + 1) 0).set i t) ((2 * s.size - 1 : Nat) : Int) ((i + 1 : Nat) : Int)) (fun k => ?_) (Ev.bind hc ?_)
    · simp only [trim_Centers.l0]
      have h3 : (0 : Int) ≤ (i : Int) := by omega
      have h4 : (i : Int) < (((cenL s).take i ++ List.replicate (n + 1) 0).length : Int) := by rw [List.length_append, List.length_take, cenL_len, List.length_replicate]; omega
      rw [if_pos (by omega)]
      simp only [if_pos h3, if_pos h4, hw, Int.toNat_natCast]
    · rw [cen_set h]
      exact centers_loop hs n (i + 1) (by omega)
theorem Centers_ev {s : ByteArray} (h : Word s) : Ev (fun k => trim_Centers.f k s) (cenL s, 0) := by
  have hs := h.1
  have hm : mx 0 (wrap64 ((wrap64 (2 * (s.size : Int))) - 1)) = ((2 * s.size - 1 : Nat) : Int) := by
    rw [w64 (n := 2 * (s.size : Int)) (by omega), w64 (by omega)]
    unfold mx
    split <;> omega
  have h1 : (0 : Int) ≤ ((2 * s.size - 1 : Nat) : Int) := Int.natCast_nonneg _
  have h2 : 2 * s.size - 1 ≤ 35184372088832 := by omega
  have h3 := centers_loop hs (2 * s.size - 1) 0 (Nat.zero_add _)
  rw [List.take_zero, List.nil_append, show (((0 : Nat)) : Int) = (0 : Int) from rfl] at h3
  obtain ⟨m, hmm⟩ : ∃ m, m = 2 * s.size - 1 := ⟨_, rfl⟩
  rw [← hmm] at hm h1 h2 h3
  have e : ∀ k, trim_Centers.f k s = trim_Centers.l0 k s (List.replicate m 0) (m : Int) 0 := by
    intro k
    unfold trim_Centers.f
    rw [isWord_yes h, Option.bind_some, if_pos rfl, hm, if_pos h1, Int.toNat_natCast, if_pos h2, Option.bind_some, List.length_replicate]
  exact Ev.congr e h3
theorem Palindromes_yes {s : ByteArray} (h : Word s) : trim_Palindromes.f s = some (palSpec s, 0) := by
  unfold trim_Palindromes.f
  rw [isWord_yes h]
  rfl
def BestP (s : ByteArray) (V : Nat → Nat → Prop) (r : Int × Int) : Prop := (∀ a b, IsPalAt s a b → V a b → ((b : Int) - a < r.2 ∨ ((b : Int) - a = r.2 ∧ r.1 ≤ a))) ∧ (r = (0, 0) ∨ ∃ a b : Nat, IsPalAt s a b ∧ V a b ∧ r = ((a : Int), (b : Int) - a))
theorem long_fold {s : ByteArray} : ∀ (ts : List (Int × ByteArray)) (V : Nat → Nat → Prop) (r : Int × Int), (∀ t ∈ ts, ∃ a b : Nat, IsPalAt s a b ∧ t = ((a : Int), s.extract a b)) → BestP s V r → BestP s (fun a b => V a b ∨ ((a : Int), s.extract a b) ∈ ts) (ts.foldl longStep r)
  | [], V, r, _, h => ⟨fun a b h1 h2 => h.1 a b h1 (h2.resolve_right (by simp)), h.2.imp id (fun ⟨a, b, h1, h2, h3⟩ => ⟨a, b, h1, Or.inl h2, h3⟩)⟩
  | t :: ts, V, r, ht, h => by
    obtain ⟨a, b, hp, rfl⟩ := ht t (List.mem_cons_self ..)
    have hsz : ((s.extract a b).size : Int) = (b : Int) - a := by rw [ByteArray.size_extract]; have := hp.1; have := hp.2.1; omega
    have step : BestP s (fun p q => V p q ∨ ((p : Int), s.extract p q) = ((a : Int), s.extract a b)) (longStep r ((a : Int), s.extract a b)) := by
      have huniq : ∀ p q, IsPalAt s p q → ((p : Int), s.extract p q) = ((a : Int), s.extract a b) → p = a ∧ q = b := by
        intro p q hq e
        have e1 := (Prod.mk.inj e).1
        have e2 := congrArg ByteArray.size (Prod.mk.inj e).2
        rw [ByteArray.size_extract, ByteArray.size_extract] at e2
        have := hq.1; have := hq.2.1; have := hp.1; have := hp.2.1
        omega
      unfold longStep
      simp only [hsz]
      by_cases c : r.2 < (b : Int) - a ∨ ((b : Int) - a = r.2 ∧ (a : Int) < r.1)
      · rw [if_pos c]
        refine ⟨fun p q h1 h2 => ?_, Or.inr ⟨a, b, hp, Or.inr rfl, rfl⟩⟩
        rcases h2 with h2 | h2
        · have := h.1 p q h1 h2
          simp only
          omega
        · obtain ⟨rfl, rfl⟩ := huniq p q h1 h2
          exact Or.inr ⟨rfl, Int.le_refl _⟩
      · rw [if_neg c]
        refine ⟨fun p q h1 h2 => ?_, h.2.imp id (fun ⟨a, b, h1, h2, h3⟩ => ⟨a, b, h1, Or.inl h2, h3⟩)⟩
        rcases h2 with h2 | h2
        · exact h.1 p q h1 h2
        · obtain ⟨rfl, rfl⟩ := huniq p q h1 h2
          omega
    have ih := long_fold ts _ _ (fun t h1 => ht t (List.mem_cons_of_mem _ h1)) step
    refine ⟨fun p q h1 h2 => ih.1 p q h1 ?_, ih.2.imp id (fun ⟨p, q, h1, h2, h3⟩ => ⟨p, q, h1, ?_, h3⟩)⟩
    · rcases h2 with h2 | h2
      · exact Or.inl (Or.inl h2)
      · rcases List.mem_cons.1 h2 with h2 | h2
        · exact Or.inl (Or.inr h2)
        · exact Or.inr h2
    · rcases h2 with (h2 | h2) | h2
      · exact Or.inl h2
      · exact Or.inr (List.mem_cons.2 (Or.inl h2))
      · exact Or.inr (List.mem_cons_of_mem _ h2)
theorem long_best {s : ByteArray} (hs : s.size ≤ 100) : BestP s (fun _ _ => True) (longSpec s) := by
  have h := long_fold (s := s) (partsL s) (fun _ _ => False) (0, 0) (fun t ht => (mem_partsL hs t).1 ht) ⟨fun _ _ _ h => h.elim, Or.inl rfl⟩
  refine ⟨fun a b h1 _ => h.1 a b h1 (Or.inr ((mem_partsL hs _).2 ⟨a, b, h1, rfl⟩)), h.2.imp id (fun ⟨a, b, h1, _, h3⟩ => ⟨a, b, h1, trivial, h3⟩)⟩
/-- A tamed string is a word. -/
theorem tame_loop {a : ByteArray} {m : Int} (hm : m ≤ 100) (ha : a.size ≤ 140737488351232) : ∀ (n i : Nat) (x5 : List Int), i + n = min a.size m.toNat → x5.length = i → (∀ c ∈ x5, 97 ≤ c ∧ c ≤ 100) → ∃ t, Ev (fun k => galloonlaw01_tame.l0 k a m x5 i) t ∧ Word t ∧ (t.size : Int) ≤ max 0 m
  | 0, i, x5, h, hl, hx => by
    refine ⟨strOfNums x5, ?_, ⟨by rw [strOfNums_size]; omega, ?_⟩, by rw [strOfNums_size]; omega⟩
    · by_cases c : (i : Int) < (a.size : Int)
      · refine Ev.step (f := fun _ => some (strOfNums x5)) (fun k => ?_) (Ev.now _)
        simp only [galloonlaw01_tame.l0]
        rw [if_pos c, if_neg (by omega)]
      · refine Ev.step (f := fun _ => some (strOfNums x5)) (fun k => ?_) (Ev.now _)
        simp only [galloonlaw01_tame.l0]
        rw [if_neg c]
    · intro c hc
      unfold L at hc
      rw [strOfNums_data] at hc
      obtain ⟨n, hn, rfl⟩ := List.mem_map.1 hc
      have := hx n hn
      rw [UInt8.toNat_ofNat', Nat.mod_eq_of_lt (by omega)]
      omega
  | n + 1, i, x5, h, hl, hx => by
    have hi : i < (L a).length := by rw [L_size]; omega
    have hb := bt_L hi
    have hw : wrap64 ((i : Int) + 1) = ((i + 1 : Nat) : Int) := by rw [w64 (by omega)]; rfl
    have hr : 0 ≤ Int.tmod (bt a i) 4 ∧ Int.tmod (bt a i) 4 ≤ 3 := by
      rw [Int.tmod_eq_emod_of_nonneg (by rw [hb]; omega)]; omega
    obtain ⟨t, h1, h2, h3⟩ := tame_loop hm ha n (i + 1) (x5 ++ [(97 + (Int.tmod (bt a i) 4)) % 256]) (by omega) (by simp [hl]) (by
      intro c hc
      rcases List.mem_append.1 hc with hc | hc
      · exact hx c hc
      · have := List.mem_singleton.1 hc
        omega)
    refine ⟨t, Ev.step (f := fun k => galloonlaw01_tame.l0 k a m (x5 ++ [(97 + (Int.tmod (bt a i) 4)) % 256]) ((i + 1 : Nat) : Int)) (fun k => ?_) h1, h2, h3⟩
    simp only [galloonlaw01_tame.l0]
    rw [if_pos (by omega), if_pos (by omega), if_pos (by omega), if_pos (by omega), hw]
theorem tame_ev {a : ByteArray} {m : Int} (hm : m ≤ 100) (ha : a.size ≤ 140737488351232) : ∃ t, Ev (fun k => galloonlaw01_tame.f k a m) t ∧ Word t ∧ (t.size : Int) ≤ max 0 m :=
  tame_loop hm ha (min a.size m.toNat) 0 [] (by omega) rfl (by simp)
def newAt (l : List UInt8) (i : Nat) : Bool := decide (¬ lps (l.take (i + 1)) <:+: l.take i)
theorem richL_iff {l : List UInt8} : ∀ n i, (richL l n i = -1 ↔ ∀ j, i ≤ j → j < i + n → newAt l j = true) ∧ (richL l n i = -1 ∨ ((i : Int) ≤ richL l n i ∧ richL l n i < ((i + n : Nat) : Int)))
  | 0, i => ⟨⟨fun _ j h1 h2 => by omega, fun _ => rfl⟩, Or.inl rfl⟩
  | n + 1, i => by
    obtain ⟨h1, h2⟩ := richL_iff (l := l) n (i + 1)
    unfold richL
    by_cases c : lps (l.take (i + 1)) <:+: l.take i
    · rw [if_pos c]
      refine ⟨⟨fun e => by omega, fun h => ?_⟩, Or.inr ⟨Int.le_refl _, by omega⟩⟩
      have := h i (Nat.le_refl _) (by omega)
      unfold newAt at this
      exact absurd c (of_decide_eq_true this)
    · rw [if_neg c]
      refine ⟨?_, by omega⟩
      rw [h1]
      constructor
      · intro h j hj1 hj2
        by_cases e : j = i
        · subst e; exact decide_eq_true c
        · exact h j (by omega) (by omega)
      · intro h j hj1 hj2
        exact h j (by omega) (by omega)
theorem infix_take {l y : List UInt8} : ∀ n, n ≤ l.length → y ≠ [] → y <:+: l.take n → ∃ i, i < n ∧ y <:+: l.take (i + 1) ∧ ¬ y <:+: l.take i
  | 0, _, hy, h => by
    obtain ⟨a, b, h⟩ := h
    rw [List.take_zero] at h
    exact absurd (List.append_eq_nil_iff.1 (List.append_eq_nil_iff.1 h).1).2 hy
  | n + 1, hn, hy, h => by
    by_cases c : y <:+: l.take n
    · obtain ⟨i, h1, h2⟩ := infix_take n (by omega) hy c
      exact ⟨i, by omega, h2⟩
    · exact ⟨n, by omega, h, c⟩
theorem first_is_lps {l y : List UInt8} {i : Nat} (hi : i < l.length) (hy : Pal y) (h1 : y <:+: l.take (i + 1)) (h2 : ¬ y <:+: l.take i) : y = lps (l.take (i + 1)) := by
  obtain ⟨a, b, hab⟩ := h1
  have hb : b = [] := by
    rcases List.eq_nil_or_concat b with hb | ⟨b', x, rfl⟩
    · exact hb
    · exfalso
      refine h2 ⟨a, b', ?_⟩
      rw [take_snoc l i hi, List.concat_eq_append, ← List.append_assoc] at hab
      exact (List.append_inj' hab rfl).1
  subst hb
  rw [List.append_nil] at hab
  have hs : y <:+ l.take (i + 1) := ⟨a, hab⟩
  have hs2 := lps_longest hs hy
  have hp := lps_pal (l.take (i + 1))
  -- y is a prefix of the palindrome, too
  have hpre : y <+: lps (l.take (i + 1)) := by
    have h3 := List.reverse_prefix.2 hs2
    rw [show y.reverse = y from hy, show (lps (l.take (i + 1))).reverse = lps (l.take (i + 1)) from hp] at h3
    exact h3
  refine List.IsPrefix.eq_of_length hpre ?_
  rcases Nat.lt_or_ge y.length (lps (l.take (i + 1))).length with hlt | hge
  · exfalso
    apply h2
    obtain ⟨t, ht⟩ := hpre
    obtain ⟨u, hu⟩ := lps_suffix (l.take (i + 1))
    have ht0 : t ≠ [] := by
      intro e
      rw [e, List.append_nil] at ht
      rw [ht] at hlt
      omega
    rcases List.eq_nil_or_concat t with e | ⟨t', x, rfl⟩
    · exact absurd e ht0
    · refine ⟨u, t', ?_⟩
      rw [← ht, take_snoc l i hi, List.concat_eq_append, ← List.append_assoc, ← List.append_assoc] at hu
      exact (List.append_inj' hu rfl).1
  · exact Nat.le_antisymm hs2.length_le hge
theorem new_places {s : ByteArray} (hs : s.size ≤ 100) : (palSpec s).length = ((List.range s.size).filter (newAt (L s))).length := by
  have hL : ∀ i, i < s.size → L (s.extract (fp ((L s).take (i + 1))) (i + 1)) = lps ((L s).take (i + 1)) := by
    intro i hi
    rw [L_extract, ← List.drop_take]
    rfl
  have h1 : (((List.range s.size).filter (newAt (L s))).map fun i => s.extract (fp ((L s).take (i + 1))) (i + 1)).Nodup := by
    refine List.pairwise_map.2 (List.Pairwise.imp_of_mem ?_ ((List.pairwise_lt_range (n := s.size)).filter (newAt (L s))))
    intro i j hi hj hlt e
    obtain ⟨hi1, hi2⟩ := List.mem_filter.1 hi
    obtain ⟨hj1, hj2⟩ := List.mem_filter.1 hj
    rw [List.mem_range] at hi1 hj1
    have e2 := congrArg L e
    rw [hL i hi1, hL j hj1] at e2
    unfold newAt at hj2
    refine of_decide_eq_true hj2 ?_
    rw [← e2]
    exact (lps_suffix _).isInfix.trans (List.IsPrefix.isInfix (List.take_prefix_take_left (by omega)))
  have h2 : (palSpec s).Nodup := List.Pairwise.imp (fun {a b} (h : ltP a b = true) (e : a = b) => ltP_irrefl a (by rw [← e] at h; exact h)) (palSpec_sorted s)
  have hp : (palSpec s).Perm (((List.range s.size).filter (newAt (L s))).map fun i => s.extract (fp ((L s).take (i + 1))) (i + 1)) := by
    refine (List.perm_ext_iff_of_nodup h2 h1).2 (fun y => ?_)
    rw [palSpec_iff hs, List.mem_map]
    constructor
    · rintro ⟨a, b, ⟨q1, q2, q3⟩, rfl⟩
      have hne : seg (L s) a b ≠ [] := by
        intro e
        have := congrArg List.length e
        rw [seg_len (by rw [L_size]; exact q2)] at this
        simp at this
        omega
      have hin : seg (L s) a b <:+: (L s).take s.size := by
        rw [List.take_of_length_le (by rw [L_size]; omega)]
        unfold seg
        exact (List.take_prefix _ _).isInfix.trans (List.drop_suffix _ _).isInfix
      obtain ⟨i, w1, w2, w3⟩ := infix_take s.size (by rw [L_size]; omega) hne hin
      have hlps := first_is_lps (by rw [L_size]; exact w1) q3 w2 w3
      refine ⟨i, List.mem_filter.2 ⟨List.mem_range.2 w1, decide_eq_true (by rw [← hlps]; exact w3)⟩, L_inj ?_⟩
      rw [hL i w1, seg_L, hlps]
    · rintro ⟨i, hi, rfl⟩
      have hi1 := List.mem_range.1 (List.mem_filter.1 hi).1
      have hf : fp ((L s).take (i + 1)) ≤ i := by
        have ht : (L s).take (i + 1) = (L s)[0]'(by rw [L_size]; omega) :: ((L s).take (i + 1)).drop 1 := by
          have := List.drop_eq_getElem_cons (l := (L s).take (i + 1)) (i := 0) (by rw [List.length_take, L_size]; omega)
          simpa using this
        have := fp_lt ((L s)[0]'(by rw [L_size]; omega)) (((L s).take (i + 1)).drop 1)
        rw [← ht, List.length_drop, List.length_take, L_size] at this
        omega
      refine ⟨_, _, ⟨by omega, by omega, ?_⟩, rfl⟩
      rw [← seg_L, hL i hi1]
      exact lps_pal _
  rw [hp.length_eq, List.length_map]
/-- At most one for each place; all places exactly if the word is rich. -/
theorem pals_rich {s : ByteArray} (hs : s.size ≤ 100) : (palSpec s).length ≤ s.size ∧ ((palSpec s).length = s.size ↔ richL (L s) s.size 0 = -1) := by
  rw [new_places hs]
  have hle := List.length_filter_le (newAt (L s)) (List.range s.size)
  rw [List.length_range] at hle
  refine ⟨hle, ?_⟩
  rw [(richL_iff s.size 0).1]
  constructor
  · intro h j _ hj
    have h2 : ((List.range s.size).filter (newAt (L s))).length = (List.range s.size).length := by rw [h, List.length_range]
    exact List.length_filter_eq_length_iff.1 h2 j (List.mem_range.2 (by omega))
  · intro h
    have h2 := List.length_filter_eq_length_iff.2 (fun j hj => h j (Nat.zero_le _) (by have := List.mem_range.1 hj; omega) : ∀ j ∈ List.range s.size, newAt (L s) j = true)
    rw [h2, List.length_range]
def halves : List Int → Int
  | [] => 0
  | c :: l => (c + 1) / 2 + halves l
theorem halves_append : ∀ a b, halves (a ++ b) = halves a + halves b
  | [], b => by simp [halves]
  | c :: a, b => by simp only [List.cons_append, halves, halves_append a b]; omega
theorem partsC_count {s : ByteArray} {c : Nat} : ∀ (k : Nat) (n : Int), n ≤ 2 * k → -1 ≤ n → ((partsC s c k n).length : Int) = (n + 1) / 2
  | 0, n, h, h0 => by simp [partsC]; omega
  | k + 1, n, h, h0 => by
    by_cases c1 : 0 < n
    · rw [partsC_pos s c k n c1, List.length_cons]
      have := partsC_count (s := s) (c := c) k (n - 2) (by omega) (by omega)
      omega
    · rw [partsC_neg s c _ n c1]; simp; omega
theorem cen_range {s : ByteArray} (hs : s.size ≤ 100) {c : Nat} (hc : c + 1 < 2 * s.size) : 0 ≤ cen s c ∧ cen s c ≤ 100 := by
  obtain ⟨i0, e0, q1, q2, q3, q4, q5, q6⟩ := cen_spec hs hc
  have : cen s c = (e0 : Int) - i0 := by unfold cen; rw [q1]; rfl
  omega
theorem partsU_count {s : ByteArray} (hs : s.size ≤ 100) : ∀ m, m ≤ 2 * s.size - 1 → ((partsU s m).length : Int) = halves ((List.range m).map fun c => cen s c)
  | 0, _ => by simp [partsU, halves]
  | m + 1, h => by
    have ih := partsU_count hs m (by omega)
    have hr := cen_range hs (c := m) (by omega)
    have := partsC_count (s := s) (c := m) 101 (cen s m) (by omega) (by omega)
    rw [partsU_succ, List.length_append, List.range_succ, List.map_append, halves_append]
    simp only [List.map_cons, List.map_nil, halves]
    omega
theorem mx_fold : ∀ (l : List Int) (m : Int), m ≤ l.foldl mx m ∧ (∀ x ∈ l, x ≤ l.foldl mx m) ∧ (l.foldl mx m = m ∨ l.foldl mx m ∈ l)
  | [], m => ⟨Int.le_refl _, by simp, Or.inl rfl⟩
  | y :: l, m => by
    obtain ⟨h1, h2, h3⟩ := mx_fold l (mx m y)
    have hm : m ≤ mx m y ∧ y ≤ mx m y ∧ (mx m y = m ∨ mx m y = y) := by unfold mx; split <;> omega
    refine ⟨by simp only [List.foldl_cons]; omega, fun x hx => ?_, ?_⟩
    · simp only [List.foldl_cons]
      rcases List.mem_cons.1 hx with rfl | hx
      · omega
      · exact h2 x hx
    · simp only [List.foldl_cons]
      rcases h3 with h3 | h3
      · rcases hm.2.2 with e | e
        · left; omega
        · right; rw [h3, e]; exact List.mem_cons_self ..
      · right; exact List.mem_cons_of_mem _ h3
theorem fold_is {l : List Int} {v : Int} (h0 : 0 ≤ v) (h1 : ∀ x ∈ l, x ≤ v) (h2 : v = 0 ∨ ∃ x ∈ l, v ≤ x) : l.foldl mx 0 = v := by
  obtain ⟨a, b, c⟩ := mx_fold l 0
  have : l.foldl mx 0 ≤ v := by
    rcases c with e | e
    · omega
    · exact h1 _ e
  rcases h2 with e | ⟨x, hx, e⟩
  · omega
  · have := b x hx; omega
theorem long_facts {s : ByteArray} (hs : s.size ≤ 100) : 0 ≤ (longSpec s).2 ∧ 0 ≤ (longSpec s).1 ∧ (longSpec s).1 + (longSpec s).2 ≤ s.size ∧ Pal (seg (L s) (longSpec s).1.toNat ((longSpec s).1 + (longSpec s).2).toNat) := by
  rcases (long_best hs).2 with e | ⟨a, b, h1, _, e⟩
  · rw [e]; exact ⟨by simp, by simp, by simp, pal_short (by simp)⟩
  · rw [e]
    have := h1.1; have := h1.2.1
    refine ⟨by simp only; omega, by simp only; omega, by simp only; omega, ?_⟩
    simp only
    rw [Int.toNat_natCast, show ((a : Int) + ((b : Int) - a)).toNat = b by omega]
    exact h1.2.2
theorem cen_max {s : ByteArray} (hs : s.size ≤ 100) : (cenL s).foldl mx 0 = (longSpec s).2 := by
  have hb := long_best hs
  refine fold_is (long_facts hs).1 (fun x hx => ?_) ?_
  · obtain ⟨c, hc, rfl⟩ := List.mem_map.1 hx
    rw [List.mem_range] at hc
    obtain ⟨i0, e0, q1, q2, q3, q4, q5, q6⟩ := cen_spec hs (c := c) (by omega)
    have hcen : cen s c = (e0 : Int) - i0 := by unfold cen; rw [q1]; rfl
    rcases Nat.lt_or_ge i0 e0 with h | h
    · have := hb.1 i0 e0 ⟨h, q4, q5⟩ trivial; omega
    · have := (long_facts hs).1; omega
  · rcases hb.2 with e | ⟨a, b, h1, _, e⟩
    · left; rw [e]
    · right
      have := h1.1; have := h1.2.1
      obtain ⟨i0, e0, q1, q2, q3, q4, q5, q6⟩ := cen_spec hs (c := a + b - 1) (by omega)
      have hcen : cen s (a + b - 1) = (e0 : Int) - i0 := by unfold cen; rw [q1]; rfl
      have hai : i0 ≤ a := by
        rcases Nat.lt_or_ge a i0 with h | h
        · exact absurd h1.2.2 (q6 a b (by omega) h h1.2.1)
        · exact h
      refine ⟨cen s (a + b - 1), List.mem_map.2 ⟨a + b - 1, List.mem_range.2 (by omega), rfl⟩, ?_⟩
      rw [e, hcen]; simp only; omega
theorem ends_at {s : ByteArray} {i : Nat} (hi : i < s.size) : 1 ≤ ((i + 1 : Nat) : Int) - fp ((L s).take (i + 1)) ∧ ((i + 1 : Nat) : Int) - fp ((L s).take (i + 1)) ≤ ((i + 1 : Nat) : Int) := by
  have hf : fp ((L s).take (i + 1)) ≤ i := by
    have ht : (L s).take (i + 1) = (L s)[0]'(by rw [L_size]; omega) :: ((L s).take (i + 1)).drop 1 := by
      have := List.drop_eq_getElem_cons (l := (L s).take (i + 1)) (i := 0) (by rw [List.length_take, L_size]; omega)
      simpa using this
    have := fp_lt ((L s)[0]'(by rw [L_size]; omega)) (((L s).take (i + 1)).drop 1)
    rw [← ht, List.length_drop, List.length_take, L_size] at this
    omega
  omega
theorem ends_max {s : ByteArray} (hs : s.size ≤ 100) : (endsL (L s)).foldl mx 0 = (longSpec s).2 := by
  have hb := long_best hs
  refine fold_is (long_facts hs).1 (fun x hx => ?_) ?_
  · obtain ⟨i, hi, rfl⟩ := List.mem_map.1 hx
    rw [List.mem_range, L_size] at hi
    have hr := ends_at hi
    have hp : Pal (seg (L s) (fp ((L s).take (i + 1))) (i + 1)) := by
      have := fp_pal ((L s).take (i + 1))
      rw [List.drop_take] at this
      exact this
    have := hb.1 _ _ ⟨by omega, by omega, hp⟩ trivial
    omega
  · rcases hb.2 with e | ⟨a, b, h1, _, e⟩
    · left; rw [e]
    · right
      have := h1.1; have := h1.2.1
      refine ⟨((b - 1 + 1 : Nat) : Int) - fp ((L s).take (b - 1 + 1)), List.mem_map.2 ⟨b - 1, List.mem_range.2 (by rw [L_size]; omega), rfl⟩, ?_⟩
      have hm := fp_min ((L s).take b) a (by rw [List.drop_take]; exact h1.2.2)
      rw [e, show b - 1 + 1 = b by omega]
      simp only
      omega
theorem rd_drop {l : List Int} {i : Nat} (h : i < l.length) : l.drop i = rd l i :: l.drop (i + 1) := by
  rw [List.drop_eq_getElem_cons h]
  congr 1
  simp [rd, h]
theorem rich_l1 {s : ByteArray} (hs : s.size ≤ 100) (l8 : List Int) (hl : l8.length = s.size) (hv : ∀ i : Nat, i < s.size → 1 ≤ rd l8 i ∧ rd l8 i ≤ (i : Int) + 1) (x12 x14 x15 x17 x18 : Int) (hx14 : 0 ≤ x14) (hx15 : 0 ≤ x15) (h14 : x14 + x15 ≤ s.size) (hpal : Pal (seg (L s) x14.toNat (x14 + x15).toNat)) (e1 : x17 = x12) (e2 : x18 = x15) : ∀ (n i : Nat) (m : Int), i + n = s.size → (l8.drop i).foldl mx m = x15 → Ev (fun k => galloonlaw01_TrimRich.l1 k s l8 x12 x14 x15 x17 x18 m i) true
  | 0, i, m, h, hm => by
    have hd : l8.drop i = [] := List.drop_of_length_le (by omega)
    rw [hd] at hm
    have hm2 : m = x15 := hm
    have hw : wrap64 (x14 + x15) = x14 + x15 := w64 (by omega)
    have hp : Ev (fun k => galloonref01_Palindrome.f k (s.extract x14.toNat (x14 + x15).toNat)) true := by
      have := rpal_ev (s := s.extract x14.toNat (x14 + x15).toNat) (by rw [ByteArray.size_extract]; omega)
      rw [seg_L, decide_eq_true hpal] at this
      exact this
    refine Ev.step (f := fun k => (galloonref01_Palindrome.f k (s.extract x14.toNat (x14 + x15).toNat)).bind fun t426 => (if t426 = true then ((galloonlaw01_awake.f k).bind fun t427 => (some t427)) else (some false))) (fun k => ?_) (Ev.bind hp (Ev.ite_true rfl (Ev.bind awake_ev (Ev.now _))))
    simp only [galloonlaw01_TrimRich.l1]
    rw [if_neg (by omega), if_pos e1, if_pos e2, if_pos hm2, if_pos hx14, hw, if_pos h14, if_pos hx14, if_pos (by omega)]
  | n + 1, i, m, h, hm => by
    have hi : i < l8.length := by omega
    have hw2 : wrap64 ((i : Int) + 1) = ((i + 1 : Nat) : Int) := by rw [w64 (by omega)]; rfl
    have hr := hv i (by omega)
    have q1 : (i : Int) < (l8.length : Int) := by clear hm; omega
    have q2 : (0 : Int) ≤ (i : Int) := Int.natCast_nonneg i
    have q3 : ¬ rd l8 i < 1 := by clear hm; omega
    have q4 : ¬ rd l8 i > ((i + 1 : Nat) : Int) := by clear hm; omega
    have hd : l8.drop i = rd l8 i :: l8.drop (i + 1) := rd_drop hi
    rw [hd, List.foldl_cons] at hm
    refine Ev.step (f := fun k => galloonlaw01_TrimRich.l1 k s l8 x12 x14 x15 x17 x18 (mx m (rd l8 i)) ((i + 1 : Nat) : Int)) (fun k => ?_) (rich_l1 hs l8 hl hv x12 x14 x15 x17 x18 hx14 hx15 h14 hpal e1 e2 n (i + 1) _ (by omega) hm)
    simp only [galloonlaw01_TrimRich.l1]
    rw [if_pos q1, if_pos q2, if_neg q3, hw2, if_neg q4]
theorem rich_l0 {s : ByteArray} (x8 : List Int) (x12 x14 x15 : Int) {cl : List Int} (hcl : cl.length ≤ 1000) (hr : ∀ x ∈ cl, 0 ≤ x ∧ x ≤ 100) : ∀ (n i : Nat) (a m : Int), i + n = cl.length → 0 ≤ a → a ≤ 60 * i → Ev (fun k => galloonlaw01_TrimRich.l1 k s x8 x12 x14 x15 (a + halves (cl.drop i)) ((cl.drop i).foldl mx m) 0 0) true → Ev (fun k => galloonlaw01_TrimRich.l0 k s x8 cl x12 x14 x15 a m i) true
  | 0, i, a, m, h, h0, h1, hE => by
    have hd : cl.drop i = [] := List.drop_of_length_le (by omega)
    rw [hd] at hE
    simp only [halves, Int.add_zero, List.foldl_nil] at hE
    refine Ev.step (f := fun k => galloonlaw01_TrimRich.l1 k s x8 x12 x14 x15 a m 0 0) (fun k => ?_) hE
    simp only [galloonlaw01_TrimRich.l0]
    rw [if_neg (by omega)]
  | n + 1, i, a, m, h, h0, h1, hE => by
    have hi : i < cl.length := by omega
    have hw2 : wrap64 ((i : Int) + 1) = ((i + 1 : Nat) : Int) := by rw [w64 (by omega)]; rfl
    have hrd : rd cl i = cl[i] := by simp [rd, hi]
    have hx := hr cl[i] (List.getElem_mem hi)
    have hd : cl.drop i = rd cl i :: cl.drop (i + 1) := by rw [hrd]; exact List.drop_eq_getElem_cons hi
    have hw3 : wrap64 (Int.tdiv (wrap64 (rd cl i + 1)) 2) = (rd cl i + 1) / 2 := by
      rw [hrd, w64 (n := cl[i] + 1) (by omega), Int.tdiv_eq_ediv_of_nonneg (by omega), w64 (by omega)]
    have hw4 : wrap64 (a + (rd cl i + 1) / 2) = a + (rd cl i + 1) / 2 := by rw [hrd]; exact w64 (by omega)
    rw [hd] at hE
    simp only [halves, List.foldl_cons] at hE
    refine Ev.step (f := fun k => galloonlaw01_TrimRich.l0 k s x8 cl x12 x14 x15 (a + (rd cl i + 1) / 2) (mx m (rd cl i)) ((i + 1 : Nat) : Int)) (fun k => ?_) (rich_l0 x8 x12 x14 x15 hcl hr n (i + 1) _ _ (by omega) (by rw [hrd]; omega) (by rw [hrd]; omega) (by rw [Int.add_assoc]; exact hE))
    simp only [galloonlaw01_TrimRich.l0]
    rw [if_pos (by omega), if_pos (by omega), hw3, hw4, hw2]
theorem TrimRich : galloonlaw01_TrimRich.Pure := by
  intro a0 ha
  obtain ⟨t, ht, hw, hts⟩ := tame_ev (a := a0) (m := 100) (by decide) ha
  have hs := hw.1
  obtain ⟨p1, p2⟩ := pals_rich hs
  obtain ⟨q0, q1⟩ := richL_iff (l := L t) t.size 0
  obtain ⟨f1, f2, f3, f4⟩ := long_facts hs
  have hel : (endsL (L t)).length = t.size := by simp [endsL, L_size]
  have hO : trim_Occurrences.f t = some (((partsL t).length : Int), 0) := by unfold trim_Occurrences.f; rw [isWord_yes hw]; rfl
  have hL : trim_Longest.f t = some ((longSpec t).1, (longSpec t).2, 0) := by unfold trim_Longest.f; rw [isWord_yes hw]; rfl
  have hcount : ((partsL t).length : Int) = halves (cenL t) := partsU_count hs (2 * t.size - 1) (Nat.le_refl _)
  have hloop : Ev (fun k => galloonlaw01_TrimRich.j0 k t (endsL (L t)) (cenL t) ((partsL t).length : Int) (longSpec t).1 (longSpec t).2 (((endsL (L t)).length : Int) != (t.size : Int))) true := by
    rw [hel]
    have hlast := rich_l1 hs (endsL (L t)) hel (fun i hi => by
      have hr := ends_at hi
      have hrd : rd (endsL (L t)) i = ((i + 1 : Nat) : Int) - fp ((L t).take (i + 1)) := by
        have hi2 : i < (endsL (L t)).length := by rw [hel]; exact hi
        simp [rd, hi2]
        simp [endsL]
      rw [hrd]
      exact hr) ((partsL t).length : Int) (longSpec t).1 (longSpec t).2 ((partsL t).length : Int) (longSpec t).2 f2 f1 f3 f4 rfl rfl t.size 0 0 (by omega) (by rw [List.drop_zero]; exact ends_max hs)
    rw [show (((0 : Nat)) : Int) = (0 : Int) from rfl] at hlast
    have hz := rich_l0 (s := t) (endsL (L t)) ((partsL t).length : Int) (longSpec t).1 (longSpec t).2 (cl := cenL t) (by rw [cenL_len]; omega) (fun x hx => by
      obtain ⟨c, hc, rfl⟩ := List.mem_map.1 hx
      rw [List.mem_range] at hc
      exact cen_range hs (by omega)) (cenL t).length 0 0 0 (Nat.zero_add _) (Int.le_refl _) (Int.le_refl _)
    have hh : halves (cenL t) = ((partsL t).length : Int) := hcount.symm
    rw [List.drop_zero, cen_max hs, Int.zero_add, hh, show (((0 : Nat)) : Int) = (0 : Int) from rfl] at hz
    refine Ev.step (fun k => ?_) (hz hlast)
    simp only [galloonlaw01_TrimRich.j0]
    rw [if_neg (by simp)]
  refine Ev.rounds (g := fun k => galloonlaw01_TrimRich.f k a0) ?_
  unfold galloonlaw01_TrimRich.f
  refine Ev.bind ht ?_
  rw [Palindromes_yes hw, hO, hL]
  simp only [Option.bind_some]
  refine Ev.bind (Rich_ev hw) (Ev.bind (Ends_ev hw) (Ev.bind (Centers_ev hw) ?_))
  have c1 : ¬ ((palSpec t).length : Int) > (t.size : Int) := by omega
  have c2 : ¬ ((((palSpec t).length : Int) == (t.size : Int)) != (richL (L t) t.size 0 == (-1))) = true := by
    by_cases e : (palSpec t).length = t.size
    · rw [e, p2.1 e]; simp
    · have e2 : ¬ richL (L t) t.size 0 = -1 := fun h => e (p2.2 h)
      have e3 : (((palSpec t).length : Int) == (t.size : Int)) = false := beq_eq_false_iff_ne.mpr (by omega)
      rw [e3, beq_eq_false_iff_ne.mpr e2]; simp
  refine Ev.ite_true trivial (Ev.ite_true rfl (Ev.ite_true rfl (Ev.ite_true rfl (Ev.ite_true trivial (Ev.ite_true trivial (Ev.ite_false c1 (Ev.ite_false c2 (Ev.ite_false (by omega) (Ev.ite_false (by omega) hloop)))))))))
end Go.Proofs.Ytbdlhgdfnnbjiaa.Pure
