import Derived.Test.YtbdlhgdfnnbjiaaGSpec
import Derived.Test.YtbdlhgdfnnbjiaaGisWord
import Derived.Test.YtbdlhgdfnnbjiaaGturned
import Derived.Test.YtbdlhgdfnnbjiaaPYx0
import Derived.Test.YtbdlhgdfnnbjiaaPYx1
import Derived.Test.YtbdlhgdfnnbjiaaPYx10
import Derived.Test.YtbdlhgdfnnbjiaaPYx23
import Derived.Test.YtbdlhgdfnnbjiaaPYx24
import Derived.Test.YtbdlhgdfnnbjiaaPYx25
import Derived.Test.YtbdlhgdfnnbjiaaPYx26
import Derived.Test.YtbdlhgdfnnbjiaaPYx5
import Derived.Test.YtbdlhgdfnnbjiaaPal
import Derived.Lib.Index
import Derived.Lib.IndexLaws
import Derived.Lib.Strings
/-! TrimInner: the plain law, with the plain laws that it leans on. -/
namespace Go.Proofs.Ytbdlhgdfnnbjiaa.Pure
open Go.Proofs.Ytbdlhgdfnnbjiaa.PY Go.RowKit Go.Proofs.YtbdlhgdfnnbjiaaW.PrintWords Go.Proofs.YtbdlhgdfnnbjiaaW.PrintLast Go.Proofs.YtbdlhgdfnnbjiaaW.PrintMore Go.Proofs.Ytbdlhgdfnnbjiaa.Pal
set_option linter.unusedVariables false
theorem Ev.ite_true {α : Type} {c : Prop} [Decidable c] {g f : Nat → Option α} {r : α} (hc : c) (h : Ev g r) : Ev (fun n => if c then g n else f n) r := by simpa only [if_pos hc] using h
theorem Ev.ite_false {α : Type} {c : Prop} [Decidable c] {g f : Nat → Option α} {r : α} (hc : ¬ c) (h : Ev f r) : Ev (fun n => if c then g n else f n) r := by simpa only [if_neg hc] using h
theorem Ev.to {α : Type} {g : Nat → Option α} {r s : α} (h : Ev g r) (e : r = s) : Ev g s := e ▸ h
theorem w64 {n : Int} (h : -9223372036854775808 ≤ n ∧ n ≤ 9223372036854775807) : wrap64 n = n := by unfold wrap64; omega
/-- A string's bytes, and back. -/
def L (s : ByteArray) : List UInt8 := s.data.toList
def mkS (l : List UInt8) : ByteArray := ⟨l.toArray⟩
theorem L_mk (l : List UInt8) : L (mkS l) = l := by simp [L, mkS]
theorem mk_L (s : ByteArray) : mkS (L s) = s := by simp [L, mkS]
theorem L_inj {s t : ByteArray} (h : L s = L t) : s = t := by rw [← mk_L s, ← mk_L t, h]
theorem L_size (s : ByteArray) : (L s).length = s.size := by simp [L]
theorem L_append (s t : ByteArray) : L (s ++ t) = L s ++ L t := by simp [L, ByteArray.data_append]
theorem L_extract (s : ByteArray) (a b : Nat) : L (s.extract a b) = ((L s).drop a).take (b - a) := Lib.extract_data s a b
theorem toList_L (s : ByteArray) : s.toList = L s := ByteArray.toList_eq s
theorem bt_L {s : ByteArray} {i : Nat} (h : i < (L s).length) : bt s i = (((L s)[i]).toNat : Int) := by
  have h' : i < s.size := by rw [← L_size]; exact h
  unfold bt
  rw [dif_pos (by simpa using h')]
  simp only [Int.toNat_natCast]
  rfl
theorem turned_ev {a : ByteArray} (h : a.size ≤ 1000000) : trim_turned.f a = some (mkS (L a).reverse) := by
  unfold trim_turned.f
  rw [if_pos h]
  congr 1
  refine L_inj ?_
  rw [L_mk]
  simp only [L, strOfNums, numsOf, ← List.map_reverse, List.map_map]
  conv => rhs; rw [← List.map_id (a.data.toList.reverse)]
  refine List.map_congr_left (fun b _ => ?_)
  simp
theorem isWord_iff (s : ByteArray) : trim_isWord.f s = some (decide (s.size ≤ 100 ∧ ∀ c ∈ L s, 97 ≤ c.toNat ∧ c.toNat ≤ 100)) := by
  unfold trim_isWord.f
  by_cases c : (s.size : Int) ≤ 100
  · rw [if_pos c]
    congr 1
    rw [Bool.eq_iff_iff, allBytes_iff, decide_eq_true_iff]
    have e : ∀ j, j < s.size → ∀ h : j < (L s).length, s.get! j = (L s)[j] := fun j hj h => by
      simp [ByteArray.get!, L, hj]
    constructor
    · intro h
      refine ⟨by omega, fun x hx => ?_⟩
      obtain ⟨j, hj, rfl⟩ := List.getElem_of_mem hx
      have hj' : j < s.size := by rw [← L_size]; exact hj
      rw [← e j hj' hj]
      exact h j hj'
    · rintro ⟨_, h⟩ j hj
      rw [e j hj (by rw [L_size]; exact hj)]
      exact h _ (List.getElem_mem _)
  · rw [if_neg c]
    congr 1
    symm
    rw [decide_eq_false_iff_not]
    omega
theorem pal_half {l : List UInt8} : Pal l ↔ ∀ j, j < l.length / 2 → l[j]? = l[l.length - 1 - j]? := by
  constructor
  · intro h j hj
    have hr : l.reverse = l := h
    have : l.reverse[j]? = l[l.length - 1 - j]? := List.getElem?_reverse (by omega)
    rw [hr] at this
    exact this
  · intro h
    refine List.ext_getElem? (fun j => ?_)
    by_cases hj : j < l.length
    · rw [List.getElem?_reverse hj]
      by_cases h1 : j < l.length / 2
      · exact (h j h1).symm
      · by_cases h2 : l.length - 1 - j < l.length / 2
        · have := h _ h2
          rw [this]
          congr 1
          omega
        · congr 1
          omega
    · rw [List.getElem?_eq_none (by simpa using hj), List.getElem?_eq_none (by omega)]
theorem rpal_loop {s : ByteArray} (hs : s.size ≤ 1000000) : ∀ n i : Nat, s.size / 2 = i + n → Ev (fun k => galloonref01_Palindrome.l0 k s i) (decide (∀ j, j < (L s).length / 2 → i ≤ j → (L s)[j]? = (L s)[(L s).length - 1 - j]?))
  | 0, i, h => by
    have hw : wrap64 ((s.size : Int) / 2) = ((s.size / 2 : Nat) : Int) := by rw [w64 (by omega)]; omega
    refine Ev.step (f := fun _ => some true) (fun k => ?_) ?_
    · simp only [galloonref01_Palindrome.l0]; rw [hw, if_neg (by omega)]
    · refine Ev.to (Ev.now _) ?_
      symm
      rw [decide_eq_true_iff]
      intro j hj hij
      rw [L_size] at hj
      omega
  | n + 1, i, h => by
    have hw : wrap64 ((s.size : Int) / 2) = ((s.size / 2 : Nat) : Int) := by rw [w64 (by omega)]; omega
    have hw1 : wrap64 (wrap64 ((s.size : Int) - 1) - i) = ((s.size - 1 - i : Nat) : Int) := by rw [w64 (n := (s.size : Int) - 1) (by omega), w64 (by omega)]; omega
    have hw2 : wrap64 ((i : Int) + 1) = ((i + 1 : Nat) : Int) := by rw [w64 (by omega)]; rfl
    have h1 : i < (L s).length := by rw [L_size]; omega
    have h2 : s.size - 1 - i < (L s).length := by rw [L_size]; omega
    have hb1 := bt_L h1
    have hb2 := bt_L h2
    by_cases c : (L s)[i] = (L s)[s.size - 1 - i]
    · refine Ev.step (f := fun k => galloonref01_Palindrome.l0 k s ((i + 1 : Nat) : Int)) (fun k => ?_) (Ev.to (rpal_loop hs n (i + 1) (by omega)) ?_)
      · simp only [galloonref01_Palindrome.l0]
        rw [hw, hw1, if_pos (by omega), if_pos (by omega), if_pos (by omega), if_pos (by omega), if_pos (by omega), hb1, hb2, if_pos (by rw [c]), hw2]
      · rw [Bool.eq_iff_iff, decide_eq_true_iff, decide_eq_true_iff]
        constructor
        · intro hh j hj hij
          by_cases e : j = i
          · subst e
            rw [L_size, List.getElem?_eq_getElem h1, List.getElem?_eq_getElem h2, c]
          · exact hh j hj (by omega)
        · intro hh j hj hij
          exact hh j hj (by omega)
    · refine Ev.step (f := fun _ => some false) (fun k => ?_) (Ev.to (Ev.now _) ?_)
      · simp only [galloonref01_Palindrome.l0]
        rw [hw, hw1, if_pos (by omega), if_pos (by omega), if_pos (by omega), if_pos (by omega), if_pos (by omega), hb1, hb2, if_neg]
        intro e
        exact c (UInt8.toNat_inj.1 (by omega))
      · symm
        rw [decide_eq_false_iff_not]
        intro hh
        have := hh i (by rw [L_size]; omega) (Nat.le_refl _)
        rw [L_size, List.getElem?_eq_getElem h1, List.getElem?_eq_getElem h2] at this
        exact c (Option.some.inj this)
theorem rpal_ev {s : ByteArray} (hs : s.size ≤ 1000000) : Ev (fun k => galloonref01_Palindrome.f k s) (decide (Pal (L s))) := by
  refine Ev.to (rpal_loop hs (s.size / 2) 0 (by omega)) ?_
  rw [Bool.eq_iff_iff, decide_eq_true_iff, decide_eq_true_iff, pal_half]
  exact ⟨fun h j hj => h j hj (Nat.zero_le _), fun h j hj _ => h j hj⟩
theorem rword_loop {s : ByteArray} (hs : s.size ≤ 1000000) : ∀ n i : Nat, i + n = s.size → Ev (fun k => galloonref01_Word.l0 k s i) (decide (s.size ≤ 100 ∧ ∀ c ∈ (L s).drop i, 97 ≤ c.toNat ∧ c.toNat ≤ 100))
  | 0, i, h => by
    refine Ev.step (f := fun _ => some (decide ((s.size : Int) ≤ 100))) (fun k => ?_) (Ev.to (Ev.now _) ?_)
    · simp only [galloonref01_Word.l0]; rw [if_neg (by omega)]
    · have : (L s).drop i = [] := List.drop_of_length_le (by rw [L_size]; omega)
      rw [this, Bool.eq_iff_iff, decide_eq_true_iff, decide_eq_true_iff]
      simp; omega
  | n + 1, i, h => by
    have h1 : i < (L s).length := by rw [L_size]; omega
    have hb1 := bt_L h1
    have hd : (L s).drop i = (L s)[i] :: (L s).drop (i + 1) := List.drop_eq_getElem_cons h1
    have hw2 : wrap64 ((i : Int) + 1) = ((i + 1 : Nat) : Int) := by rw [w64 (by omega)]; rfl
    by_cases c1 : ((L s)[i].toNat : Int) < 97
    · refine Ev.step (f := fun _ => some false) (fun k => ?_) (Ev.to (Ev.now _) ?_)
      · simp only [galloonref01_Word.l0]; rw [if_pos (by omega), if_pos (by omega), hb1, if_pos c1]
      · symm; rw [decide_eq_false_iff_not, hd]; rintro ⟨_, hh⟩; have := hh _ (List.mem_cons_self ..); omega
    · by_cases c2 : ((L s)[i].toNat : Int) > 100
      · refine Ev.step (f := fun _ => some false) (fun k => ?_) (Ev.to (Ev.now _) ?_)
        · simp only [galloonref01_Word.l0]; rw [if_pos (by omega), if_pos (by omega), hb1, if_neg c1, if_pos c2]
        · symm; rw [decide_eq_false_iff_not, hd]; rintro ⟨_, hh⟩; have := hh _ (List.mem_cons_self ..); omega
      · refine Ev.step (f := fun k => galloonref01_Word.l0 k s ((i + 1 : Nat) : Int)) (fun k => ?_) (Ev.to (rword_loop hs n (i + 1) (by omega)) ?_)
        · simp only [galloonref01_Word.l0]; rw [if_pos (by omega), if_pos (by omega), hb1, if_neg c1, if_neg c2, hw2]
        · rw [Bool.eq_iff_iff, decide_eq_true_iff, decide_eq_true_iff, hd]
          refine and_congr_right fun _ => ⟨fun hh c hc => ?_, fun hh c hc => hh c (List.mem_cons_of_mem _ hc)⟩
          rcases List.mem_cons.1 hc with rfl | hc
          · omega
          · exact hh c hc
theorem rword_ev {s : ByteArray} (hs : s.size ≤ 1000000) : Ev (fun k => galloonref01_Word.f k s) (decide (s.size ≤ 100 ∧ ∀ c ∈ L s, 97 ≤ c.toNat ∧ c.toNat ≤ 100)) := by
  have := rword_loop hs s.size 0 (by omega)
  simpa [galloonref01_Word.f] using this
theorem awake_ev : Ev (fun k => galloonlaw01_awake.f k) true := Ev.of galloonlaw01_awake.mono (k := 60) (by decide +kernel)
theorem short_ev (a : ByteArray) : ∃ t, galloonlaw01_short.f a = some t ∧ t.size ≤ 101 := by
  unfold galloonlaw01_short.f mn
  refine ⟨_, by rw [if_pos (by split <;> omega), if_pos (by split <;> omega)], ?_⟩
  rw [ByteArray.size_extract]
  split <;> omega
def Word (s : ByteArray) : Prop := s.size ≤ 100 ∧ ∀ c ∈ L s, 97 ≤ c.toNat ∧ c.toNat ≤ 100
theorem isWord_yes {s : ByteArray} (h : Word s) : trim_isWord.f s = some true := by rw [isWord_iff]; exact congrArg some (decide_eq_true h)
theorem isWord_no {s : ByteArray} (h : ¬ Word s) : trim_isWord.f s = some false := by rw [isWord_iff]; exact congrArg some (decide_eq_false h)
/-- The letters from i up to e. -/
def seg (l : List UInt8) (i e : Nat) : List UInt8 := (l.drop i).take (e - i)
theorem seg_len {l : List UInt8} {i e : Nat} (h : e ≤ l.length) : (seg l i e).length = e - i := by
  unfold seg; rw [List.length_take, List.length_drop]; omega
theorem seg_ends {l : List UInt8} {i e : Nat} (h : i + 2 ≤ e) (he : e ≤ l.length) : seg l i e = l[i]'(by omega) :: (seg l (i + 1) (e - 1) ++ [l[e - 1]'(by omega)]) := by
  refine List.ext_getElem? (fun t => ?_)
  unfold seg
  cases t with
  | zero =>
    rw [List.getElem?_take_of_lt (by omega), List.getElem?_drop, List.getElem?_cons_zero, Nat.add_zero, List.getElem?_eq_getElem]
  | succ t =>
    rw [List.getElem?_cons_succ]
    by_cases c : t < e - 1 - (i + 1)
    · rw [List.getElem?_append_left (by rw [List.length_take, List.length_drop]; omega), List.getElem?_take_of_lt (by omega), List.getElem?_take_of_lt c, List.getElem?_drop, List.getElem?_drop]
      congr 1; omega
    · by_cases c2 : t = e - 1 - (i + 1)
      · rw [List.getElem?_append_right (by rw [List.length_take, List.length_drop]; omega), List.getElem?_take_of_lt (by omega), List.getElem?_drop, List.length_take, List.length_drop, show i + (t + 1) = e - 1 by omega, show t - min (e - 1 - (i + 1)) (l.length - (i + 1)) = 0 by omega, List.getElem?_cons_zero, List.getElem?_eq_getElem]
      · rw [List.getElem?_eq_none (by rw [List.length_take, List.length_drop]; omega), List.getElem?_eq_none (by rw [List.length_append, List.length_take, List.length_drop]; simp; omega)]
theorem pal_wrap {z : List UInt8} {a b : UInt8} (h : Pal (a :: (z ++ [b]))) : a = b ∧ Pal z := by
  have h1 : (a :: (z ++ [b])).reverse = a :: (z ++ [b]) := h
  rw [List.reverse_cons, List.reverse_append, List.reverse_singleton, List.singleton_append, List.cons_append] at h1
  have h2 := (List.cons.inj h1).1
  subst h2
  exact ⟨rfl, pal_cons_snoc.1 h⟩
theorem pal_form {y : List UInt8} (h : Pal y) (hl : 2 ≤ y.length) : ∃ c z, y = c :: (z ++ [c]) ∧ Pal z := by
  match y, hl with
  | a :: t, hl =>
    rcases List.eq_nil_or_concat t with rfl | ⟨z, b, rfl⟩
    · simp at hl
    · rw [List.concat_eq_append] at h ⊢
      obtain ⟨rfl, hz⟩ := pal_wrap h
      exact ⟨a, z, rfl, hz⟩
theorem pal_sub_ends {a b : UInt8} {m y : List UInt8} (hy : Pal y) (h : y.Sublist (a :: (m ++ [b]))) : y.Sublist (m ++ [b]) ∨ y.Sublist (a :: m) ∨ (a = b ∧ ∃ z, y = a :: (z ++ [a]) ∧ Pal z ∧ z.Sublist m) := by
  rcases List.sublist_cons_iff.1 h with h | ⟨y', rfl, h3⟩
  · exact Or.inl h
  · obtain ⟨z1, z2, rfl, h1, h2⟩ := List.sublist_append_iff.1 h3
    rcases List.sublist_cons_iff.1 h2 with h2 | ⟨r, rfl, h4⟩
    · rw [List.sublist_nil.1 h2, List.append_nil]
      exact Or.inr (Or.inl (h1.cons_cons a))
    · rw [List.sublist_nil.1 h4] at hy ⊢
      obtain ⟨rfl, hz⟩ := pal_wrap hy
      exact Or.inr (Or.inr ⟨rfl, z1, rfl, hz, h1⟩)
/-- Behind the first c. -/
theorem sub_first {c : UInt8} {A R t : List UInt8} (hA : c ∉ A) (h : (c :: t).Sublist (A ++ c :: R)) : t.Sublist R := by
  induction A with
  | nil =>
    rcases List.sublist_cons_iff.1 h with h | ⟨r, e, h⟩
    · exact (List.sublist_cons_self c t).trans h
    · rw [(List.cons.inj e).2]; exact h
  | cons x A ih =>
    rw [List.mem_cons] at hA
    rcases List.sublist_cons_iff.1 h with h | ⟨r, e, h⟩
    · exact ih (fun hc => hA (Or.inr hc)) h
    · exact absurd (Or.inl (List.cons.inj e).1) hA
theorem sub_between {c : UInt8} {A M B z : List UInt8} (hA : c ∉ A) (hB : c ∉ B) (h : (c :: (z ++ [c])).Sublist (A ++ c :: (M ++ c :: B))) : z.Sublist M := by
  have h1 := (sub_first hA h).reverse
  simp only [List.reverse_append, List.reverse_cons, List.reverse_nil, List.nil_append, List.append_assoc, List.cons_append] at h1
  have := sub_first (by simpa using hB) h1
  exact List.reverse_sublist.1 this
theorem lt_snoc {c : UInt8} : ∀ {x y : List UInt8}, x.length = y.length → x ++ [c] < y ++ [c] → x < y
  | [], [], _, h => absurd h (List.lt_irrefl _)
  | [], _ :: _, e, _ => by simp at e
  | _ :: _, [], e, _ => by simp at e
  | a :: x, b :: y, e, h => by
    rw [List.cons_append, List.cons_append, List.cons_lt_cons_iff] at h
    rw [List.cons_lt_cons_iff]
    rcases h with h | ⟨h1, h2⟩
    · exact Or.inl h
    · exact Or.inr ⟨h1, lt_snoc (by simpa using e) h2⟩
theorem lt_total {x y : List UInt8} (h1 : ¬ x < y) (h2 : ¬ y < x) : x = y := List.le_antisymm (List.not_lt.1 h2) (List.not_lt.1 h1)
/-- The first one of the longest palindromes that are subsequences. -/
structure Best (l y : List UInt8) : Prop where
  pal : Pal y
  sub : y.Sublist l
  long : ∀ z, Pal z → z.Sublist l → z.length ≤ y.length
  least : ∀ z, Pal z → z.Sublist l → z.length = y.length → ¬ z < y
theorem best_eq2 {l y z : List UInt8} (h : Best l y) (h' : Best l z) : y = z := by
  have h1 := h.long z h'.pal h'.sub
  have h2 := h'.long y h.pal h.sub
  exact lt_total (h'.least y h.pal h.sub (by omega)) (h.least z h'.pal h'.sub (by omega))
theorem best_pal {l : List UInt8} (h : Pal l) : Best l l := by
  refine ⟨h, List.Sublist.refl l, fun z _ hs => hs.length_le, fun z _ hs hl => ?_⟩
  rw [hs.eq_of_length hl]
  exact List.lt_irrefl _
theorem best_nil : Best [] [] := best_pal rfl
/-- The word around the first and the last c. -/
structure Around (S A M B : List UInt8) (c : UInt8) : Prop where
  eq : S = A ++ c :: (M ++ c :: B)
  nA : c ∉ A
  nB : c ∉ B
theorem around_sub {S A M B : List UInt8} {c : UInt8} (h : Around S A M B c) {z : List UInt8} (hz : z.Sublist M) : (c :: (z ++ [c])).Sublist S := by
  rw [h.eq]
  refine List.Sublist.trans ?_ (List.sublist_append_right A _)
  refine List.Sublist.cons_cons c ?_
  exact List.Sublist.append hz (List.Sublist.cons_cons c (List.nil_sublist B))
theorem around_of {S A M B z : List UInt8} {c : UInt8} (h : Around S A M B c) (hs : (c :: (z ++ [c])).Sublist S) : z.Sublist M := by
  rw [h.eq] at hs
  exact sub_between h.nA h.nB hs
/-- One step inwards at the least letter that fits. -/
theorem best_around {S A M B y : List UInt8} {c : UInt8} (h : Around S A M B c) (hy : Best M y) (n : Nat) (hn : n = y.length + 2) (hmax : ∀ z, Pal z → z.Sublist S → z.length ≤ n)
    (hmin : ∀ c' A' M' B', c' < c → Around S A' M' B' c' → ∀ z, Pal z → z.Sublist M' → z.length + 2 < n) : Best S (c :: (y ++ [c])) := by
  have hl : (c :: (y ++ [c])).length = n := by simp [hn]
  refine ⟨pal_cons_snoc.2 hy.pal, around_sub h hy.sub, fun z hz hs => by rw [hl]; exact hmax z hz hs, fun z hz hs hzl hlt => ?_⟩
  obtain ⟨c', z', rfl, hz'⟩ := pal_form hz (by rw [hzl, hl]; omega)
  rw [List.cons_lt_cons_iff] at hlt
  rcases hlt with hc | ⟨rfl, hlt⟩
  · -- a smaller letter would fit
    have hmem : c' ∈ S := hs.subset (List.mem_cons_self ..)
    obtain ⟨A', R, hS, hA'⟩ : ∃ A' R, S = A' ++ c' :: R ∧ c' ∉ A' := by
      obtain ⟨A', R, h1, h2⟩ := List.append_of_mem hmem |> fun ⟨s, t, e⟩ => (⟨s, t, e, trivial⟩ : ∃ s t, S = s ++ c' :: t ∧ True)
      exact List.eq_append_cons_of_mem hmem |> fun ⟨a, b, e, hn⟩ => ⟨a, b, e, hn⟩
    have h1 : (z' ++ [c']).Sublist R := by rw [hS] at hs; exact sub_first hA' hs
    have hm2 : c' ∈ R.reverse := by rw [List.mem_reverse]; exact h1.subset (by simp)
    obtain ⟨B', M', hR, hB'⟩ := List.eq_append_cons_of_mem hm2
    have hR2 : R = M'.reverse ++ c' :: B'.reverse := by
      have := congrArg List.reverse hR
      rw [List.reverse_reverse, List.reverse_append, List.reverse_cons, List.append_assoc, List.singleton_append] at this
      exact this
    have har : Around S A' M'.reverse B'.reverse c' := ⟨by rw [hS, hR2], hA', by simpa using hB'⟩
    have := hmin c' _ _ _ hc har z' hz' (around_of har hs)
    simp at hzl
    omega
  · have h1 := around_of h hs
    simp at hzl
    exact hy.least z' hz' h1 hzl (lt_snoc hzl hlt)
def lqq (l : List UInt8) : Nat → Nat → Nat
  | 0, _ => 0
  | 1, _ => 1
  | d + 2, i => max (max (lqq l (d + 1) (i + 1)) (lqq l (d + 1) i)) (if l[i]? = l[i + d + 1]? then 2 + lqq l d (i + 1) else 0)
theorem seg_cons {l : List UInt8} {i e : Nat} (h : i < e) (he : e ≤ l.length) : seg l i e = l[i]'(by omega) :: seg l (i + 1) e := by
  unfold seg
  rw [List.drop_eq_getElem_cons (by omega), show e - i = (e - (i + 1)) + 1 by omega, List.take_succ_cons]
theorem lqq_best {l : List UInt8} : ∀ d i, i + d ≤ l.length → (∃ y, Pal y ∧ y.Sublist (seg l i (i + d)) ∧ y.length = lqq l d i) ∧ ∀ y, Pal y → y.Sublist (seg l i (i + d)) → y.length ≤ lqq l d i
  | 0, i, h => ⟨⟨[], rfl, List.nil_sublist _, rfl⟩, fun y _ hs => by
      have := hs.length_le
      rw [seg_len h] at this
      omega⟩
  | 1, i, h => ⟨⟨[l[i]], rfl, by rw [seg_cons (by omega) h]; exact List.Sublist.cons_cons _ (List.nil_sublist _), rfl⟩, fun y _ hs => by
      have := hs.length_le
      rw [seg_len h] at this
      show y.length ≤ 1
      omega⟩
  | d + 2, i, h => by
    obtain ⟨⟨y1, p1, s1, l1⟩, b1⟩ := lqq_best (l := l) (d + 1) (i + 1) (by omega)
    obtain ⟨⟨y2, p2, s2, l2⟩, b2⟩ := lqq_best (l := l) (d + 1) i (by omega)
    obtain ⟨⟨y3, p3, s3, l3⟩, b3⟩ := lqq_best (l := l) d (i + 1) (by omega)
    have hS : seg l i (i + (d + 2)) = l[i]'(by omega) :: (seg l (i + 1) (i + 1 + d) ++ [l[i + d + 1]'(by omega)]) := by
      have := seg_ends (l := l) (i := i) (e := i + (d + 2)) (by omega) h
      rw [this]
      simp only [show i + (d + 2) - 1 = i + d + 1 by omega, show i + 1 + d = i + d + 1 by omega]
    have hA : seg l (i + 1) (i + 1 + (d + 1)) = seg l (i + 1) (i + 1 + d) ++ [l[i + d + 1]'(by omega)] := by
      have h1 := seg_cons (l := l) (i := i) (e := i + (d + 2)) (by omega) h
      rw [hS] at h1
      have := (List.cons.inj h1).2
      rw [show i + 1 + (d + 1) = i + (d + 2) by omega]
      exact this.symm
    have hB : seg l i (i + (d + 1)) = l[i]'(by omega) :: seg l (i + 1) (i + 1 + d) := by
      rw [show i + (d + 1) = i + 1 + d by omega]
      exact seg_cons (by omega) (by omega)
    have g1 : l[i]? = some l[i] := List.getElem?_eq_getElem (by omega)
    have g2 : l[i + d + 1]? = some l[i + d + 1] := List.getElem?_eq_getElem (by omega)
    rw [hA] at s1 b1
    rw [hB] at s2 b2
    rw [hS]
    have hdef : lqq l (d + 2) i = max (max (lqq l (d + 1) (i + 1)) (lqq l (d + 1) i)) (if l[i]? = l[i + d + 1]? then 2 + lqq l d (i + 1) else 0) := rfl
    constructor
    · rw [hdef]
      by_cases c : l[i]? = l[i + d + 1]?
      · rw [if_pos c]
        have hc : l[i] = l[i + d + 1] := by rw [g1, g2] at c; exact Option.some.inj c
        rcases Nat.le_total (2 + lqq l d (i + 1)) (max (lqq l (d + 1) (i + 1)) (lqq l (d + 1) i)) with c1 | c1
        · rw [Nat.max_eq_left c1]
          rcases Nat.le_total (lqq l (d + 1) i) (lqq l (d + 1) (i + 1)) with c2 | c2
          · rw [Nat.max_eq_left c2]; exact ⟨y1, p1, s1.cons _, l1⟩
          · rw [Nat.max_eq_right c2]; exact ⟨y2, p2, s2.trans (List.Sublist.cons_cons _ (List.sublist_append_left _ _)), l2⟩
        · rw [Nat.max_eq_right c1]
          refine ⟨l[i] :: (y3 ++ [l[i]]), pal_cons_snoc.2 p3, List.Sublist.cons_cons _ ?_, by simp; omega⟩
          rw [hc]
          exact s3.append (List.Sublist.refl _)
      · rw [if_neg c, Nat.max_eq_left (Nat.zero_le _)]
        rcases Nat.le_total (lqq l (d + 1) i) (lqq l (d + 1) (i + 1)) with c2 | c2
        · rw [Nat.max_eq_left c2]; exact ⟨y1, p1, s1.cons _, l1⟩
        · rw [Nat.max_eq_right c2]; exact ⟨y2, p2, s2.trans (List.Sublist.cons_cons _ (List.sublist_append_left _ _)), l2⟩
    · intro y hy hs
      rw [hdef]
      rcases pal_sub_ends hy hs with h1 | h1 | ⟨h1, z, rfl, hz, h2⟩
      · have := b1 y hy h1; omega
      · have := b2 y hy h1; omega
      · have := b3 z hz h2
        rw [if_pos (by rw [g1, g2, h1])]
        simp
        omega
/-- The length of the longest palindrome that is a subsequence. -/
def mxl (l : List UInt8) : Nat := lqq l l.length 0
theorem seg_all (l : List UInt8) : seg l 0 (0 + l.length) = l := by unfold seg; simp
theorem mxl_ex (l : List UInt8) : ∃ y, Pal y ∧ y.Sublist l ∧ y.length = mxl l := by
  have := (lqq_best (l := l) l.length 0 (by omega)).1
  rwa [seg_all] at this
theorem mxl_le {l y : List UInt8} (h : Pal y) (hs : y.Sublist l) : y.length ≤ mxl l := by
  have := (lqq_best (l := l) l.length 0 (by omega)).2 y h
  rw [seg_all] at this
  exact this hs
theorem lqq_mxl {l : List UInt8} {d i : Nat} (h : i + d ≤ l.length) : lqq l d i = mxl (seg l i (i + d)) := by
  obtain ⟨⟨y, h1, h2, h3⟩, h4⟩ := lqq_best d i h
  obtain ⟨z, z1, z2, z3⟩ := mxl_ex (seg l i (i + d))
  have := mxl_le h1 h2
  have := h4 z z1 z2
  omega
theorem best_len {l y : List UInt8} (h : Best l y) : y.length = mxl l := by
  obtain ⟨z, z1, z2, z3⟩ := mxl_ex l
  have := h.long z z1 z2
  have := mxl_le h.pal h.sub
  omega
theorem mxl_pos {l : List UInt8} : mxl l = 0 ↔ l = [] := by
  constructor
  · intro h
    match l with
    | [] => rfl
    | a :: l =>
      have := mxl_le (l := a :: l) (y := [a]) rfl (List.Sublist.cons_cons _ (List.nil_sublist _))
      simp at this; omega
  · rintro rfl; rfl
theorem lq_mono (s : ByteArray) : ∀ d i, lq s d (i + 1) ≤ lq s (d + 1) i ∧ lq s d i ≤ lq s (d + 1) i
  | 0, i => ⟨Nat.zero_le _, Nat.zero_le _⟩
  | d + 1, i => by
    simp only [lq]
    omega
theorem lq_two (s : ByteArray) : ∀ d i, lq s (d + 1) i ≤ lq s d (i + 1) + 2 ∧ lq s (d + 1) i ≤ lq s d i + 2
  | 0, i => ⟨by simp [lq], by simp [lq]⟩
  | d + 1, i => by
    have h1 := lq_two s d i
    have h2 := lq_two s d (i + 1)
    have m1 := lq_mono s d i
    have m2 := lq_mono s d (i + 1)
    have e : lq s (d + 2) i = max (max (lq s (d + 1) (i + 1)) (lq s (d + 1) i)) (if bt s i = bt s ((i + d + 1 : Nat) : Int) then 2 + lq s d (i + 1) else 0) := rfl
    rw [show d + 1 + 1 = d + 2 from rfl, e]
    split <;> omega
theorem lq_same {s : ByteArray} {d i : Nat} (h : bt s i = bt s ((i + d + 1 : Nat) : Int)) : lq s (d + 2) i = 2 + lq s d (i + 1) := by
  have h1 := lq_two s d i
  have h2 := lq_two s d (i + 1)
  simp only [lq]
  rw [if_pos h]
  omega
theorem lq_other {s : ByteArray} {d i : Nat} (h : ¬ bt s i = bt s ((i + d + 1 : Nat) : Int)) : lq s (d + 2) i = max (lq s (d + 1) (i + 1)) (lq s (d + 1) i) := by
  simp only [lq]
  rw [if_neg h]
  omega
theorem lqI_nat (s : ByteArray) (i d : Nat) : lqI s (i : Int) ((i + d : Nat) : Int) = (lq s d i : Int) := by
  unfold lqI
  by_cases c : (i : Int) < ((i + d : Nat) : Int)
  · rw [if_pos c, show (((i + d : Nat) : Int) - i).toNat = d by omega, Int.toNat_natCast]
  · rw [if_neg c, show d = 0 by omega]; rfl
theorem around_ex {S z : List UInt8} {c : UInt8} (h : (c :: (z ++ [c])).Sublist S) : ∃ A M B, Around S A M B c := by
  have hmem : c ∈ S := h.subset (List.mem_cons_self ..)
  obtain ⟨A, R, hS, hA⟩ := List.eq_append_cons_of_mem hmem
  have h1 : (z ++ [c]).Sublist R := by rw [hS] at h; exact sub_first hA h
  have hm2 : c ∈ R.reverse := by rw [List.mem_reverse]; exact h1.subset (by simp)
  obtain ⟨B, M, hR, hB⟩ := List.eq_append_cons_of_mem hm2
  refine ⟨A, M.reverse, B.reverse, ?_, hA, by simpa using hB⟩
  have := congrArg List.reverse hR
  rw [List.reverse_reverse, List.reverse_append, List.reverse_cons, List.append_assoc, List.singleton_append] at this
  rw [hS, this]
theorem around_eq {S A M B A' M' B' : List UInt8} {c : UInt8} (h : Around S A M B c) (h' : Around S A' M' B' c) : M = M' := by
  have h1 := around_of h' (around_sub h (List.Sublist.refl M))
  have h2 := around_of h (around_sub h' (List.Sublist.refl M'))
  exact h1.eq_of_length (Nat.le_antisymm h1.length_le h2.length_le)
theorem seg_seg {l : List UInt8} {i j a b : Nat} (h : i + b ≤ j) : seg (seg l i j) a b = seg l (i + a) (i + b) := by
  unfold seg
  rw [List.drop_take, List.drop_drop, List.take_take]
  congr 1
  omega
/-- A letter's first and last place. -/
theorem letter {e : ByteArray} {S : List UInt8} (hS : L e = S) (c : UInt8) :
    (0 ≤ Lib.indexByte S c ↔ c ∈ S) ∧
    ((Lib.indexByte S c < Lib.lastIndexByte e (c.toNat : Int)) ↔ ∃ A M B, Around S A M B c) ∧
    (∀ A M B, Around S A M B c → Lib.indexByte S c = A.length ∧ Lib.lastIndexByte e (c.toNat : Int) = ((A.length + 1 + M.length : Nat) : Int)) := by
  have hsz : e.size = S.length := by rw [← hS, L_size]
  have hget : ∀ j, j < S.length → ((e.data[j]!).toNat : Int) = ((S[j]!).toNat : Int) := by
    intro j hj
    subst hS
    rw [getElem!_pos e.data j (by have := hj; rw [L_size] at this; exact this), getElem!_pos (L e) j hj]
    rfl
  have hcc : ∀ j, j < S.length → (((e.data[j]!).toNat : Int) = (c.toNat : Int) ↔ S[j]? = some c) := by
    intro j hj
    rw [hget j hj, getElem!_pos S j hj, List.getElem?_eq_getElem hj]
    constructor
    · intro h; rw [UInt8.toNat_inj.1 (Int.ofNat.inj h)]
    · intro h; rw [Option.some.inj h]
  have hge := Lib.indexByte_ge S c
  -- the first place
  have hfirst : (Lib.indexByte S c = -1 ∧ c ∉ S) ∨ ∃ p : Nat, Lib.indexByte S c = p ∧ S[p]? = some c ∧ ∀ k, k < p → S[k]? ≠ some c := by
    rcases Int.lt_or_le (Lib.indexByte S c) 0 with h | h
    · left
      have h1 : Lib.indexByte S c = -1 := by omega
      refine ⟨h1, fun hm => ?_⟩
      obtain ⟨k, hk⟩ := List.getElem?_of_mem hm
      exact Lib.indexByte_none h1 k hk
    · right
      obtain ⟨p, hp⟩ := Int.eq_ofNat_of_zero_le h
      exact ⟨p, hp, Lib.indexByte_some hp⟩
  have hlast := Lib.lastIndexByte_spec e (c.toNat : Int)
  rw [hsz] at hlast
  have hAr : ∀ A M B, Around S A M B c → Lib.indexByte S c = A.length ∧ Lib.lastIndexByte e (c.toNat : Int) = ((A.length + 1 + M.length : Nat) : Int) := by
    intro A M B h
    have hA : S[A.length]? = some c := by rw [h.eq, List.getElem?_append_right (Nat.le_refl _), Nat.sub_self]; rfl
    have hB : S[A.length + 1 + M.length]? = some c := by
      rw [h.eq, List.getElem?_append_right (by omega), show A.length + 1 + M.length - A.length = M.length + 1 by omega, List.getElem?_cons_succ, List.getElem?_append_right (Nat.le_refl _), Nat.sub_self]
      rfl
    have hlen : S.length = A.length + 1 + M.length + 1 + B.length := by
      rw [h.eq]; simp; omega
    constructor
    · rcases hfirst with ⟨_, hn⟩ | ⟨p, hp, hpc, hpm⟩
      · exact absurd (List.mem_of_getElem? hA) hn
      · rw [hp]
        rcases Nat.lt_trichotomy p A.length with h1 | h1 | h1
        · exfalso
          rw [h.eq, List.getElem?_append_left h1] at hpc
          exact h.nA (List.mem_of_getElem? hpc)
        · rw [h1]
        · exact absurd hA (hpm _ h1)
    · rcases hlast with ⟨_, hn⟩ | ⟨q, hq, he, hqc, hqm⟩
      · exact absurd ((hcc _ (by omega)).2 hA) (hn _ (by omega))
      · rw [he]
        rcases Nat.lt_trichotomy q (A.length + 1 + M.length) with h1 | h1 | h1
        · exact absurd ((hcc _ (by omega)).2 hB) (hqm _ h1 (by omega))
        · rw [h1]
        · exfalso
          have := (hcc q hq).1 hqc
          rw [h.eq, List.getElem?_append_right (by omega), show q - A.length = (q - A.length - 1) + 1 by omega, List.getElem?_cons_succ, List.getElem?_append_right (by omega), show q - A.length - 1 - M.length = (q - A.length - 1 - M.length - 1) + 1 by omega, List.getElem?_cons_succ] at this
          exact h.nB (List.mem_of_getElem? this)
  refine ⟨?_, ?_, hAr⟩
  · rcases hfirst with ⟨h1, h2⟩ | ⟨p, h1, h2, _⟩
    · rw [h1]; exact ⟨fun h => absurd h (by decide), fun h => absurd h h2⟩
    · rw [h1]; exact ⟨fun _ => List.mem_of_getElem? h2, fun _ => by omega⟩
  · constructor
    · intro h
      rcases hlast with ⟨h1, _⟩ | ⟨q, hq, he, hqc, hqm⟩
      · omega
      · rcases hfirst with ⟨h1, h2⟩ | ⟨p, h1, h2, h3⟩
        · exact absurd (List.mem_of_getElem? ((hcc q hq).1 hqc)) h2
        · have hpq : p < q := by omega
          have hq2 := (hcc q hq).1 hqc
          have hp : p < S.length := by omega
          have e1 : S = S.take p ++ c :: S.drop (p + 1) := by
            conv => lhs; rw [← List.take_append_drop p S, List.drop_eq_getElem_cons hp]
            rw [List.getElem?_eq_getElem hp] at h2
            rw [Option.some.inj h2]
          have e2 : S.drop (p + 1) = (S.drop (p + 1)).take (q - p - 1) ++ c :: S.drop (q + 1) := by
            conv => lhs; rw [← List.take_append_drop (q - p - 1) (S.drop (p + 1)), List.drop_drop, show p + 1 + (q - p - 1) = q by omega, List.drop_eq_getElem_cons hq]
            rw [List.getElem?_eq_getElem hq] at hq2
            rw [Option.some.inj hq2]
          refine ⟨S.take p, (S.drop (p + 1)).take (q - p - 1), S.drop (q + 1), by rw [← e2]; exact e1, fun hm => ?_, fun hm => ?_⟩
          · obtain ⟨k, hk⟩ := List.getElem?_of_mem hm
            have hkl : k < p := by
              rcases Nat.lt_or_ge k p with h | h
              · exact h
              · rw [List.getElem?_eq_none (by rw [List.length_take]; omega)] at hk
                cases hk
            rw [List.getElem?_take_of_lt hkl] at hk
            exact h3 k hkl hk
          · obtain ⟨k, hk⟩ := List.getElem?_of_mem hm
            rw [List.getElem?_drop] at hk
            have hkl : q + 1 + k < S.length := by
              rcases Nat.lt_or_ge (q + 1 + k) S.length with h | h
              · exact h
              · rw [List.getElem?_eq_none h] at hk; cases hk
            exact hqm _ (by omega) hkl ((hcc _ hkl).2 hk)
    · rintro ⟨A, M, B, h⟩
      obtain ⟨h1, h2⟩ := hAr A M B h
      omega
theorem bt_get {s : ByteArray} {i : Nat} (h : i < s.size) : bt s i = (((L s)[i]'(by rw [L_size]; exact h)).toNat : Int) := bt_L (by rw [L_size]; exact h)
theorem lq_lqq (s : ByteArray) : ∀ d i, i + d ≤ s.size → lq s d i = lqq (L s) d i
  | 0, _, _ => rfl
  | 1, _, _ => rfl
  | d + 2, i, h => by
    have h1 := lq_lqq s (d + 1) (i + 1) (by omega)
    have h2 := lq_lqq s (d + 1) i (by omega)
    have h3 := lq_lqq s d (i + 1) (by omega)
    have e : (bt s i = bt s ((i + d + 1 : Nat) : Int)) ↔ (L s)[i]? = (L s)[i + d + 1]? := by
      rw [bt_get (by omega), bt_get (by omega), List.getElem?_eq_getElem (by rw [L_size]; omega), List.getElem?_eq_getElem (by rw [L_size]; omega)]
      constructor
      · intro h; rw [UInt8.toNat_inj.1 (Int.ofNat.inj h)]
      · intro h; rw [Option.some.inj h]
    unfold lq lqq
    rw [h1, h2, h3]
    by_cases c : (L s)[i]? = (L s)[i + d + 1]?
    · rw [if_pos c, if_pos (e.2 c)]
    · rw [if_neg c, if_neg (fun h => c (e.1 h))]
theorem lqI_mxl (s : ByteArray) {i j : Nat} (h : i ≤ j) (hj : j ≤ s.size) : lqI s (i : Int) (j : Int) = (mxl (seg (L s) i j) : Int) := by
  unfold lqI
  by_cases c : (i : Int) < (j : Int)
  · rw [if_pos c, show ((j : Int) - i).toNat = j - i by omega, Int.toNat_natCast, lq_lqq s _ _ (by omega), lqq_mxl (by rw [L_size]; omega), show i + (j - i) = j by omega]
  · obtain rfl : i = j := by omega
    have : seg (L s) i i = [] := by unfold seg; simp
    rw [if_neg c, this]; rfl
/-- A letter that fits. -/
def Fit (S : List UInt8) (n : Nat) (c : UInt8) : Prop := ∃ A M B, Around S A M B c ∧ mxl M + 2 = n
theorem fit_ex {S : List UInt8} (h : 2 ≤ mxl S) : ∃ c, c ∈ S ∧ Fit S (mxl S) c := by
  obtain ⟨y, h1, h2, h3⟩ := mxl_ex S
  obtain ⟨c, z, rfl, hz⟩ := pal_form h1 (by omega)
  obtain ⟨A, M, B, hA⟩ := around_ex h2
  refine ⟨c, h2.subset (List.mem_cons_self ..), A, M, B, hA, ?_⟩
  have h4 := mxl_le hz (around_of hA h2)
  obtain ⟨w, w1, w2, w3⟩ := mxl_ex M
  have h5 := mxl_le (pal_cons_snoc.2 w1 : Pal (c :: (w ++ [c]))) (around_sub hA w2)
  simp at h3 h5
  omega
theorem toU8 {c : Nat} (h : c < 256) : (c : Int).toNat.toUInt8 = UInt8.ofNat c := by rw [Int.toNat_natCast]
theorem ofNat_toNat {c : Nat} (h : c < 256) : (UInt8.ofNat c).toNat = c := by
  rw [UInt8.toNat_ofNat']; exact Nat.mod_eq_of_lt h
/-- The search for the least letter that fits. -/
theorem inner_l1 {s : ByteArray} {i j : Nat} (hij : i ≤ j) (hj : j ≤ s.size) {S : List UInt8} (hS : seg (L s) i j = S) (hc : ∀ x ∈ S, 97 ≤ x.toNat ∧ x.toNat ≤ 100) {n : Nat} (hn : mxl S = n) (h2 : 2 ≤ n) : ∀ (f c : Nat), c + f = 101 → (∀ x : UInt8, x.toNat < c → ¬ Fit S n x) →
    ∃ (x : UInt8) (A M B : List UInt8), Around S A M B x ∧ mxl M + 2 = n ∧ (∀ y : UInt8, y < x → ¬ Fit S n y) ∧ x ∈ S ∧ Ev (fun k => trim_Inner.l1 k s i j n c) ((x.toNat : Int), ((i + A.length + 1 : Nat) : Int), ((i + A.length + 1 + M.length : Nat) : Int), false)
  | 0, c, h, hno => by
    exfalso
    obtain ⟨x, hx, hf⟩ := fit_ex (S := S) (by omega)
    rw [hn] at hf
    exact hno x (by have := hc x hx; omega) hf
  | f + 1, c, h, hno => by
    have hx : (UInt8.ofNat c).toNat = c := ofNat_toNat (by omega)
    obtain ⟨l1, l2, l3⟩ := letter (e := s.extract i j) (S := S) (by rw [L_extract]; exact hS) (UInt8.ofNat c)
    rw [hx] at l2 l3
    have hd : (s.extract i j).data.toList = S := by rw [← hS]; exact L_extract s i j
    have g : ∀ k, trim_Inner.l1 (k + 1) s i j n c = if (Lib.indexByte S (UInt8.ofNat c) < Lib.lastIndexByte (s.extract i j) c ∧ 2 + lqI s (i + Lib.indexByte S (UInt8.ofNat c) + 1) (i + Lib.lastIndexByte (s.extract i j) c) = n) then some ((c : Int), i + Lib.indexByte S (UInt8.ofNat c) + 1, i + Lib.lastIndexByte (s.extract i j) c, false) else trim_Inner.l1 k s i j n ((c + 1 : Nat) : Int) := by
      intro k
      simp only [trim_Inner.l1]
      rw [Int.toNat_natCast, Int.toNat_natCast, hd, toU8 (by omega), if_neg (by omega), show ((c : Int) + 1) % 256 = ((c + 1 : Nat) : Int) by omega]
    by_cases hA : ∃ A M B, Around S A M B (UInt8.ofNat c)
    · obtain ⟨A, M, B, hA⟩ := hA
      obtain ⟨p1, p2⟩ := l3 A M B hA
      have hlen : S.length = A.length + 1 + M.length + 1 + B.length := by rw [hA.eq]; simp; omega
      have hSl : S.length = j - i := by rw [← hS]; exact seg_len (by rw [L_size]; exact hj)
      have hM : seg (L s) (i + A.length + 1) (i + A.length + 1 + M.length) = M := by
        have := seg_seg (l := L s) (i := i) (j := j) (a := A.length + 1) (b := A.length + 1 + M.length) (by omega)
        rw [hS] at this
        rw [show i + A.length + 1 = i + (A.length + 1) by omega, show i + (A.length + 1) + M.length = i + (A.length + 1 + M.length) by omega, ← this, hA.eq]
        unfold seg
        rw [show A.length + 1 + M.length - (A.length + 1) = M.length by omega, List.drop_append, List.drop_of_length_le (by omega), show A.length + 1 - A.length = 1 by omega]
        simp
      have e1 : (i : Int) + Lib.indexByte S (UInt8.ofNat c) + 1 = ((i + A.length + 1 : Nat) : Int) := by rw [p1]; omega
      have e2 : (i : Int) + Lib.lastIndexByte (s.extract i j) c = ((i + A.length + 1 + M.length : Nat) : Int) := by rw [p2]; omega
      have hlq := lqI_mxl s (i := i + A.length + 1) (j := i + A.length + 1 + M.length) (by omega) (by omega)
      rw [hM] at hlq
      by_cases hf : mxl M + 2 = n
      · refine ⟨UInt8.ofNat c, A, M, B, hA, hf, fun y hy hfy => hno y (by rw [UInt8.lt_iff_toNat_lt, hx] at hy; exact hy) hfy, by rw [hA.eq]; simp, ?_⟩
        refine Ev.step (f := fun _ => some (((UInt8.ofNat c).toNat : Int), ((i + A.length + 1 : Nat) : Int), ((i + A.length + 1 + M.length : Nat) : Int), false)) (fun k => ?_) (Ev.now _)
        rw [g, e1, e2, hlq, if_pos ⟨by omega, by omega⟩, hx]
      · obtain ⟨x, A', M', B', r1, r2, r3, r4, r5⟩ := inner_l1 hij hj hS hc hn h2 f (c + 1) (by omega) (fun y hy hfy => by
          rcases Nat.lt_or_eq_of_le (Nat.le_of_lt_succ hy) with c1 | c1
          · exact hno y c1 hfy
          · have : y = UInt8.ofNat c := UInt8.toNat_inj.1 (by rw [hx]; exact c1)
            subst this
            obtain ⟨A2, M2, B2, h3, h4⟩ := hfy
            rw [around_eq h3 hA] at h4
            exact hf h4)
        refine ⟨x, A', M', B', r1, r2, r3, r4, Ev.step (f := fun k => trim_Inner.l1 k s i j n ((c + 1 : Nat) : Int)) (fun k => ?_) r5⟩
        rw [g, e1, e2, hlq, if_neg (fun h => hf (by omega))]
    · obtain ⟨x, A', M', B', r1, r2, r3, r4, r5⟩ := inner_l1 hij hj hS hc hn h2 f (c + 1) (by omega) (fun y hy hfy => by
        rcases Nat.lt_or_eq_of_le (Nat.le_of_lt_succ hy) with c1 | c1
        · exact hno y c1 hfy
        · have : y = UInt8.ofNat c := UInt8.toNat_inj.1 (by rw [hx]; exact c1)
          subst this
          obtain ⟨A2, M2, B2, h3, h4⟩ := hfy
          exact hA ⟨A2, M2, B2, h3⟩)
      refine ⟨x, A', M', B', r1, r2, r3, r4, Ev.step (f := fun k => trim_Inner.l1 k s i j n ((c + 1 : Nat) : Int)) (fun k => ?_) r5⟩
      rw [g, if_neg (fun h => hA (l2.1 h.1))]
/-- The search for the least letter, when one is left. -/
theorem inner_m1 {s : ByteArray} {i j : Nat} {S : List UInt8} (hS : seg (L s) i j = S) (hc : ∀ x ∈ S, 97 ≤ x.toNat ∧ x.toNat ≤ 100) (hne : S ≠ []) : ∀ (f c : Nat), c + f = 101 → (∀ x ∈ S, ¬ x.toNat < c) →
    ∃ x ∈ S, (∀ y ∈ S, ¬ y < x) ∧ Ev (fun k => trim_Inner.l1 k s i j 1 c) ((x.toNat : Int), (j : Int), (j : Int), true)
  | 0, c, h, hno => by
    exfalso
    match S, hne with
    | x :: t, _ => exact hno x (List.mem_cons_self ..) (by have := hc x (List.mem_cons_self ..); omega)
  | f + 1, c, h, hno => by
    have hx : (UInt8.ofNat c).toNat = c := ofNat_toNat (by omega)
    obtain ⟨l1, l2, l3⟩ := letter (e := s.extract i j) (S := S) (by rw [L_extract]; exact hS) (UInt8.ofNat c)
    rw [hx] at l2 l3
    have hd : (s.extract i j).data.toList = S := by rw [← hS]; exact L_extract s i j
    by_cases hm : UInt8.ofNat c ∈ S
    · refine ⟨UInt8.ofNat c, hm, fun y hy hlt => hno y hy (by rw [UInt8.lt_iff_toNat_lt, hx] at hlt; exact hlt), ?_⟩
      refine Ev.step (f := fun _ => some (((UInt8.ofNat c).toNat : Int), (j : Int), (j : Int), true)) (fun k => ?_) (Ev.now _)
      simp only [trim_Inner.l1]
      rw [Int.toNat_natCast, Int.toNat_natCast, hd, toU8 (by omega), if_pos ⟨trivial, l1.2 hm⟩, hx]
    · obtain ⟨x, r1, r2, r3⟩ := inner_m1 hS hc hne f (c + 1) (by omega) (fun y hy hlt => by
        rcases Nat.lt_or_eq_of_le (Nat.le_of_lt_succ hlt) with c1 | c1
        · exact hno y hy c1
        · have : y = UInt8.ofNat c := UInt8.toNat_inj.1 (by rw [hx]; exact c1)
          exact hm (this ▸ hy))
      refine ⟨x, r1, r2, Ev.step (f := fun k => trim_Inner.l1 k s i j 1 ((c + 1 : Nat) : Int)) (fun k => ?_) r3⟩
      simp only [trim_Inner.l1]
      have h1 : ¬ (0 ≤ Lib.indexByte S (UInt8.ofNat c)) := fun h => hm (l1.1 h)
      have h2 : ¬ (Lib.indexByte S (UInt8.ofNat c) < Lib.lastIndexByte (s.extract i j) c) := fun h => by
        obtain ⟨A, M, B, hA⟩ := l2.1 h
        exact hm (by rw [hA.eq]; simp)
      rw [Int.toNat_natCast, Int.toNat_natCast, hd, toU8 (by omega), if_neg (fun h => h1 h.2), if_neg (fun h => h2 h.1), show ((c : Int) + 1) % 256 = ((c + 1 : Nat) : Int) by omega]
/-- Numbers as bytes. -/
def bs8 (h : List Int) : List UInt8 := L (strOfNums h)
theorem bs8_append (a b : List Int) : bs8 (a ++ b) = bs8 a ++ bs8 b := by
  unfold bs8 L
  rw [strOfNums_data, strOfNums_data, strOfNums_data, List.map_append]
theorem bs8_one (x : UInt8) : bs8 [(x.toNat : Int)] = [x] := by
  unfold bs8 L
  rw [strOfNums_data]
  simp
theorem bs8_cons (x : UInt8) (h : List Int) : bs8 ((x.toNat : Int) :: h) = x :: bs8 h := by
  have := bs8_append [(x.toNat : Int)] h
  rw [bs8_one] at this
  exact this
theorem seg_chars {s : ByteArray} (hw : Word s) {i j : Nat} : ∀ x ∈ seg (L s) i j, 97 ≤ x.toNat ∧ x.toNat ≤ 100 := by
  intro x hx
  unfold seg at hx
  exact hw.2 x (List.mem_of_mem_drop (List.mem_of_mem_take hx))
theorem inner_l0 {s : ByteArray} (hw : Word s) : ∀ (N d i : Nat) (half : List Int), d ≤ N → i + d ≤ s.size → half.length + d ≤ 150 →
    ∃ h m, Ev (fun k => trim_Inner.l0 k s i ((i + d : Nat) : Int) half ⟨#[]⟩) (half ++ h, m) ∧ Best (seg (L s) i (i + d)) (bs8 h ++ L m ++ (bs8 h).reverse) ∧ h.length ≤ d ∧ m.size ≤ 1
  | N, d, i, half, hN, hz, hh => by
    have hI := lqI_mxl s (i := i) (j := i + d) (by omega) hz
    have hlen : (seg (L s) i (i + d)).length = d := by rw [seg_len (by rw [L_size]; exact hz)]; omega
    have hch := seg_chars hw (i := i) (j := i + d)
    generalize hS : seg (L s) i (i + d) = S at hI hlen hch
    rcases Nat.lt_trichotomy (mxl S) 1 with c | c | c
    · -- nothing is left
      have h0 : mxl S = 0 := by omega
      obtain rfl := mxl_pos.1 h0
      refine ⟨[], ⟨#[]⟩, Ev.step (f := fun _ => some (half, ⟨#[]⟩)) (fun k => ?_) (by rw [List.append_nil]; exact Ev.now _), best_nil, by simp, by simp [ByteArray.size]⟩
      simp only [trim_Inner.l0]
      rw [hI, if_neg (by omega)]
    · -- one letter
      have hne : S ≠ [] := fun e => by rw [e] at c; exact absurd c (by decide)
      obtain ⟨x, hx, hmin, hE⟩ := inner_m1 hS hch hne 4 97 rfl (fun x hx hlt => by have := hch x hx; omega)
      have hxr := hch x hx
      refine ⟨[], strOfNums [(x.toNat : Int)], Ev.step (f := fun k => (trim_Inner.l1 k s i ((i + d : Nat) : Int) 1 97).bind fun r => if r.2.2.2 = true then (if r.1 < 128 then trim_Inner.l0 k s r.2.1 r.2.2.1 half (strOfNums [r.1]) else none) else if half.length < 200 then trim_Inner.l0 k s r.2.1 r.2.2.1 (half ++ [r.1]) ⟨#[]⟩ else none) (fun k => ?_) (Ev.bind hE (Ev.ite_true rfl (Ev.ite_true (by simp only; omega) (Ev.step (f := fun _ => some (half, strOfNums [(x.toNat : Int)])) (fun k => ?_) (by rw [List.append_nil]; exact Ev.now _))))), ?_, by simp, by rw [strOfNums_size]; exact Nat.le_refl _⟩
      · simp only [trim_Inner.l0]
        rw [hI, if_pos (by omega), c]
        rfl
      · simp only [trim_Inner.l0]
        rw [if_neg (by unfold lqI; rw [if_neg (by omega)]; omega)]
      · have e : bs8 [] ++ L (strOfNums [(x.toNat : Int)]) ++ (bs8 []).reverse = [x] := by
          have h1 : bs8 [] = [] := rfl
          have h2 : L (strOfNums [(x.toNat : Int)]) = [x] := bs8_one x
          rw [h1, h2]; rfl
        rw [e]
        refine ⟨rfl, List.singleton_sublist.2 hx, fun z hz hs => by have := mxl_le hz hs; simp; omega, fun z hz hs hl hlt => ?_⟩
        obtain ⟨y, rfl⟩ := List.length_eq_one_iff.1 (by simpa using hl : z.length = 1)
        rw [List.cons_lt_cons_iff] at hlt
        rcases hlt with h1 | ⟨_, h1⟩
        · exact hmin y (List.singleton_sublist.1 hs) h1
        · exact absurd h1 (List.lt_irrefl _)
    · -- a letter at both ends
      obtain ⟨x, A, M, B, hA, hM, hmin, hx, hE⟩ := inner_l1 (s := s) (i := i) (j := i + d) (by omega) hz hS hch rfl (by omega) 4 97 rfl (fun y hy hf => by
        obtain ⟨A, M, B, hA, _⟩ := hf
        have := hch y (by rw [hA.eq]; simp)
        omega)
      have hlA : S.length = A.length + 1 + M.length + 1 + B.length := by rw [hA.eq]; simp; omega
      cases N with
      | zero => omega
      | succ N =>
        obtain ⟨h, m, r1, r2, r3, r4⟩ := inner_l0 hw N M.length (i + A.length + 1) (half ++ [(x.toNat : Int)]) (by omega) (by omega) (by simp; omega)
        have hMs : seg (L s) (i + A.length + 1) (i + A.length + 1 + M.length) = M := by
          have := seg_seg (l := L s) (i := i) (j := i + d) (a := A.length + 1) (b := A.length + 1 + M.length) (by omega)
          rw [hS] at this
          rw [show i + A.length + 1 = i + (A.length + 1) by omega, show i + (A.length + 1) + M.length = i + (A.length + 1 + M.length) by omega, ← this, hA.eq]
          unfold seg
          rw [show A.length + 1 + M.length - (A.length + 1) = M.length by omega, List.drop_append, List.drop_of_length_le (by omega), show A.length + 1 - A.length = 1 by omega]
          simp
        rw [hMs] at r2
        refine ⟨(x.toNat : Int) :: h, m, Ev.step (f := fun k => (trim_Inner.l1 k s i ((i + d : Nat) : Int) (mxl S) 97).bind fun r => if r.2.2.2 = true then (if r.1 < 128 then trim_Inner.l0 k s r.2.1 r.2.2.1 half (strOfNums [r.1]) else none) else if half.length < 200 then trim_Inner.l0 k s r.2.1 r.2.2.1 (half ++ [r.1]) ⟨#[]⟩ else none) (fun k => ?_) (Ev.bind hE (Ev.ite_false (by simp) (Ev.ite_true (by omega) ?_))), ?_, by simp; omega, r4⟩
        · simp only [trim_Inner.l0]
          rw [hI, if_pos (by omega)]
        · rw [List.append_assoc] at r1
          exact r1
        · have e : bs8 ((x.toNat : Int) :: h) ++ L m ++ (bs8 ((x.toNat : Int) :: h)).reverse = x :: ((bs8 h ++ L m ++ (bs8 h).reverse) ++ [x]) := by
            rw [bs8_cons]; simp
          rw [e]
          refine best_around hA r2 (mxl S) (by rw [best_len r2]; omega) (fun z hz hs => mxl_le hz hs) (fun c' A' M' B' hlt hA' z hz hs => ?_)
          have h1 := mxl_le hz hs
          obtain ⟨w, w1, w2, w3⟩ := mxl_ex M'
          have h5 := mxl_le (pal_cons_snoc.2 w1 : Pal (c' :: (w ++ [c']))) (around_sub hA' w2)
          simp at h5
          rcases Nat.lt_or_ge (z.length + 2) (mxl S) with h6 | h6
          · exact h6
          · exact absurd ⟨A', M', B', hA', by omega⟩ (hmin c' hlt)
theorem turned_bs {half : List Int} (h : half.length ≤ 1000) : trim_turned.f (strOfNums half) = some (mkS (bs8 half).reverse) := turned_ev (by rw [strOfNums_size]; omega)
theorem Inner_ev {s : ByteArray} (hw : Word s) : ∃ r, Ev (fun k => trim_Inner.f k s) (r, 0) ∧ Best (L s) (L r) ∧ r.size ≤ s.size := by
  obtain ⟨h, m, h1, h2, h3, h4⟩ := inner_l0 hw s.size s.size 0 [] (Nat.le_refl _) (by omega) (by have := hw.1; simp; omega)
  have hseg : seg (L s) 0 (0 + s.size) = L s := by
    have := seg_all (L s)
    rwa [L_size] at this
  rw [hseg] at h2
  have hL : L (strOfNums h ++ m ++ mkS (bs8 h).reverse) = bs8 h ++ L m ++ (bs8 h).reverse := by
    rw [L_append, L_append, L_mk]; rfl
  refine ⟨strOfNums h ++ m ++ mkS (bs8 h).reverse, ?_, by rw [hL]; exact h2, ?_⟩
  · unfold trim_Inner.f
    rw [isWord_yes hw]
    simp only [Option.bind_some]
    refine Ev.ite_true trivial (Ev.bind (a := (h, m)) (by simpa using h1) ?_)
    simp only [turned_bs (half := h) (by have := hw.1; omega), Option.bind_some]
    exact Ev.now _
  · rw [← L_size, hL, ← L_size]
    exact h2.sub.length_le
theorem outer_l0 (s : ByteArray) : ∀ (N d i : Nat) (half : List Int), d ≤ N → i + d ≤ s.size → half.length + d ≤ 150 →
    ∃ h m, Ev (fun k => trim_Outer.l0 k s i ((i + d : Nat) : Int) half ⟨#[]⟩) (half ++ h, m) ∧ (seg (L s) i (i + d)).Sublist (bs8 h ++ L m ++ (bs8 h).reverse) ∧ h.length ≤ d ∧ m.size ≤ 1 ∧ 2 * h.length + m.size + lq s d i = 2 * d
  | N, 0, i, half, _, hz, hh => by
    refine ⟨[], ⟨#[]⟩, Ev.step (f := fun _ => some (half, ⟨#[]⟩)) (fun k => ?_) (by rw [List.append_nil]; exact Ev.now _), by unfold seg; simp, by simp, by simp [ByteArray.size], by simp [lq, ByteArray.size]⟩
    simp only [trim_Outer.l0]
    rw [if_neg (by omega)]
  | N, 1, i, half, _, hz, hh => by
    have e1 : (i : Int) + 1 = ((i + 1 : Nat) : Int) := rfl
    refine ⟨[], s.extract (i : Int).toNat ((i + 1 : Nat) : Int).toNat, Ev.step (f := fun k => trim_Outer.l0 k s ((i + 1 : Nat) : Int) ((i + 1 : Nat) : Int) half (s.extract (i : Int).toNat ((i + 1 : Nat) : Int).toNat)) (fun k => ?_) (Ev.step (f := fun _ => some (half, s.extract (i : Int).toNat ((i + 1 : Nat) : Int).toNat)) (fun k => ?_) (by rw [List.append_nil]; exact Ev.now _)), ?_, by simp, ?_, ?_⟩
    · simp only [trim_Outer.l0]
      rw [if_pos (by omega), if_pos (by omega), if_pos e1, e1]
    · simp only [trim_Outer.l0]
      rw [if_neg (by omega)]
    · have h1 : bs8 [] = [] := rfl
      rw [h1, Int.toNat_natCast, Int.toNat_natCast, L_extract]
      simp [seg]
    · rw [ByteArray.size_extract, Int.toNat_natCast, Int.toNat_natCast]; omega
    · rw [ByteArray.size_extract, Int.toNat_natCast, Int.toNat_natCast]
      simp [lq]
      omega
  | 0, d + 2, _, _, h, _, _ => absurd h (by omega)
  | N + 1, d + 2, i, half, hN, hz, hh => by
    have hlt : (i : Int) < ((i + (d + 2) : Nat) : Int) := by omega
    have hne : ¬ (i : Int) + 1 = ((i + (d + 2) : Nat) : Int) := by omega
    have e1 : (i : Int) + 1 = ((i + 1 : Nat) : Int) := rfl
    have e2 : ((i + (d + 2) : Nat) : Int) - 1 = ((i + d + 1 : Nat) : Int) := by omega
    have b1 : bt s i = (((L s)[i]'(by rw [L_size]; omega)).toNat : Int) := bt_get (by omega)
    have b2 : bt s ((i + d + 1 : Nat) : Int) = (((L s)[i + d + 1]'(by rw [L_size]; omega)).toNat : Int) := bt_get (by omega)
    have hends : seg (L s) i (i + (d + 2)) = (L s)[i]'(by rw [L_size]; omega) :: (seg (L s) (i + 1) (i + 1 + d) ++ [(L s)[i + d + 1]'(by rw [L_size]; omega)]) := by
      have := seg_ends (l := L s) (i := i) (e := i + (d + 2)) (by omega) (by rw [L_size]; exact hz)
      rw [this]
      simp only [show i + (d + 2) - 1 = i + d + 1 by omega, show i + 1 + d = i + d + 1 by omega]
    have hstep : ∀ (x : UInt8) (h : List Int) (m : ByteArray), bs8 ((x.toNat : Int) :: h) ++ L m ++ (bs8 ((x.toNat : Int) :: h)).reverse = x :: ((bs8 h ++ L m ++ (bs8 h).reverse) ++ [x]) := by
      intro x h m
      rw [bs8_cons]; simp
    have hA : seg (L s) (i + 1) (i + 1 + (d + 1)) = seg (L s) (i + 1) (i + 1 + d) ++ [(L s)[i + d + 1]'(by rw [L_size]; omega)] := by
      have h1 := seg_cons (l := L s) (i := i) (e := i + (d + 2)) (by omega) (by rw [L_size]; exact hz)
      rw [hends] at h1
      have := (List.cons.inj h1).2
      rw [show i + 1 + (d + 1) = i + (d + 2) by omega]
      exact this.symm
    have hB : seg (L s) i (i + (d + 1)) = (L s)[i]'(by rw [L_size]; omega) :: seg (L s) (i + 1) (i + 1 + d) := by
      rw [show i + (d + 1) = i + 1 + d by omega]
      exact seg_cons (by omega) (by rw [L_size]; omega)
    have hnodef : lq s (d + 2) i = max (max (lq s (d + 1) (i + 1)) (lq s (d + 1) i)) (if bt s i = bt s ((i + d + 1 : Nat) : Int) then 2 + lq s d (i + 1) else 0) := rfl
    by_cases c : bt s i = bt s ((i + d + 1 : Nat) : Int)
    · obtain ⟨h', m', h1, h2, h3, h4, h5⟩ := outer_l0 s N d (i + 1) (half ++ [bt s i]) (by omega) (by omega) (by rw [List.length_append]; simp; omega)
      refine ⟨bt s i :: h', m', Ev.step (f := fun k => trim_Outer.l0 k s ((i + 1 : Nat) : Int) ((i + 1 + d : Nat) : Int) (half ++ [bt s i]) ⟨#[]⟩) (fun k => ?_) (by rw [List.append_assoc] at h1; exact h1), ?_, by simp; omega, h4, ?_⟩
      · simp only [trim_Outer.l0]
        rw [if_pos hlt, if_pos (by omega), if_neg hne, e1, e2, if_pos c, show i + 1 + d = i + d + 1 by omega]
      · rw [b1, hstep, hends]
        rw [b1, b2] at c
        rw [UInt8.toNat_inj.1 (Int.ofNat.inj c)]
        refine List.Sublist.cons_cons _ (List.Sublist.append ?_ (List.Sublist.refl _))
        exact h2
      · rw [lq_same c, List.length_cons]; omega
    · by_cases c2 : lq s (d + 1) i ≤ lq s (d + 1) (i + 1)
      · obtain ⟨h', m', h1, h2, h3, h4, h5⟩ := outer_l0 s N (d + 1) (i + 1) (half ++ [bt s i]) (by omega) (by omega) (by rw [List.length_append]; simp; omega)
        refine ⟨bt s i :: h', m', Ev.step (f := fun k => trim_Outer.l0 k s ((i + 1 : Nat) : Int) ((i + 1 + (d + 1) : Nat) : Int) (half ++ [bt s i]) ⟨#[]⟩) (fun k => ?_) (by rw [List.append_assoc] at h1; exact h1), ?_, by simp; omega, h4, ?_⟩
        · have q1 := lqI_nat s i (d + 1)
          have q2 := lqI_nat s (i + 1) (d + 1)
          rw [show i + (d + 1) = i + d + 1 by omega] at q1
          rw [show i + 1 + (d + 1) = i + (d + 2) by omega] at q2
          simp only [trim_Outer.l0]
          rw [if_pos hlt, if_pos (by omega), if_neg hne, e1, e2, if_neg c, q1, q2, if_pos (by omega), show i + 1 + (d + 1) = i + (d + 2) by omega]
        · rw [b1, hstep, hends, ← hA]
          exact List.Sublist.cons_cons _ (h2.trans (List.sublist_append_left _ _))
        · rw [lq_other c, List.length_cons]; omega
      · obtain ⟨h', m', h1, h2, h3, h4, h5⟩ := outer_l0 s N (d + 1) i (half ++ [bt s ((i + d + 1 : Nat) : Int)]) (by omega) (by omega) (by rw [List.length_append]; simp; omega)
        refine ⟨bt s ((i + d + 1 : Nat) : Int) :: h', m', Ev.step (f := fun k => trim_Outer.l0 k s (i : Int) ((i + (d + 1) : Nat) : Int) (half ++ [bt s ((i + d + 1 : Nat) : Int)]) ⟨#[]⟩) (fun k => ?_) (by rw [List.append_assoc] at h1; exact h1), ?_, by simp; omega, h4, ?_⟩
        · have q1 := lqI_nat s i (d + 1)
          have q2 := lqI_nat s (i + 1) (d + 1)
          rw [show i + (d + 1) = i + d + 1 by omega] at q1
          rw [show i + 1 + (d + 1) = i + (d + 2) by omega] at q2
          simp only [trim_Outer.l0]
          rw [if_pos hlt, if_pos (by omega), if_neg hne, e1, e2, if_neg c, q1, q2, if_neg (by omega), show i + (d + 1) = i + d + 1 by omega]
        · rw [b2, hstep, hends, ← List.cons_append, ← hB]
          refine List.Sublist.trans (List.Sublist.append h2 (List.Sublist.refl _)) (List.sublist_cons_self _ _)
        · rw [lq_other c, List.length_cons]; omega
theorem Outer_ev2 {s : ByteArray} (hw : Word s) : ∃ r, Ev (fun k => trim_Outer.f k s) (r, 0) ∧ Pal (L r) ∧ (L s).Sublist (L r) ∧ r.size + mxl (L s) = 2 * s.size := by
  obtain ⟨h, m, h1, h2, h3, h4, h5⟩ := outer_l0 s s.size s.size 0 [] (Nat.le_refl _) (by omega) (by have := hw.1; simp; omega)
  have hseg : seg (L s) 0 (0 + s.size) = L s := by
    have := seg_all (L s)
    rwa [L_size] at this
  rw [hseg] at h2
  have hL : L (strOfNums h ++ m ++ mkS (bs8 h).reverse) = bs8 h ++ L m ++ (bs8 h).reverse := by
    rw [L_append, L_append, L_mk]; rfl
  have hm : (L m).reverse = L m := by
    have : (L m).length ≤ 1 := by rw [L_size]; exact h4
    rcases hm : L m with _ | ⟨x, _ | ⟨y, t⟩⟩
    · rfl
    · rfl
    · rw [hm] at this; simp at this
  refine ⟨strOfNums h ++ m ++ mkS (bs8 h).reverse, ?_, ?_, by rw [hL]; exact h2, ?_⟩
  · unfold trim_Outer.f
    rw [isWord_yes hw]
    simp only [Option.bind_some]
    refine Ev.ite_true trivial (Ev.bind (a := (h, m)) (by simpa using h1) ?_)
    simp only [turned_bs (half := h) (by have := hw.1; omega), Option.bind_some]
    exact Ev.now _
  · rw [hL]
    show (bs8 h ++ L m ++ (bs8 h).reverse).reverse = _
    rw [List.reverse_append, List.reverse_append, List.reverse_reverse, hm, List.append_assoc]
  · have hmx := lqq_mxl (l := L s) (d := s.size) (i := 0) (by rw [L_size]; omega)
    rw [hseg, ← lq_lqq s _ _ (by omega)] at hmx
    have hb : (bs8 h).length = h.length := by unfold bs8; rw [L_size, strOfNums_size]
    rw [← L_size, hL, ← hmx]
    simp only [List.length_append, List.length_reverse, hb, L_size]
    omega
theorem within_loop {x s : ByteArray} (hx : x.size ≤ 100000) (hs : s.size ≤ 100000) : ∀ (n i p : Nat), i + n = s.size → p ≤ x.size → Ev (fun k => galloonref01_Within.l0 k x s p i) (((L x).drop p).isSublist ((L s).drop i))
  | 0, i, p, h, hp => by
    have hd : (L s).drop i = [] := List.drop_of_length_le (by rw [L_size]; omega)
    rw [hd]
    refine Ev.step (f := fun k => galloonref01_Within.j1 k x s p i false) (fun k => ?_) (Ev.step (f := fun _ => some ((p : Int) == (x.size : Int))) (fun k => ?_) (Ev.to (Ev.now _) ?_))
    · simp only [galloonref01_Within.l0]; rw [if_neg (by omega)]
    · simp only [galloonref01_Within.j1]; rw [if_neg (by decide)]
    · rw [Bool.eq_iff_iff, beq_iff_eq, List.isSublist_iff_sublist, List.sublist_nil, List.drop_eq_nil_iff, L_size]
      omega
  | n + 1, i, p, h, hp => by
    have hw : wrap64 ((i : Int) + 1) = ((i + 1 : Nat) : Int) := by rw [w64 (by omega)]; rfl
    have hw2 : wrap64 ((p : Int) + 1) = ((p + 1 : Nat) : Int) := by rw [w64 (by omega)]; rfl
    have hsi : i < (L s).length := by rw [L_size]; omega
    have hds := List.drop_eq_getElem_cons hsi
    rcases Nat.lt_or_ge p x.size with c | c
    · have hxp : p < (L x).length := by rw [L_size]; exact c
      have hdx := List.drop_eq_getElem_cons hxp
      have b1 := bt_L hsi
      have b2 := bt_L hxp
      have hd : decide ((p : Int) < (x.size : Int)) = true := decide_eq_true (by omega)
      rw [hds, hdx]
      by_cases e : (L x)[p] = (L s)[i]
      · refine Ev.step (f := fun k => galloonref01_Within.j1 k x s p i true) (fun k => ?_) (Ev.step (f := fun k => galloonref01_Within.l0 k x s ((p + 1 : Nat) : Int) ((i + 1 : Nat) : Int)) (fun k => ?_) (Ev.to (within_loop hx hs n (i + 1) (p + 1) (by omega) (by omega)) ?_))
        · simp only [galloonref01_Within.l0]; rw [if_pos (by omega), hd]
        · simp only [galloonref01_Within.j1]; rw [if_pos trivial, if_pos (by omega), if_pos (by omega), if_pos (by omega), if_pos (by omega), b1, b2, if_pos (by rw [e]), hw, hw2]
        · rw [List.isSublist, if_pos (by rw [e]; exact beq_self_eq_true _)]
      · refine Ev.step (f := fun k => galloonref01_Within.j1 k x s p i true) (fun k => ?_) (Ev.step (f := fun k => galloonref01_Within.l0 k x s (p : Int) ((i + 1 : Nat) : Int)) (fun k => ?_) (Ev.to (within_loop hx hs n (i + 1) p (by omega) (by omega)) ?_))
        · simp only [galloonref01_Within.l0]; rw [if_pos (by omega), hd]
        · simp only [galloonref01_Within.j1]
          have e2 : ¬ (((L s)[i]).toNat : Int) = (((L x)[p]).toNat : Int) := fun h => e (UInt8.toNat_inj.1 (Int.ofNat.inj h)).symm
          rw [if_pos trivial, if_pos (by omega), if_pos (by omega), if_pos (by omega), if_pos (by omega), b1, b2, if_neg e2, hw]
        · rw [hdx, List.isSublist, if_neg (by rw [beq_iff_eq]; exact e)]
    · have hdx : (L x).drop p = [] := List.drop_of_length_le (by rw [L_size]; omega)
      have hd : decide ((p : Int) < (x.size : Int)) = false := decide_eq_false (by omega)
      rw [hdx]
      refine Ev.step (f := fun k => galloonref01_Within.j1 k x s p i false) (fun k => ?_) (Ev.step (f := fun _ => some ((p : Int) == (x.size : Int))) (fun k => ?_) (Ev.to (Ev.now _) ?_))
      · simp only [galloonref01_Within.l0]; rw [if_pos (by omega), hd]
      · simp only [galloonref01_Within.j1]; rw [if_neg (by decide)]
      · rw [Bool.eq_iff_iff, beq_iff_eq, List.isSublist_iff_sublist]
        exact ⟨fun _ => List.nil_sublist _, fun _ => by omega⟩
theorem within_ev {x s : ByteArray} (hx : x.size ≤ 100000) (hs : s.size ≤ 100000) (h : (L x).Sublist (L s)) : Ev (fun k => galloonref01_Within.f k x s) true := by
  have := within_loop hx hs s.size 0 0 (by omega) (by omega)
  rw [List.drop_zero, List.drop_zero, List.isSublist_iff_sublist.2 h] at this
  exact this
/-- Longer, or as long and not greater. -/
def Wins (x y : List UInt8) : Prop := y.length < x.length ∨ (y.length = x.length ∧ ¬ y < x)
theorem wins_refl (x : List UInt8) : Wins x x := Or.inr ⟨rfl, List.lt_irrefl _⟩
theorem wins_trans {x y z : List UInt8} (h : Wins x y) (h' : Wins y z) : Wins x z := by
  unfold Wins at h h' ⊢
  rcases h with h | ⟨h1, h2⟩
  · rcases h' with h' | ⟨h3, h4⟩
    · left; omega
    · left; omega
  · rcases h' with h' | ⟨h3, h4⟩
    · left; omega
    · right
      exact ⟨by omega, List.not_lt.2 (List.le_trans (List.not_lt.1 h2) (List.not_lt.1 h4))⟩
def btr (p q : List UInt8) : List UInt8 := if q.length < p.length ∨ (p.length = q.length ∧ p < q) then p else q
theorem btr_wins (p q : List UInt8) : Wins (btr p q) p ∧ Wins (btr p q) q := by
  unfold btr
  by_cases c : q.length < p.length ∨ (p.length = q.length ∧ p < q)
  · rw [if_pos c]
    refine ⟨wins_refl p, ?_⟩
    rcases c with c | ⟨c1, c2⟩
    · exact Or.inl c
    · exact Or.inr ⟨c1.symm, fun h => List.lt_irrefl _ (List.lt_trans h c2)⟩
  · rw [if_neg c]
    refine ⟨?_, wins_refl q⟩
    rcases Nat.lt_trichotomy p.length q.length with h | h | h
    · exact Or.inl h
    · exact Or.inr ⟨h, fun h2 => c (Or.inr ⟨h, h2⟩)⟩
    · exact absurd (Or.inl h) c
theorem btr_or (p q : List UInt8) : btr p q = p ∨ btr p q = q := by
  unfold btr
  split
  · exact Or.inl rfl
  · exact Or.inr rfl
theorem best_wins {l y z : List UInt8} (h : Best l y) (hz : Pal z) (hs : z.Sublist l) : Wins y z := by
  rcases Nat.lt_or_ge z.length y.length with c | c
  · exact Or.inl c
  · have := h.long z hz hs
    exact Or.inr ⟨by omega, h.least z hz hs (by omega)⟩
theorem best_of {l y : List UInt8} (hp : Pal y) (hs : y.Sublist l) (h : ∀ z, Pal z → z.Sublist l → Wins y z) : Best l y := by
  refine ⟨hp, hs, fun z hz hzs => ?_, fun z hz hzs hl => ?_⟩
  · rcases h z hz hzs with c | ⟨c, _⟩ <;> omega
  · rcases h z hz hzs with c | ⟨_, c⟩
    · omega
    · exact c
theorem best_ne {a b : UInt8} {m p q : List UInt8} (hab : a ≠ b) (h1 : Best (m ++ [b]) p) (h2 : Best (a :: m) q) : Best (a :: (m ++ [b])) (btr p q) := by
  obtain ⟨w1, w2⟩ := btr_wins p q
  have s1 : p.Sublist (a :: (m ++ [b])) := h1.sub.cons _
  have s2 : q.Sublist (a :: (m ++ [b])) := h2.sub.trans (List.Sublist.cons_cons _ (List.sublist_append_left _ _))
  refine best_of ?_ ?_ (fun z hz hs => ?_)
  · rcases btr_or p q with e | e
    · rw [e]; exact h1.pal
    · rw [e]; exact h2.pal
  · rcases btr_or p q with e | e
    · rw [e]; exact s1
    · rw [e]; exact s2
  · rcases pal_sub_ends hz hs with c | c | ⟨c, _⟩
    · exact wins_trans w1 (best_wins h1 hz c)
    · exact wins_trans w2 (best_wins h2 hz c)
    · exact absurd c hab
theorem best_same {a : UInt8} {m p q r : List UInt8} (h1 : Best (m ++ [a]) p) (h2 : Best (a :: m) q) (h3 : Best m r) : Best (a :: (m ++ [a])) (btr (btr p q) (a :: (r ++ [a]))) := by
  obtain ⟨w1, w2⟩ := btr_wins p q
  obtain ⟨w3, w4⟩ := btr_wins (btr p q) (a :: (r ++ [a]))
  have s1 : p.Sublist (a :: (m ++ [a])) := h1.sub.cons _
  have s2 : q.Sublist (a :: (m ++ [a])) := h2.sub.trans (List.Sublist.cons_cons _ (List.sublist_append_left _ _))
  have s3 : (a :: (r ++ [a])).Sublist (a :: (m ++ [a])) := List.Sublist.cons_cons _ (h3.sub.append (List.Sublist.refl _))
  refine best_of ?_ ?_ (fun z hz hs => ?_)
  · rcases btr_or (btr p q) (a :: (r ++ [a])) with e | e
    · rw [e]
      rcases btr_or p q with e | e
      · rw [e]; exact h1.pal
      · rw [e]; exact h2.pal
    · rw [e]; exact pal_cons_snoc.2 h3.pal
  · rcases btr_or (btr p q) (a :: (r ++ [a])) with e | e
    · rw [e]
      rcases btr_or p q with e | e
      · rw [e]; exact s1
      · rw [e]; exact s2
    · rw [e]; exact s3
  · rcases pal_sub_ends hz hs with c | c | ⟨_, y, rfl, hy, c⟩
    · exact wins_trans w3 (wins_trans w1 (best_wins h1 hz c))
    · exact wins_trans w3 (wins_trans w2 (best_wins h2 hz c))
    · refine wins_trans w4 ?_
      rcases best_wins h3 hy c with d | ⟨d1, d2⟩
      · left; simp; omega
      · right
        refine ⟨by simp; omega, fun hlt => ?_⟩
        rw [List.cons_lt_cons_iff] at hlt
        rcases hlt with hlt | ⟨_, hlt⟩
        · exact absurd hlt (UInt8.lt_irrefl _)
        · exact d2 (lt_snoc d1 hlt)
theorem better_ev (x y : ByteArray) : galloonref01_better.f x y = some (mkS (btr (L x) (L y))) := by
  unfold galloonref01_better.f btr
  rw [L_size, L_size, bytesLess_eq, toList_L, toList_L]
  by_cases c1 : y.size < x.size
  · rw [if_pos (by omega), if_pos (Or.inl c1), mk_L]
  · rw [if_neg (by omega)]
    by_cases c2 : x.size = y.size
    · rw [if_pos (by omega)]
      by_cases c3 : L x < L y
      · rw [if_pos (decide_eq_true c3), if_pos (Or.inr ⟨c2, c3⟩), mk_L]
      · rw [if_neg (by rw [decide_eq_true_iff]; exact c3), if_neg (fun h => by rcases h with h | h; exact c1 h; exact c3 h.2), mk_L]
    · rw [if_neg (by omega), if_neg (fun h => by rcases h with h | h; exact c1 h; exact c2 h.1), mk_L]
def ent (x : List (List ByteArray)) (a b : Nat) : ByteArray := rdOf ByteArray.empty (rd_L3 x (a : Int)) (b : Int)
theorem row_set {x : List (List ByteArray)} {i a : Nat} {r : List ByteArray} (hi : i < x.length) : rd_L3 (x.set i r) (a : Int) = if a = i then r else rd_L3 x (a : Int) := by
  unfold rd_L3
  rw [Int.toNat_natCast, List.getD_eq_getElem?_getD, List.getD_eq_getElem?_getD, List.getElem?_set]
  by_cases c : i = a
  · rw [if_pos c, if_pos c.symm, if_pos hi]; rfl
  · rw [if_neg c, if_neg (fun e => c e.symm)]
theorem ent_set {x : List (List ByteArray)} {i j a b : Nat} {v : ByteArray} (hi : i < x.length) (hj : j < (rd_L3 x (i : Int)).length) : ent (x.set i ((rd_L3 x (i : Int)).set j v)) a b = if a = i ∧ b = j then v else ent x a b := by
  unfold ent
  rw [row_set hi]
  by_cases c : a = i
  · subst c
    rw [if_pos rfl]
    unfold rdOf
    rw [Int.toNat_natCast, List.getD_eq_getElem?_getD, List.getD_eq_getElem?_getD, List.getElem?_set]
    by_cases d : j = b
    · subst d
      have e : (if a = a ∧ j = j then v else (rd_L3 x (a : Int))[j]?.getD ByteArray.empty) = v := if_pos ⟨rfl, rfl⟩
      rw [if_pos rfl, if_pos hj, e]; rfl
    · rw [if_neg d, if_neg (fun h => d h.2.symm)]
  · rw [if_neg c, if_neg (fun h => c h.1)]
structure ITab (s : ByteArray) (x : List (List ByteArray)) (k i : Nat) : Prop where
  lx : x.length = s.size + 1
  lr : ∀ a : Nat, a ≤ s.size → (rd_L3 x (a : Int)).length = s.size + 1
  be : ∀ a b : Nat, a ≤ b → b ≤ s.size → (b < a + k ∨ (b = a + k ∧ a < i)) → Best (seg (L s) a b) (L (ent x a b))
theorem ITab.put {s : ByteArray} {x : List (List ByteArray)} {k i : Nat} (h : ITab s x k i) (hk : 0 < k) (hi : i + k ≤ s.size) {v : ByteArray} (hv : Best (seg (L s) i (i + k)) (L v)) : ITab s (x.set i ((rd_L3 x (i : Int)).set (i + k) v)) k (i + 1) := by
  have hlx := h.lx
  have hr := h.lr i (by omega)
  refine ⟨by rw [List.length_set]; exact hlx, fun a ha => ?_, fun a b hab hb hc => ?_⟩
  · rw [row_set (by omega)]
    by_cases c : a = i
    · rw [if_pos c, List.length_set]; exact hr
    · rw [if_neg c]; exact h.lr a ha
  · rw [ent_set (by omega) (by omega)]
    by_cases c : a = i ∧ b = i + k
    · rw [if_pos c, c.1, c.2]; exact hv
    · rw [if_neg c]
      refine h.be a b hab hb ?_
      rcases hc with hc | ⟨h1, h2⟩
      · exact Or.inl hc
      · exact Or.inr ⟨h1, by omega⟩
theorem seg_one {l : List UInt8} {i : Nat} (h : i < l.length) : seg l i (i + 1) = [l[i]] := by
  rw [seg_cons (by omega) (by omega)]
  have : seg l (i + 1) (i + 1) = [] := by unfold seg; simp
  rw [this]
theorem rin_l2 {s : ByteArray} (hs : s.size ≤ 1000) {k : Nat} (hk : 0 < k) (hkn : k ≤ s.size) (P : ByteArray → Prop) (hE : ∀ x, ITab s x (k + 1) 0 → ∃ r, Ev (fun K => galloonref01_Inner.l1 K s s.size x ((k + 1 : Nat) : Int)) r ∧ P r) :
    ∀ (n i : Nat) (x : List (List ByteArray)), i + k + n = s.size + 1 → ITab s x k i → ∃ r, Ev (fun K => galloonref01_Inner.l2 K s s.size x k i) r ∧ P r
  | 0, i, x, h, hT => by
    have hw : wrap64 ((i : Int) + k) = ((i + k : Nat) : Int) := by rw [w64 (by omega)]; rfl
    have hw2 : wrap64 ((k : Int) + 1) = ((k + 1 : Nat) : Int) := by rw [w64 (by omega)]; rfl
    obtain ⟨r, h1, h2⟩ := hE x ⟨hT.lx, hT.lr, fun a b hab hb hc => hT.be a b hab hb (by
      rcases hc with hc | ⟨_, hc⟩
      · by_cases c : b = a + k
        · exact Or.inr ⟨c, by omega⟩
        · exact Or.inl (by omega)
      · omega)⟩
    refine ⟨r, Ev.step (f := fun K => galloonref01_Inner.l1 K s s.size x ((k + 1 : Nat) : Int)) (fun K => ?_) h1, h2⟩
    simp only [galloonref01_Inner.l2]
    rw [hw, if_neg (by omega), hw2]
  | n + 1, i, x, h, hT => by
    have hw : wrap64 ((i : Int) + k) = ((i + k : Nat) : Int) := by rw [w64 (by omega)]; rfl
    have hw1 : wrap64 ((i : Int) + 1) = ((i + 1 : Nat) : Int) := by rw [w64 (by omega)]; rfl
    have hw2 : wrap64 (((i + k : Nat) : Int) - 1) = ((i + k - 1 : Nat) : Int) := by rw [w64 (by omega)]; omega
    have hlx := hT.lx
    have hr1 := hT.lr (i + 1) (by omega)
    have hr0 := hT.lr i (by omega)
    have hb1 : Best (seg (L s) (i + 1) (i + k)) (L (ent x (i + 1) (i + k))) := hT.be (i + 1) (i + k) (by omega) (by omega) (Or.inl (by omega))
    have hb2 : Best (seg (L s) i (i + k - 1)) (L (ent x i (i + k - 1))) := hT.be i (i + k - 1) (by omega) (by omega) (Or.inl (by omega))
    have n1 : (0 : Int) ≤ ((i + 1 : Nat) : Int) := by omega
    have n2 : ((i + 1 : Nat) : Int) < (x.length : Int) := by omega
    have n3 : (0 : Int) ≤ ((i + k : Nat) : Int) := by omega
    have n4 : ((i + k : Nat) : Int) < ((rd_L3 x ((i + 1 : Nat) : Int)).length : Int) := by omega
    have n5 : (0 : Int) ≤ (i : Int) := by omega
    have n6 : (i : Int) < (x.length : Int) := by omega
    have n7 : (0 : Int) ≤ ((i + k - 1 : Nat) : Int) := by omega
    have n8 : ((i + k - 1 : Nat) : Int) < ((rd_L3 x (i : Int)).length : Int) := by omega
    have n9 : (i : Int) ≤ ((i + k : Nat) : Int) := by omega
    have n10 : ((i + k : Nat) : Int) ≤ (s.size : Int) := by omega
    have n11 : ((i + k : Nat) : Int) < ((rd_L3 x (i : Int)).length : Int) := by omega
    have n12 : (i : Int) < (s.size : Int) := by omega
    have n13 : ((i + k - 1 : Nat) : Int) < (s.size : Int) := by omega
    have n14 : (i : Int) ≤ ((i + 1 : Nat) : Int) := by omega
    have n15 : ((i + 1 : Nat) : Int) ≤ (s.size : Int) := by omega
    have n16 : ((i + k - 1 : Nat) : Int) < ((rd_L3 x ((i + 1 : Nat) : Int)).length : Int) := by omega
    have hb := better_ev (ent x (i + 1) (i + k)) (ent x i (i + k - 1))
    unfold ent at hb
    by_cases ck : k = 1
    · subst ck
      have hx : seg (L s) i (i + 1) = [(L s)[i]'(by rw [L_size]; omega)] := seg_one (by rw [L_size]; omega)
      obtain ⟨r, h1, h2⟩ := rin_l2 hs hk hkn P hE n (i + 1) _ (by omega) (hT.put hk (by omega) (v := s.extract i (i + 1)) (by
        rw [L_extract]
        show Best _ (seg (L s) i (i + 1))
        rw [hx]
        exact best_pal rfl))
      refine ⟨r, Ev.step (f := fun K => galloonref01_Inner.l2 K s s.size (x.set i ((rd_L3 x (i : Int)).set (i + 1) (s.extract i (i + 1)))) ((1 : Nat) : Int) ((i + 1 : Nat) : Int)) (fun K => ?_) h1, h2⟩
      simp only [galloonref01_Inner.l2]
      rw [hw, if_pos (by omega), hw1, if_pos n1, if_pos n2, if_pos n3, if_pos n4, if_pos n5, if_pos n6, hw2, if_pos n7, if_pos n8, hb]
      simp only [Option.bind_some]
      rw [if_pos (by omega), if_pos n9, if_pos n10, if_pos n11, Int.toNat_natCast, Int.toNat_natCast]
    · have hends : seg (L s) i (i + k) = (L s)[i]'(by rw [L_size]; omega) :: (seg (L s) (i + 1) (i + k - 1) ++ [(L s)[i + k - 1]'(by rw [L_size]; omega)]) := seg_ends (by omega) (by rw [L_size]; omega)
      have hA : seg (L s) (i + 1) (i + k) = seg (L s) (i + 1) (i + k - 1) ++ [(L s)[i + k - 1]'(by rw [L_size]; omega)] := by
        have h1 := seg_cons (l := L s) (i := i) (e := i + k) (by omega) (by rw [L_size]; omega)
        rw [hends] at h1
        exact ((List.cons.inj h1).2).symm
      have hB : seg (L s) i (i + k - 1) = (L s)[i]'(by rw [L_size]; omega) :: seg (L s) (i + 1) (i + k - 1) := seg_cons (by omega) (by rw [L_size]; omega)
      have b1 : bt s i = (((L s)[i]'(by rw [L_size]; omega)).toNat : Int) := bt_get (by omega)
      have b2 : bt s ((i + k - 1 : Nat) : Int) = (((L s)[i + k - 1]'(by rw [L_size]; omega)).toNat : Int) := bt_get (by omega)
      have hb3 : Best (seg (L s) (i + 1) (i + k - 1)) (L (ent x (i + 1) (i + k - 1))) := hT.be (i + 1) (i + k - 1) (by omega) (by omega) (Or.inl (by omega))
      rw [hA] at hb1
      rw [hB] at hb2
      by_cases c : (L s)[i]'(by rw [L_size]; omega) = (L s)[i + k - 1]'(by rw [L_size]; omega)
      · have hone : L (s.extract i (i + 1)) = [(L s)[i]'(by rw [L_size]; omega)] := by
          rw [L_extract]
          exact seg_one (by rw [L_size]; omega)
        have hcat : L (s.extract i (i + 1) ++ ent x (i + 1) (i + k - 1) ++ s.extract i (i + 1)) = (L s)[i]'(by rw [L_size]; omega) :: (L (ent x (i + 1) (i + k - 1)) ++ [(L s)[i]'(by rw [L_size]; omega)]) := by
          rw [L_append, L_append, hone]; simp
        have hsz1 : (s.extract i (i + 1)).size = 1 := by rw [← L_size, hone]; rfl
        have hsz2 : (ent x (i + 1) (i + k - 1)).size ≤ s.size := by
          have := hb3.sub.length_le
          rw [seg_len (by rw [L_size]; omega), L_size] at this
          omega
        have n17 : (s.extract i (i + 1)).size + (ent x (i + 1) (i + k - 1)).size ≤ 9223372036854775807 := by omega
        have n18 : (s.extract i (i + 1) ++ ent x (i + 1) (i + k - 1)).size + (s.extract i (i + 1)).size ≤ 9223372036854775807 := by rw [ByteArray.size_append]; omega
        have hb4 := better_ev (mkS (btr (L (ent x (i + 1) (i + k))) (L (ent x i (i + k - 1))))) (s.extract i (i + 1) ++ ent x (i + 1) (i + k - 1) ++ s.extract i (i + 1))
        obtain ⟨v, hv⟩ : ∃ v, v = mkS (btr (L (mkS (btr (L (ent x (i + 1) (i + k))) (L (ent x i (i + k - 1)))))) (L (s.extract i (i + 1) ++ ent x (i + 1) (i + k - 1) ++ s.extract i (i + 1)))) := ⟨_, rfl⟩
        rw [← hv] at hb4
        have hbest : Best (seg (L s) i (i + k)) (L v) := by
          rw [hv, L_mk, L_mk, hcat, hends]
          rw [← c] at hb1 ⊢
          exact best_same hb1 hb2 hb3
        obtain ⟨r, h1, h2⟩ := rin_l2 hs hk hkn P hE n (i + 1) _ (by omega) (hT.put hk (by omega) hbest)
        unfold ent at hb4 n17 n18
        refine ⟨r, Ev.step (f := fun K => galloonref01_Inner.l2 K s s.size (x.set i ((rd_L3 x (i : Int)).set (i + k) v)) (k : Int) ((i + 1 : Nat) : Int)) (fun K => ?_) h1, h2⟩
        simp only [galloonref01_Inner.l2]
        rw [hw, if_pos (by omega), hw1, if_pos n1, if_pos n2, if_pos n3, if_pos n4, if_pos n5, if_pos n6, hw2, if_pos n7, if_pos n8, hb]
        simp only [Option.bind_some]
        rw [if_neg (by omega), if_pos n12, if_pos n13, if_pos (by rw [b1, b2, c]), if_pos n14, if_pos n15, if_pos n16]
        simp only [Int.toNat_natCast]
        rw [if_pos n17, if_pos n18, hb4]
        simp only [Option.bind_some]
        rw [if_pos n11]
      · obtain ⟨v, hv⟩ : ∃ v, v = mkS (btr (L (ent x (i + 1) (i + k))) (L (ent x i (i + k - 1)))) := ⟨_, rfl⟩
        have hbest : Best (seg (L s) i (i + k)) (L v) := by
          rw [hv, L_mk, hends]
          exact best_ne c hb1 hb2
        unfold ent at hv
        rw [← hv] at hb
        obtain ⟨r, h1, h2⟩ := rin_l2 hs hk hkn P hE n (i + 1) _ (by omega) (hT.put hk (by omega) hbest)
        refine ⟨r, Ev.step (f := fun K => galloonref01_Inner.l2 K s s.size (x.set i ((rd_L3 x (i : Int)).set (i + k) v)) (k : Int) ((i + 1 : Nat) : Int)) (fun K => ?_) h1, h2⟩
        have hne : ¬ bt s i = bt s ((i + k - 1 : Nat) : Int) := by
          rw [b1, b2]
          intro h
          exact c (UInt8.toNat_inj.1 (Int.ofNat.inj h))
        simp only [galloonref01_Inner.l2]
        rw [hw, if_pos (by omega), hw1, if_pos n1, if_pos n2, if_pos n3, if_pos n4, if_pos n5, if_pos n6, hw2, if_pos n7, if_pos n8, hb]
        simp only [Option.bind_some]
        rw [if_neg (by omega), if_pos n12, if_pos n13, if_neg hne, if_pos n11, Int.toNat_natCast, Int.toNat_natCast]
theorem rin_l1 {s : ByteArray} (hs : s.size ≤ 1000) : ∀ (n k : Nat) (x : List (List ByteArray)), k + n = s.size + 1 → 0 < k → ITab s x k 0 → ∃ r, Ev (fun K => galloonref01_Inner.l1 K s s.size x k) r ∧ Best (L s) (L r)
  | 0, k, x, h, h0, hT => by
    have hlx := hT.lx
    have hr := hT.lr 0 (by omega)
    have hb := hT.be 0 s.size (by omega) (by omega) (Or.inl (by omega))
    have hseg : seg (L s) 0 s.size = L s := by
      have := seg_all (L s)
      rwa [L_size, Nat.zero_add] at this
    rw [hseg] at hb
    refine ⟨_, Ev.step (f := fun _ => some (ent x 0 s.size)) (fun K => ?_) (Ev.now _), hb⟩
    have hr' : (s.size : Int) < ((rd_L3 x 0).length : Int) := by
      have : (rd_L3 x 0).length = s.size + 1 := hr
      omega
    simp only [galloonref01_Inner.l1]
    rw [if_neg (by omega), if_pos (by omega), if_pos (by omega), if_pos hr']
    rfl
  | n + 1, k, x, h, h0, hT => by
    obtain ⟨r, h1, h2⟩ := rin_l2 hs h0 (by omega) (fun r => Best (L s) (L r)) (fun x hx => rin_l1 hs n (k + 1) x (by omega) (by omega) hx) (s.size + 1 - k) 0 x (by omega) hT
    refine ⟨r, Ev.step (f := fun K => galloonref01_Inner.l2 K s s.size x k ((0 : Nat) : Int)) (fun K => ?_) h1, h2⟩
    simp only [galloonref01_Inner.l1]
    rw [if_pos (by omega)]
    rfl
theorem rin_l0 {s : ByteArray} (hs : s.size ≤ 1000) {m : Nat} (hm : m = s.size + 1) : ∀ (n i : Nat), i + n = m → ∃ r, Ev (fun K => galloonref01_Inner.l0 K s s.size (List.replicate i (List.replicate m (⟨#[]⟩ : ByteArray))) i) r ∧ Best (L s) (L r)
  | 0, i, h => by
    obtain rfl : i = m := by omega
    have hrow : ∀ a : Nat, a ≤ s.size → rd_L3 (List.replicate i (List.replicate i (⟨#[]⟩ : ByteArray))) (a : Int) = List.replicate i ⟨#[]⟩ := by
      intro a ha
      unfold rd_L3
      rw [Int.toNat_natCast, List.getD_eq_getElem?_getD, List.getElem?_replicate, if_pos (by omega)]
      rfl
    obtain ⟨r, h1, h2⟩ := rin_l1 hs s.size 1 (List.replicate i (List.replicate i (⟨#[]⟩ : ByteArray))) (by omega) (by omega) ⟨by rw [List.length_replicate]; exact hm, fun a ha => by rw [hrow a ha, List.length_replicate]; exact hm, fun a b hab hb hc => by
      have hba : b = a := by omega
      subst hba
      have e : ent (List.replicate i (List.replicate i (⟨#[]⟩ : ByteArray))) b b = ⟨#[]⟩ := by
        unfold ent
        rw [hrow b hb]
        unfold rdOf
        rw [Int.toNat_natCast, List.getD_eq_getElem?_getD, List.getElem?_replicate, if_pos (by omega)]
        rfl
      have e2 : seg (L s) b b = [] := by unfold seg; simp
      rw [e, e2]
      exact best_nil⟩
    refine ⟨r, Ev.step (f := fun K => galloonref01_Inner.l1 K s s.size (List.replicate i (List.replicate i (⟨#[]⟩ : ByteArray))) 1) (fun K => ?_) h1, h2⟩
    simp only [galloonref01_Inner.l0]
    rw [if_neg (by omega)]
  | n + 1, i, h => by
    have hw : wrap64 ((s.size : Int) + 1) = (m : Int) := by rw [w64 (by omega), hm]; rfl
    have hw2 : wrap64 ((i : Int) + 1) = ((i + 1 : Nat) : Int) := by rw [w64 (by omega)]; rfl
    obtain ⟨r, h1, h2⟩ := rin_l0 hs hm n (i + 1) (by omega)
    have hm2 : m ≤ 1001 := by omega
    have hi2 : (List.replicate i (List.replicate m (⟨#[]⟩ : ByteArray))).length < 5864062014805 := by rw [List.length_replicate]; omega
    refine ⟨r, Ev.step (f := fun K => galloonref01_Inner.l0 K s s.size (List.replicate (i + 1) (List.replicate m (⟨#[]⟩ : ByteArray))) ((i + 1 : Nat) : Int)) (fun K => ?_) h1, h2⟩
    simp only [galloonref01_Inner.l0]
    rw [if_pos (by omega), hw, if_pos (Int.natCast_nonneg m), Int.toNat_natCast, if_pos (Nat.le_trans hm2 (by decide)), if_pos hi2, hw2, List.replicate_succ' (n := i)]
theorem rin_ev {s : ByteArray} (hs : s.size ≤ 1000) : ∃ r, Ev (fun K => galloonref01_Inner.f K s) r ∧ Best (L s) (L r) := by
  obtain ⟨r, h1, h2⟩ := rin_l0 hs (m := s.size + 1) rfl (s.size + 1) 0 (by omega)
  exact ⟨r, h1, h2⟩
theorem TrimInner : galloonlaw01_TrimInner.Pure := by
  intro a0 _
  obtain ⟨t, ht, hts⟩ := short_ev a0
  have hw := rword_ev (s := t) (by omega)
  refine Ev.rounds (g := fun k => galloonlaw01_TrimInner.f k a0) ?_
  unfold galloonlaw01_TrimInner.f
  rw [ht]
  simp only [Option.bind_some]
  by_cases c : Word t
  · have hs := c.1
    obtain ⟨r, hr, hb, hrs⟩ := Inner_ev c
    obtain ⟨y, hy, yp, ys, yl⟩ := Outer_ev2 c
    obtain ⟨z, hz, hzb⟩ := rin_ev (s := t) (by omega)
    have hrz : r = z := L_inj (best_eq2 hb hzb)
    subst hrz
    have hlen := best_len hb
    rw [L_size] at hlen
    have hP := rpal_ev (s := y) (by omega)
    rw [decide_eq_true yp] at hP
    have hW := within_ev (x := t) (s := y) (by omega) (by omega) ys
    refine Ev.bind hr (Ev.bind hy (Ev.bind hw (Ev.ite_true (decide_eq_true c) (Ev.bind hz (Ev.ite_true rfl (Ev.ite_true rfl (Ev.ite_true ?_ (Ev.bind hP (Ev.ite_true rfl (Ev.bind hW (Ev.ite_true rfl (Ev.ite_true rfl (Ev.bind awake_ev (Ev.now _))))))))))))))
    show (y.size : Int) = wrap64 (wrap64 (2 * (t.size : Int)) - (r.size : Int))
    rw [w64 (n := 2 * (t.size : Int)) (by omega), w64 (by omega)]
    omega
  · have e1 : Ev (fun k => trim_Inner.f k t) (⟨#[]⟩, 2) := by
      unfold trim_Inner.f
      rw [isWord_no c]
      simp only [Option.bind_some]
      exact Ev.ite_false (by simp) (Ev.now _)
    have e2 : Ev (fun k => trim_Outer.f k t) (⟨#[]⟩, 2) := by
      unfold trim_Outer.f
      rw [isWord_no c]
      simp only [Option.bind_some]
      exact Ev.ite_false (by simp) (Ev.now _)
    have hnil : (⟨#[]⟩ : ByteArray).toList = ([] : List UInt8) := by rw [toList_L]; rfl
    refine Ev.bind e1 (Ev.bind e2 (Ev.bind hw (Ev.ite_false (by rw [decide_eq_true_iff]; exact c) (Ev.ite_true hnil (Ev.ite_true rfl (Ev.ite_true hnil (Ev.ite_true rfl (Ev.bind awake_ev (Ev.now _)))))))))
end Go.Proofs.Ytbdlhgdfnnbjiaa.Pure
