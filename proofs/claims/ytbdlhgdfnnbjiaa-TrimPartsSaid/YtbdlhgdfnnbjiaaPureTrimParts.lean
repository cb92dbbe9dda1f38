import Derived.Test.YtbdlhgdfnnbjiaaGisWord
import Derived.Test.YtbdlhgdfnnbjiaaGturned
import Derived.Test.YtbdlhgdfnnbjiaaPYx1
import Derived.Test.YtbdlhgdfnnbjiaaPYx10
import Derived.Test.YtbdlhgdfnnbjiaaPYx27
import Derived.Test.YtbdlhgdfnnbjiaaPYx28
import Derived.Test.YtbdlhgdfnnbjiaaPYx3
import Derived.Test.YtbdlhgdfnnbjiaaPYx31
import Derived.Test.YtbdlhgdfnnbjiaaPYx32
import Derived.Test.YtbdlhgdfnnbjiaaPYx33
import Derived.Test.YtbdlhgdfnnbjiaaPYx39
import Derived.Test.YtbdlhgdfnnbjiaaPYx40
import Derived.Test.YtbdlhgdfnnbjiaaPYx41
import Derived.Test.YtbdlhgdfnnbjiaaPYx5
import Derived.Test.YtbdlhgdfnnbjiaaPalS
import Derived.Lib.Index
import Derived.Lib.Strings
/-! TrimParts: the plain law, with the plain laws that it leans on. -/
namespace Go.Proofs.Ytbdlhgdfnnbjiaa.Pure
open Go.Proofs.Ytbdlhgdfnnbjiaa.PY Go.RowKit Go.Proofs.YtbdlhgdfnnbjiaaW.PrintWords Go.Proofs.YtbdlhgdfnnbjiaaW.PrintLast Go.Proofs.YtbdlhgdfnnbjiaaW.PrintMore Go.Proofs.Ytbdlhgdfnnbjiaa.Pal
set_option linter.unusedVariables false
theorem Ev.ite_true {α : Type} {c : Prop} [Decidable c] {g f : Nat → Option α} {r : α} (hc : c) (h : Ev g r) : Ev (fun n => if c then g n else f n) r := by simpa only [if_pos hc] using h
theorem Ev.ite_false {α : Type} {c : Prop} [Decidable c] {g f : Nat → Option α} {r : α} (hc : ¬ c) (h : Ev f r) : Ev (fun n => if c then g n else f n) r := by simpa only [if_neg hc] using h
theorem Ev.to {α : Type} {g : Nat → Option α} {r s : α} (h : Ev g r) (e : r = s) : Ev g s := e ▸ h
theorem w64 {n : Int} (h : -9223372036854775808 ≤ n ∧ n ≤ 9223372036854775807) : wrap64 n = n := by unfold wrap64; omega
/-- A string's bytes, and back. -/
def L (s : ByteArray) : List UInt8 := s.data.toList
def mkS (l : List UInt8) : ByteArray := ⟨l.toArray⟩
theorem L_mk (l : List UInt8) : L (mkS l) = l := by simp [L, mkS]
theorem mk_L (s : ByteArray) : mkS (L s) = s := by simp [L, mkS]
theorem L_inj {s t : ByteArray} (h : L s = L t) : s = t := by rw [← mk_L s, ← mk_L t, h]
theorem L_size (s : ByteArray) : (L s).length = s.size := by simp [L]
theorem L_extract (s : ByteArray) (a b : Nat) : L (s.extract a b) = ((L s).drop a).take (b - a) := Lib.extract_data s a b
theorem L_from (s : ByteArray) (a : Nat) : L (s.extract a s.size) = (L s).drop a := by
  rw [L_extract, List.take_of_length_le (by rw [List.length_drop, L_size]; omega)]
theorem L_to (s : ByteArray) (b : Nat) : L (s.extract 0 b) = (L s).take b := by rw [L_extract]; simp
theorem toList_L (s : ByteArray) : s.toList = L s := ByteArray.toList_eq s
theorem bt_L {s : ByteArray} {i : Nat} (h : i < (L s).length) : bt s i = (((L s)[i]).toNat : Int) := by
  have h' : i < s.size := by rw [← L_size]; exact h
  unfold bt
  rw [dif_pos (by simpa using h')]
  simp only [Int.toNat_natCast]
  rfl
theorem turned_ev {a : ByteArray} (h : a.size ≤ 1000000) : trim_turned.f a = some (mkS (L a).reverse) := by
  unfold trim_turned.f
  rw [if_pos h]
  congr 1
  refine L_inj ?_
  rw [L_mk]
  simp only [L, strOfNums, numsOf, ← List.map_reverse, List.map_map]
  conv => rhs; rw [← List.map_id (a.data.toList.reverse)]
  refine List.map_congr_left (fun b _ => ?_)
  simp
theorem isPal_ev {a : ByteArray} (h : a.size ≤ 1000000) : trim_isPalindrome.f a = some (decide (Pal (L a))) := by
  unfold trim_isPalindrome.f
  rw [turned_ev h]
  simp only [Option.bind_some, toList_L, L_mk, Option.some.injEq]
  rw [Bool.eq_iff_iff, beq_iff_eq, decide_eq_true_iff]
  exact ⟨fun h => h.symm, fun h => h.symm⟩
theorem isWord_iff (s : ByteArray) : trim_isWord.f s = some (decide (s.size ≤ 100 ∧ ∀ c ∈ L s, 97 ≤ c.toNat ∧ c.toNat ≤ 100)) := by
  unfold trim_isWord.f
  by_cases c : (s.size : Int) ≤ 100
  · rw [if_pos c]
    congr 1
    rw [Bool.eq_iff_iff, allBytes_iff, decide_eq_true_iff]
    have e : ∀ j, j < s.size → ∀ h : j < (L s).length, s.get! j = (L s)[j] := fun j hj h => by
      simp [ByteArray.get!, L, hj]
    constructor
    · intro h
      refine ⟨by omega, fun x hx => ?_⟩
      obtain ⟨j, hj, rfl⟩ := List.getElem_of_mem hx
      have hj' : j < s.size := by rw [← L_size]; exact hj
      rw [← e j hj' hj]
      exact h j hj'
    · rintro ⟨_, h⟩ j hj
      rw [e j hj (by rw [L_size]; exact hj)]
      exact h _ (List.getElem_mem _)
  · rw [if_neg c]
    congr 1
    symm
    rw [decide_eq_false_iff_not]
    omega
theorem pal_half {l : List UInt8} : Pal l ↔ ∀ j, j < l.length / 2 → l[j]? = l[l.length - 1 - j]? := by
  constructor
  · intro h j hj
    have hr : l.reverse = l := h
    have : l.reverse[j]? = l[l.length - 1 - j]? := List.getElem?_reverse (by omega)
    rw [hr] at this
    exact this
  · intro h
    refine List.ext_getElem? (fun j => ?_)
    by_cases hj : j < l.length
    · rw [List.getElem?_reverse hj]
      by_cases h1 : j < l.length / 2
      · exact (h j h1).symm
      · by_cases h2 : l.length - 1 - j < l.length / 2
        · have := h _ h2
          rw [this]
          congr 1
          omega
        · congr 1
          omega
    · rw [List.getElem?_eq_none (by simpa using hj), List.getElem?_eq_none (by omega)]
theorem rpal_loop {s : ByteArray} (hs : s.size ≤ 1000000) : ∀ n i : Nat, s.size / 2 = i + n → Ev (fun k => galloonref01_Palindrome.l0 k s i) (decide (∀ j, j < (L s).length / 2 → i ≤ j → (L s)[j]? = (L s)[(L s).length - 1 - j]?))
  | 0, i, h => by
    have hw : wrap64 ((s.size : Int) / 2) = ((s.size / 2 : Nat) : Int) := by rw [w64 (by omega)]; omega
    refine Ev.step (f := fun _ => some true) (fun k => ?_) ?_
    · simp only [galloonref01_Palindrome.l0]; rw [hw, if_neg (by omega)]
    · refine Ev.to (Ev.now _) ?_
      symm
      rw [decide_eq_true_iff]
      intro j hj hij
      rw [L_size] at hj
      omega
  | n + 1, i, h => by
    have hw : wrap64 ((s.size : Int) / 2) = ((s.size / 2 : Nat) : Int) := by rw [w64 (by omega)]; omega
    have hw1 : wrap64 (wrap64 ((s.size : Int) - 1) - i) = ((s.size - 1 - i : Nat) : Int) := by rw [w64 (n := (s.size : Int) - 1) (by omega), w64 (by omega)]; omega
    have hw2 : wrap64 ((i : Int) + 1) = ((i + 1 : Nat) : Int) := by rw [w64 (by omega)]; rfl
    have h1 : i < (L s).length := by rw [L_size]; omega
    have h2 : s.size - 1 - i < (L s).length := by rw [L_size]; omega
    have hb1 := bt_L h1
    have hb2 := bt_L h2
    by_cases c : (L s)[i] = (L s)[s.size - 1 - i]
    · refine Ev.step (f := fun k => galloonref01_Palindrome.l0 k s ((i + 1 : Nat) : Int)) (fun k => ?_) (Ev.to (rpal_loop hs n (i + 1) (by omega)) ?_)
      · simp only [galloonref01_Palindrome.l0]
        rw [hw, hw1, if_pos (by omega), if_pos (by omega), if_pos (by omega), if_pos (by omega), if_pos (by omega), hb1, hb2, if_pos (by rw [c]), hw2]
      · rw [Bool.eq_iff_iff, decide_eq_true_iff, decide_eq_true_iff]
        constructor
        · intro hh j hj hij
          by_cases e : j = i
          · subst e
            rw [L_size, List.getElem?_eq_getElem h1, List.getElem?_eq_getElem h2, c]
          · exact hh j hj (by omega)
        · intro hh j hj hij
          exact hh j hj (by omega)
    · refine Ev.step (f := fun _ => some false) (fun k => ?_) (Ev.to (Ev.now _) ?_)
      · simp only [galloonref01_Palindrome.l0]
        rw [hw, hw1, if_pos (by omega), if_pos (by omega), if_pos (by omega), if_pos (by omega), if_pos (by omega), hb1, hb2, if_neg]
        intro e
        exact c (UInt8.toNat_inj.1 (by omega))
      · symm
        rw [decide_eq_false_iff_not]
        intro hh
        have := hh i (by rw [L_size]; omega) (Nat.le_refl _)
        rw [L_size, List.getElem?_eq_getElem h1, List.getElem?_eq_getElem h2] at this
        exact c (Option.some.inj this)
theorem rpal_ev {s : ByteArray} (hs : s.size ≤ 1000000) : Ev (fun k => galloonref01_Palindrome.f k s) (decide (Pal (L s))) := by
  refine Ev.to (rpal_loop hs (s.size / 2) 0 (by omega)) ?_
  rw [Bool.eq_iff_iff, decide_eq_true_iff, decide_eq_true_iff, pal_half]
  exact ⟨fun h j hj => h j hj (Nat.zero_le _), fun h j hj _ => h j hj⟩
theorem rword_loop {s : ByteArray} (hs : s.size ≤ 1000000) : ∀ n i : Nat, i + n = s.size → Ev (fun k => galloonref01_Word.l0 k s i) (decide (s.size ≤ 100 ∧ ∀ c ∈ (L s).drop i, 97 ≤ c.toNat ∧ c.toNat ≤ 100))
  | 0, i, h => by
    refine Ev.step (f := fun _ => some (decide ((s.size : Int) ≤ 100))) (fun k => ?_) (Ev.to (Ev.now _) ?_)
    · simp only [galloonref01_Word.l0]; rw [if_neg (by omega)]
    · have : (L s).drop i = [] := List.drop_of_length_le (by rw [L_size]; omega)
      rw [this, Bool.eq_iff_iff, decide_eq_true_iff, decide_eq_true_iff]
      simp; omega
  | n + 1, i, h => by
    have h1 : i < (L s).length := by rw [L_size]; omega
    have hb1 := bt_L h1
    have hd : (L s).drop i = (L s)[i] :: (L s).drop (i + 1) := List.drop_eq_getElem_cons h1
    have hw2 : wrap64 ((i : Int) + 1) = ((i + 1 : Nat) : Int) := by rw [w64 (by omega)]; rfl
    by_cases c1 : ((L s)[i].toNat : Int) < 97
    · refine Ev.step (f := fun _ => some false) (fun k => ?_) (Ev.to (Ev.now _) ?_)
      · simp only [galloonref01_Word.l0]; rw [if_pos (by omega), if_pos (by omega), hb1, if_pos c1]
      · symm; rw [decide_eq_false_iff_not, hd]; rintro ⟨_, hh⟩; have := hh _ (List.mem_cons_self ..); omega
    · by_cases c2 : ((L s)[i].toNat : Int) > 100
      · refine Ev.step (f := fun _ => some false) (fun k => ?_) (Ev.to (Ev.now _) ?_)
        · simp only [galloonref01_Word.l0]; rw [if_pos (by omega), if_pos (by omega), hb1, if_neg c1, if_pos c2]
        · symm; rw [decide_eq_false_iff_not, hd]; rintro ⟨_, hh⟩; have := hh _ (List.mem_cons_self ..); omega
      · refine Ev.step (f := fun k => galloonref01_Word.l0 k s ((i + 1 : Nat) : Int)) (fun k => ?_) (Ev.to (rword_loop hs n (i + 1) (by omega)) ?_)
        · simp only [galloonref01_Word.l0]; rw [if_pos (by omega), if_pos (by omega), hb1, if_neg c1, if_neg c2, hw2]
        · rw [Bool.eq_iff_iff, decide_eq_true_iff, decide_eq_true_iff, hd]
          refine and_congr_right fun _ => ⟨fun hh c hc => ?_, fun hh c hc => hh c (List.mem_cons_of_mem _ hc)⟩
          rcases List.mem_cons.1 hc with rfl | hc
          · omega
          · exact hh c hc
theorem rword_ev {s : ByteArray} (hs : s.size ≤ 1000000) : Ev (fun k => galloonref01_Word.f k s) (decide (s.size ≤ 100 ∧ ∀ c ∈ L s, 97 ≤ c.toNat ∧ c.toNat ≤ 100)) := by
  have := rword_loop hs s.size 0 (by omega)
  simpa [galloonref01_Word.f] using this
theorem awake_ev : Ev (fun k => galloonlaw01_awake.f k) true := Ev.of galloonlaw01_awake.mono (k := 60) (by decide +kernel)
theorem short_ev (a : ByteArray) : ∃ t, galloonlaw01_short.f a = some t ∧ t.size ≤ 101 := by
  unfold galloonlaw01_short.f mn
  refine ⟨_, by rw [if_pos (by split <;> omega), if_pos (by split <;> omega)], ?_⟩
  rw [ByteArray.size_extract]
  split <;> omega
def Word (s : ByteArray) : Prop := s.size ≤ 100 ∧ ∀ c ∈ L s, 97 ≤ c.toNat ∧ c.toNat ≤ 100
theorem isWord_yes {s : ByteArray} (h : Word s) : trim_isWord.f s = some true := by rw [isWord_iff]; exact congrArg some (decide_eq_true h)
theorem isWord_no {s : ByteArray} (h : ¬ Word s) : trim_isWord.f s = some false := by rw [isWord_iff]; exact congrArg some (decide_eq_false h)
/-- The letters from i up to e. -/
def seg (l : List UInt8) (i e : Nat) : List UInt8 := (l.drop i).take (e - i)
theorem seg_len {l : List UInt8} {i e : Nat} (h : e ≤ l.length) : (seg l i e).length = e - i := by
  unfold seg; rw [List.length_take, List.length_drop]; omega
theorem pal_short {l : List UInt8} {i e : Nat} (h : e ≤ i + 1) : Pal (seg l i e) := by
  have hl : (seg l i e).length ≤ 1 := by unfold seg; rw [List.length_take]; omega
  rcases hs : seg l i e with _ | ⟨x, _ | ⟨y, t⟩⟩
  · exact pal_nil
  · exact pal_one x
  · rw [hs] at hl; simp at hl
def PartsOf (l : List UInt8) (ps : List (List UInt8)) : Prop := (∀ p ∈ ps, p ≠ [] ∧ Pal p) ∧ ps.flatten = l
theorem parts_append {a b : List UInt8} {ps qs : List (List UInt8)} (h : PartsOf a ps) (h' : PartsOf b qs) : PartsOf (a ++ b) (ps ++ qs) := by
  refine ⟨fun p hp => ?_, by rw [List.flatten_append, h.2, h'.2]⟩
  rcases List.mem_append.1 hp with hp | hp
  · exact h.1 p hp
  · exact h'.1 p hp
theorem parts_last {l : List UInt8} {ps : List (List UInt8)} (h : PartsOf l ps) (hl : l ≠ []) : ∃ q ps', q < l.length ∧ Pal (l.drop q) ∧ ps = ps' ++ [l.drop q] ∧ PartsOf (l.take q) ps' := by
  rcases List.eq_nil_or_concat ps with rfl | ⟨ps', p, rfl⟩
  · exact absurd h.2.symm hl
  · have hf := h.2
    rw [List.concat_eq_append, List.flatten_append] at hf
    simp only [List.flatten_cons, List.flatten_nil, List.append_nil] at hf
    have hp := h.1 p (by simp)
    have hd : l.drop ps'.flatten.length = p := by rw [← hf, List.drop_left]
    have ht : l.take ps'.flatten.length = ps'.flatten := by rw [← hf, List.take_left]
    refine ⟨ps'.flatten.length, ps', ?_, by rw [hd]; exact hp.2, by rw [hd, List.concat_eq_append], ⟨fun q hq => h.1 q (by simp [hq]), ht.symm⟩⟩
    have := congrArg List.length hf
    rw [List.length_append] at this
    have : 0 < p.length := List.length_pos_iff.2 hp.1
    omega
theorem parts_snoc {l : List UInt8} {ps : List (List UInt8)} {q i : Nat} (hq : q < i) (hi : i ≤ l.length) (hp : Pal (seg l q i)) (h : PartsOf (l.take q) ps) : PartsOf (l.take i) (ps ++ [seg l q i]) := by
  have e : l.take i = l.take q ++ seg l q i := by
    have := (List.take_append_drop q (l.take i)).symm
    rw [List.take_take, Nat.min_eq_left (by omega), List.drop_take] at this
    exact this
  rw [e]
  refine parts_append h ⟨fun p hp' => ?_, by simp⟩
  rw [List.mem_singleton.1 hp']
  refine ⟨fun e0 => ?_, hp⟩
  have := seg_len (i := q) hi
  rw [e0] at this
  simp at this; omega
/-- The smallest number of palindromes. -/
def Least (l : List UInt8) (n : Nat) : Prop := (∃ ps, PartsOf l ps ∧ ps.length = n) ∧ ∀ ps, PartsOf l ps → n ≤ ps.length
theorem least_nil : Least [] 0 := ⟨⟨[], ⟨by simp, rfl⟩, rfl⟩, fun _ _ => Nat.zero_le _⟩
theorem least_step {l : List UInt8} {i : Nat} (h0 : 0 < i) (hi : i ≤ l.length) {T : Nat → Nat} (hT : ∀ q, q < i → Least (l.take q) (T q)) {v : Nat} (h1 : ∃ q, q < i ∧ Pal (seg l q i) ∧ v = T q + 1) (h2 : ∀ q, q < i → Pal (seg l q i) → v ≤ T q + 1) : Least (l.take i) v := by
  constructor
  · obtain ⟨q, hq, hp, rfl⟩ := h1
    obtain ⟨ps, hps, hl⟩ := (hT q hq).1
    exact ⟨_, parts_snoc hq hi hp hps, by rw [List.length_append, hl]; rfl⟩
  · intro ps hps
    have hlen : (l.take i).length = i := by rw [List.length_take]; omega
    obtain ⟨q, ps', hq, hp, rfl, hps'⟩ := parts_last hps (fun e => by rw [e] at hlen; simp at hlen; omega)
    rw [hlen] at hq
    rw [List.drop_take] at hp
    rw [List.take_take, Nat.min_eq_left (by omega)] at hps'
    have := h2 q hq hp
    have := (hT q hq).2 ps' hps'
    rw [List.length_append]
    simp; omega
theorem least_eq {l : List UInt8} {n m : Nat} (h : Least l n) (h' : Least l m) : n = m := by
  obtain ⟨ps, hp, rfl⟩ := h.1
  obtain ⟨qs, hq, rfl⟩ := h'.1
  have := h.2 qs hq
  have := h'.2 ps hp
  omega
def sumTo : Nat → (Nat → Nat) → Nat
  | 0, _ => 0
  | n + 1, g => sumTo n g + g n
theorem sumTo_congr {g f : Nat → Nat} : ∀ n, (∀ i, i < n → g i = f i) → sumTo n g = sumTo n f
  | 0, _ => rfl
  | n + 1, h => by unfold sumTo; rw [sumTo_congr n (fun i hi => h i (by omega)), h n (by omega)]
def E (l : List UInt8) (p j : Nat) : Nat := if p < j ∧ Pal (seg l p j) then 1 else 0
def wF (l : List UInt8) : Nat → Nat → Nat
  | 0, _ => 1
  | i + 1, j => if j ≤ i then wF l i j else sumTo (i + 1) (fun p => E l p (i + 1) * wF l i p)
/-- How many ways there are to make the first j letters. -/
def wv (l : List UInt8) (j : Nat) : Nat := wF l j j
theorem wF_eq (l : List UInt8) (j : Nat) : ∀ i, wF l (j + i) j = wv l j
  | 0 => rfl
  | i + 1 => by
    rw [← Nat.add_assoc]
    show (if j ≤ j + i then wF l (j + i) j else _) = _
    rw [if_pos (by omega)]
    exact wF_eq l j i
theorem wv_succ (l : List UInt8) (i : Nat) : wv l (i + 1) = sumTo (i + 1) (fun p => E l p (i + 1) * wv l p) := by
  show (if i + 1 ≤ i then _ else _) = _
  rw [if_neg (by omega)]
  refine sumTo_congr _ (fun p hp => ?_)
  have := wF_eq l p (i - p)
  rw [show p + (i - p) = i by omega] at this
  rw [this]
theorem rd_set {x : List Int} {i j : Nat} {v : Int} (hi : i < x.length) : rd (x.set i v) (j : Int) = if j = i then v else rd x (j : Int) := by
  unfold rd
  rw [Int.toNat_natCast, List.getD_eq_getElem?_getD, List.getD_eq_getElem?_getD, List.getElem?_set]
  by_cases c : i = j
  · rw [if_pos c, if_pos c.symm, if_pos hi]; rfl
  · rw [if_neg c, if_neg (fun e => c e.symm)]
theorem rd_rep {n j : Nat} : rd (List.replicate n 0) (j : Int) = 0 := by
  unfold rd
  rw [List.getD_eq_getElem?_getD, List.getElem?_replicate]
  split <;> rfl
theorem rev_loop : ∀ (n : Nat) (M A B : List ByteArray), M.length ≤ n → A.length = B.length → (A ++ M ++ B).length ≤ 1000000 → Ev (fun k => slices_Reverse_string_string.l0 k (A ++ M ++ B) (A.length : Int) ((A.length : Int) + M.length - 1)) (A ++ M.reverse ++ B)
  | n, [], A, B, _, h, _ => by
    refine Ev.step (f := fun _ => some (A ++ [] ++ B)) (fun k => ?_) (Ev.now _)
    simp only [slices_Reverse_string_string.l0]
    rw [if_neg (by simp only [List.length_nil]; omega)]
  | n, [x], A, B, _, h, _ => by
    refine Ev.step (f := fun _ => some (A ++ [x] ++ B)) (fun k => ?_) (Ev.now _)
    simp only [slices_Reverse_string_string.l0]
    rw [if_neg (by simp only [List.length_cons, List.length_nil]; omega)]
  | 0, _ :: _ :: _, _, _, hn, _, _ => absurd hn (by simp)
  | n + 1, a :: y :: t, A, B, hn, h, hz => by
    obtain ⟨M, b, hM⟩ : ∃ M b, y :: t = M ++ [b] := by
      rcases List.eq_nil_or_concat (y :: t) with e | ⟨M, b, e⟩
      · simp at e
      · exact ⟨M, b, by rw [e, List.concat_eq_append]⟩
    rw [hM] at hn hz ⊢
    have hlM : (a :: (M ++ [b])).length = M.length + 2 := by simp
    have hall : (A ++ a :: (M ++ [b]) ++ B).length = A.length + (M.length + 2) + B.length := by simp only [List.length_append, hlM]
    rw [hall] at hz
    have e1 : ((A.length : Int) + (a :: (M ++ [b])).length - 1) = ((A.length + M.length + 1 : Nat) : Int) := by rw [hlM]; omega
    have r1 : rdOf ByteArray.empty (A ++ a :: (M ++ [b]) ++ B) (A.length : Int) = a := by
      unfold rdOf
      rw [Int.toNat_natCast, List.getD_eq_getElem?_getD, List.append_assoc, List.getElem?_append_right (by omega), Nat.sub_self]
      rfl
    have r2 : rdOf ByteArray.empty (A ++ a :: (M ++ [b]) ++ B) ((A.length + M.length + 1 : Nat) : Int) = b := by
      unfold rdOf
      rw [Int.toNat_natCast, List.getD_eq_getElem?_getD, List.append_assoc, List.getElem?_append_right (by omega), show A.length + M.length + 1 - A.length = M.length + 1 by omega, List.cons_append, List.getElem?_cons_succ, List.append_assoc, List.getElem?_append_right (by omega), Nat.sub_self]
      rfl
    have s1 : ((A ++ a :: (M ++ [b]) ++ B).set A.length b).set (A.length + M.length + 1) a = (A ++ [b]) ++ M ++ ([a] ++ B) := by
      have h1 : (A ++ a :: (M ++ [b]) ++ B).set A.length b = A ++ b :: (M ++ [b]) ++ B := by
        rw [List.append_assoc, List.set_append_right _ _ (by omega), Nat.sub_self, List.append_assoc]; rfl
      rw [h1, List.append_assoc, List.set_append_right _ _ (by omega), show A.length + M.length + 1 - A.length = M.length + 1 by omega, List.cons_append, List.set_cons_succ, List.append_assoc, List.set_append_right _ _ (by omega), Nat.sub_self]
      simp
    have w1 : wrap64 ((A.length : Int) + 1) = (((A ++ [b]).length : Nat) : Int) := by rw [w64 (by omega)]; simp
    have w2 : wrap64 (((A.length + M.length + 1 : Nat) : Int) - 1) = (((A ++ [b]).length : Nat) : Int) + (M.length : Int) - 1 := by rw [w64 (by omega)]; simp; omega
    have ih := rev_loop n M (A ++ [b]) ([a] ++ B) (by simp at hn; omega) (by simp; omega) (by simp; omega)
    rw [e1]
    refine Ev.to (Ev.step (f := fun k => slices_Reverse_string_string.l0 k (A ++ [b] ++ M ++ ([a] ++ B)) (((A ++ [b]).length : Nat) : Int) ((((A ++ [b]).length : Nat) : Int) + (M.length : Int) - 1)) (fun k => ?_) ih) (by simp)
    simp only [slices_Reverse_string_string.l0]
    rw [if_pos (by omega), if_pos (by omega), if_pos (by rw [hall]; omega), if_pos (by omega), if_pos (by rw [hall]; omega), r1, r2, w1, w2, Int.toNat_natCast, Int.toNat_natCast, s1]
theorem rev_ev (l : List ByteArray) (h : l.length ≤ 1000000) : Ev (fun k => slices_Reverse_string_string.f k l) l.reverse := by
  have := rev_loop l.length l [] [] (Nat.le_refl _) rfl (by simpa using h)
  simp only [List.nil_append, List.append_nil, List.length_nil] at this
  unfold slices_Reverse_string_string.f
  rw [w64 (by omega)]
  simpa using this
structure FTab (s : ByteArray) (m f : List Int) (i : Nat) : Prop where
  lm : m.length = s.size + 1
  lf : f.length = s.size + 1
  le : ∀ j : Nat, j < i → Least ((L s).take j) (rd m j).toNat ∧ 0 ≤ rd m j ∧ rd m j ≤ j
  lk : ∀ j : Nat, 0 < j → j < i → ∃ q : Nat, q < j ∧ rd f j = q ∧ Pal (seg (L s) q j) ∧ rd m j = rd m q + 1
structure FIn (s : ByteArray) (m f : List Int) (i p : Nat) : Prop where
  tab : FTab s m f i
  cur : rd m i = (i : Int) + 1 ∨ ∃ q : Nat, q < p ∧ Pal (seg (L s) q i) ∧ rd m i = rd m q + 1 ∧ rd f i = q
  bnd : ∀ q : Nat, q < p → Pal (seg (L s) q i) → rd m i ≤ rd m q + 1
  top : rd m i ≤ (i : Int) + 1
theorem FIn.done {s : ByteArray} {m f : List Int} {i : Nat} (h : FIn s m f i i) (h0 : 0 < i) (hi : i ≤ s.size) : FTab s m f (i + 1) := by
  have hb := h.bnd (i - 1) (by omega) (pal_short (by omega))
  have hl := h.tab.le (i - 1) (by omega)
  have hc : ∃ q : Nat, q < i ∧ Pal (seg (L s) q i) ∧ rd m i = rd m q + 1 ∧ rd f i = q := by
    rcases h.cur with e | e
    · omega
    · exact e
  refine ⟨h.tab.lm, h.tab.lf, fun j hj => ?_, fun j hj0 hj => ?_⟩
  · rcases Nat.lt_or_eq_of_le (Nat.le_of_lt_succ hj) with c | rfl
    · exact h.tab.le j c
    · obtain ⟨q, hq, hp, hm, hf⟩ := hc
      have hq2 := h.tab.le q hq
      refine ⟨least_step (T := fun q => (rd m q).toNat) h0 (by rw [L_size]; exact hi) (fun q hq => (h.tab.le q hq).1) ⟨q, hq, hp, by omega⟩ (fun q hq hp => ?_), by omega, by omega⟩
      have := h.bnd q hq hp
      have := h.tab.le q hq
      omega
  · rcases Nat.lt_or_eq_of_le (Nat.le_of_lt_succ hj) with c | rfl
    · exact h.tab.lk j hj0 c
    · obtain ⟨q, hq, hp, hm, hf⟩ := hc
      exact ⟨q, hq, hf, hp, hm⟩
theorem few_l1 {s : ByteArray} (hs : s.size ≤ 1000) {i : Nat} (h0 : 0 < i) (hi : i ≤ s.size) (P : List ByteArray × Int → Prop) (hE : ∀ m f, FTab s m f (i + 1) → ∃ R, Ev (fun k => trim_Fewest.l0 k s m f ((i + 1 : Nat) : Int)) R ∧ P R) : ∀ (n p : Nat) (m f : List Int), p + n = i → FIn s m f i p → ∃ R, Ev (fun k => trim_Fewest.l1 k s m f i i p) R ∧ P R
  | 0, p, m, f, h, hI => by
    obtain rfl : p = i := by omega
    obtain ⟨R, h1, h2⟩ := hE m f (hI.done h0 hi)
    have hw : wrap64 ((p : Int) + 1) = ((p + 1 : Nat) : Int) := by rw [w64 (by omega)]; rfl
    refine ⟨R, Ev.step (f := fun k => trim_Fewest.l0 k s m f ((p + 1 : Nat) : Int)) (fun k => ?_) h1, h2⟩
    simp only [trim_Fewest.l1]
    rw [if_neg (by omega), hw]
  | n + 1, p, m, f, h, hI => by
    have hw : wrap64 ((p : Int) + 1) = ((p + 1 : Nat) : Int) := by rw [w64 (by omega)]; rfl
    have hlm := hI.tab.lm
    have hlf := hI.tab.lf
    have hpr := hI.tab.le p (by omega)
    have hw2 : wrap64 (rd m p + 1) = rd m p + 1 := w64 (by omega)
    have hp : trim_isPalindrome.f (s.extract (p : Int).toNat (i : Int).toNat) = some (decide (Pal (seg (L s) p i))) := by
      rw [isPal_ev (by rw [ByteArray.size_extract]; omega), Int.toNat_natCast, Int.toNat_natCast, L_extract]; rfl
    have g : ∀ k, trim_Fewest.l1 (k + 1) s m f i i p = if decide (Pal (seg (L s) p i)) = true then (if (rd m p + 1) < rd m i then trim_Fewest.l1 k s (m.set i (rd m p + 1)) (f.set i p) i i ((p + 1 : Nat) : Int) else trim_Fewest.l1 k s m f i i ((p + 1 : Nat) : Int)) else trim_Fewest.l1 k s m f i i ((p + 1 : Nat) : Int) := by
      intro k
      simp only [trim_Fewest.l1]
      rw [if_pos (by omega), if_pos (by omega), if_pos (by omega), if_pos (by omega), hp]
      simp only [Option.bind_some]
      rw [if_pos (by omega : (p : Int) < (m.length : Int)), if_pos (by omega : (0 : Int) ≤ (i : Int)), if_pos (by omega : (i : Int) < (m.length : Int)), if_pos (by omega : (i : Int) < (f.length : Int)), hw, hw2, Int.toNat_natCast]
    by_cases c : Pal (seg (L s) p i)
    · by_cases c2 : rd m p + 1 < rd m i
      · obtain ⟨R, h1, h2⟩ := few_l1 hs h0 hi P hE n (p + 1) (m.set i (rd m p + 1)) (f.set i p) (by omega) (by
          have key : ∀ j : Nat, j < i → rd (m.set i (rd m p + 1)) (j : Int) = rd m j := fun j hj => by rw [rd_set (by omega), if_neg (by omega)]
          have key2 : ∀ j : Nat, j < i → rd (f.set i p) (j : Int) = rd f j := fun j hj => by rw [rd_set (by omega), if_neg (by omega)]
          have ki : rd (m.set i (rd m p + 1)) (i : Int) = rd m p + 1 := by rw [rd_set (by omega), if_pos rfl]
          have ki2 : rd (f.set i p) (i : Int) = p := by rw [rd_set (by omega), if_pos rfl]
          refine ⟨⟨by rw [List.length_set]; exact hlm, by rw [List.length_set]; exact hlf, fun j hj => by rw [key j hj]; exact hI.tab.le j hj, fun j hj0 hj => ?_⟩, Or.inr ⟨p, by omega, c, by rw [ki, key p (by omega)], ki2⟩, fun q hq hqp => ?_, by rw [ki]; have := hI.top; omega⟩
          · obtain ⟨q, h1, h2, h3, h4⟩ := hI.tab.lk j hj0 hj
            exact ⟨q, h1, by rw [key2 j hj]; exact h2, h3, by rw [key j hj, key q (by omega)]; exact h4⟩
          · rw [ki, key q (by omega)]
            rcases Nat.lt_or_eq_of_le (Nat.le_of_lt_succ hq) with c3 | rfl
            · have := hI.bnd q c3 hqp; omega
            · exact Int.le_refl _)
        refine ⟨R, Ev.step (f := fun k => trim_Fewest.l1 k s (m.set i (rd m p + 1)) (f.set i p) i i ((p + 1 : Nat) : Int)) (fun k => ?_) h1, h2⟩
        rw [g, if_pos (decide_eq_true c), if_pos c2]
      · obtain ⟨R, h1, h2⟩ := few_l1 hs h0 hi P hE n (p + 1) m f (by omega) ⟨hI.tab, by
          rcases hI.cur with e | ⟨q, h1, h2⟩
          · exact Or.inl e
          · exact Or.inr ⟨q, by omega, h2⟩, fun q hq hqp => by
          rcases Nat.lt_or_eq_of_le (Nat.le_of_lt_succ hq) with c3 | rfl
          · exact hI.bnd q c3 hqp
          · omega, hI.top⟩
        refine ⟨R, Ev.step (f := fun k => trim_Fewest.l1 k s m f i i ((p + 1 : Nat) : Int)) (fun k => ?_) h1, h2⟩
        rw [g, if_pos (decide_eq_true c), if_neg c2]
    · obtain ⟨R, h1, h2⟩ := few_l1 hs h0 hi P hE n (p + 1) m f (by omega) ⟨hI.tab, by
        rcases hI.cur with e | ⟨q, h1, h2⟩
        · exact Or.inl e
        · exact Or.inr ⟨q, by omega, h2⟩, fun q hq hqp => by
        rcases Nat.lt_or_eq_of_le (Nat.le_of_lt_succ hq) with c3 | rfl
        · exact hI.bnd q c3 hqp
        · exact absurd hqp c, hI.top⟩
      refine ⟨R, Ev.step (f := fun k => trim_Fewest.l1 k s m f i i ((p + 1 : Nat) : Int)) (fun k => ?_) h1, h2⟩
      rw [g, if_neg (by rw [decide_eq_true_iff]; exact c)]
/-- What Fewest answers. -/
def FewAns (s : ByteArray) (R : List ByteArray × Int) : Prop := R.2 = 0 ∧ PartsOf (L s) (R.1.map L) ∧ Least (L s) R.1.length ∧ R.1.length ≤ s.size
theorem few_l2 {s : ByteArray} (hs : s.size ≤ 1000) {m f : List Int} (hT : FTab s m f (s.size + 1)) : ∀ (n i : Nat) (acc : List ByteArray), i ≤ n → i ≤ s.size → PartsOf ((L s).drop i) (acc.map L).reverse → rd m i + acc.length = rd m s.size → ∃ R, Ev (fun k => trim_Fewest.l2 k s f acc i) R ∧ FewAns s R
  | n, 0, acc, _, _, hp, hc => by
    have h0 := hT.le 0 (by omega)
    have hz := hT.le s.size (by omega)
    have hlen : acc.length = (rd m s.size).toNat := by omega
    have hr := rev_ev acc (by omega)
    refine ⟨(acc.reverse, 0), Ev.step (f := fun k => (slices_Reverse_string_string.f k acc).bind fun t => some (t, 0)) (fun k => ?_) (Ev.bind hr (Ev.now _)), rfl, ?_, ?_, ?_⟩
    · simp only [trim_Fewest.l2]
      rw [if_neg (by omega)]
    · rw [List.map_reverse]; simpa using hp
    · rw [List.length_reverse, hlen]
      have := hz.1
      rwa [List.take_of_length_le (by rw [L_size]; exact Nat.le_refl _)] at this
    · rw [List.length_reverse]; omega
  | 0, i + 1, _, h, _, _, _ => absurd h (by omega)
  | n + 1, i + 1, acc, hn, hi, hp, hc => by
    obtain ⟨q, hq, hf, hpal, hm⟩ := hT.lk (i + 1) (by omega) (by omega)
    have hz := hT.le s.size (by omega)
    have hi2 := hT.le (i + 1) (by omega)
    have hlf := hT.lf
    have hseg : L (s.extract q (i + 1)) = seg (L s) q (i + 1) := L_extract s q (i + 1)
    obtain ⟨R, h1, h2⟩ := few_l2 hs hT n q (acc ++ [s.extract q (i + 1)]) (by omega) (by omega) (by
      rw [List.map_append, List.reverse_append]
      have e : (L s).drop q = seg (L s) q (i + 1) ++ (L s).drop (i + 1) := by
        have := (List.take_append_drop (i + 1 - q) ((L s).drop q)).symm
        rw [List.drop_drop, show q + (i + 1 - q) = i + 1 by omega] at this
        exact this
      rw [e]
      refine parts_append ⟨fun p hp => ?_, by simp [hseg]⟩ hp
      simp only [List.map_cons, List.map_nil, List.reverse_cons, List.reverse_nil, List.nil_append, List.mem_singleton] at hp
      rw [hp, hseg]
      refine ⟨fun e0 => ?_, hpal⟩
      have := seg_len (l := L s) (i := q) (e := i + 1) (by rw [L_size]; exact hi)
      rw [e0] at this
      simp at this; omega) (by rw [List.length_append]; simp only [List.length_cons, List.length_nil]; omega)
    refine ⟨R, Ev.step (f := fun k => trim_Fewest.l2 k s f (acc ++ [s.extract q (i + 1)]) q) (fun k => ?_) h1, h2⟩
    simp only [trim_Fewest.l2]
    rw [hf, if_pos (by omega), if_pos (by omega), if_pos (by omega), if_pos (by omega), if_pos (by omega), if_pos (by omega), if_pos (by omega), Int.toNat_natCast, Int.toNat_natCast]
theorem few_l0 {s : ByteArray} (hs : s.size ≤ 1000) : ∀ (n i : Nat) (m f : List Int), i + n = s.size + 1 → 0 < i → FTab s m f i → ∃ R, Ev (fun k => trim_Fewest.l0 k s m f i) R ∧ FewAns s R
  | 0, i, m, f, h, h0, hT => by
    obtain rfl : i = s.size + 1 := by omega
    obtain ⟨R, h1, h2⟩ := few_l2 hs hT s.size s.size [] (Nat.le_refl _) (Nat.le_refl _) ⟨by simp, by rw [List.drop_of_length_le (by rw [L_size]; exact Nat.le_refl _)]; rfl⟩ (by simp)
    refine ⟨R, Ev.step (f := fun k => trim_Fewest.l2 k s f [] s.size) (fun k => ?_) h1, h2⟩
    simp only [trim_Fewest.l0]
    rw [if_neg (by omega)]
  | n + 1, i, m, f, h, h0, hT => by
    have hw : wrap64 ((i : Int) + 1) = (i : Int) + 1 := w64 (by omega)
    have hlm := hT.lm
    obtain ⟨R, h1, h2⟩ := few_l1 hs h0 (by omega) (FewAns s) (fun m f hT => few_l0 hs n (i + 1) m f (by omega) (by omega) hT) i 0 (m.set i ((i : Int) + 1)) f (by omega) (by
      have key : ∀ j : Nat, j < i → rd (m.set i ((i : Int) + 1)) (j : Int) = rd m j := fun j hj => by rw [rd_set (by omega), if_neg (by omega)]
      have ki : rd (m.set i ((i : Int) + 1)) (i : Int) = (i : Int) + 1 := by rw [rd_set (by omega), if_pos rfl]
      refine ⟨⟨by rw [List.length_set]; exact hlm, hT.lf, fun j hj => by rw [key j hj]; exact hT.le j hj, fun j hj0 hj => ?_⟩, Or.inl ki, fun q hq _ => absurd hq (by omega), by rw [ki]; exact Int.le_refl _⟩
      obtain ⟨q, h1, h2, h3, h4⟩ := hT.lk j hj0 hj
      exact ⟨q, h1, h2, h3, by rw [key j hj, key q (by omega)]; exact h4⟩)
    refine ⟨R, Ev.step (f := fun k => trim_Fewest.l1 k s (m.set i ((i : Int) + 1)) f i i ((0 : Nat) : Int)) (fun k => ?_) h1, h2⟩
    simp only [trim_Fewest.l0]
    rw [if_pos (by omega), if_pos (by omega), if_pos (by omega), hw, Int.toNat_natCast]
    rfl
theorem Fewest_ev {s : ByteArray} (h : Word s) : ∃ R, Ev (fun k => trim_Fewest.f k s) R ∧ FewAns s R := by
  have hs := h.1
  have hw : wrap64 ((s.size : Int) + 1) = ((s.size + 1 : Nat) : Int) := by rw [w64 (by omega)]; rfl
  obtain ⟨R, h1, h2⟩ := few_l0 (s := s) (by omega) s.size 1 (List.replicate (s.size + 1) 0) (List.replicate (s.size + 1) 0) (by omega) (by omega) ⟨by simp, by simp, fun j hj => by
    obtain rfl : j = 0 := by omega
    rw [rd_rep]
    exact ⟨least_nil, Int.le_refl _, Int.le_refl _⟩, fun j h0 hj => absurd hj (by omega)⟩
  obtain ⟨n, hn⟩ : ∃ n, n = s.size + 1 := ⟨_, rfl⟩
  rw [← hn] at h1 hw
  have hn2 : n ≤ 101 := by omega
  refine ⟨R, Ev.congr (fun k => ?_) h1, h2⟩
  unfold trim_Fewest.f
  rw [isWord_yes h, hw]
  simp only [Option.bind_some, Int.toNat_natCast]
  rw [if_pos trivial, if_pos (Int.natCast_nonneg n), if_pos (Nat.le_trans hn2 (by decide))]
  rfl
/-- A count, not more than one above the bound. -/
def clip (x : Nat) : Int := if x ≤ 1152921504606846976 then (x : Int) else 1152921504606846977
theorem clip_range (x : Nat) : 0 ≤ clip x ∧ clip x ≤ 1152921504606846977 := by unfold clip; split <;> omega
theorem clip_le {x : Nat} : clip x ≤ 1152921504606846976 ↔ x ≤ 1152921504606846976 := by unfold clip; split <;> omega
theorem clip_add (x y : Nat) : mn 1152921504606846977 (wrap64 (clip x + clip y)) = clip (x + y) := by
  have := clip_range x
  have := clip_range y
  rw [w64 (by omega)]
  unfold mn clip
  split <;> split <;> (try split) <;> (try split) <;> omega
theorem clip_add2 (x y : Nat) : mn (wrap64 (clip x + clip y)) 1152921504606846977 = clip (x + y) := by
  have := clip_range x
  have := clip_range y
  rw [w64 (by omega)]
  unfold mn clip
  split <;> split <;> (try split) <;> (try split) <;> omega
/-- The table: the counts of the first letters, zero behind i; at i what the parts beginning before p give. -/
structure WTab (s : ByteArray) (m : List Int) (i : Nat) (x : Nat) : Prop where
  lm : m.length = s.size + 1
  le : ∀ j : Nat, j < i → rd m j = clip (wv (L s) j)
  cur : rd m i = clip x
  zero : ∀ j : Nat, i < j → j ≤ s.size → rd m j = 0
def part (l : List UInt8) (i p : Nat) : Nat := sumTo p (fun q => E l q i * wv l q)
theorem part_succ (l : List UInt8) (i p : Nat) : part l i (p + 1) = part l i p + E l p i * wv l p := rfl
theorem WTab.done {s : ByteArray} {m : List Int} {i : Nat} (h : WTab s m (i + 1) (part (L s) (i + 1) (i + 1))) : WTab s m (i + 2) 0 ∨ i + 1 = s.size ∧ rd m (s.size : Int) = clip (wv (L s) s.size) ∨ s.size < i + 1 := by
  have hc : rd m ((i + 1 : Nat) : Int) = clip (wv (L s) (i + 1)) := by rw [h.cur, wv_succ]; rfl
  rcases Nat.lt_trichotomy (i + 1) s.size with c | c | c
  · refine Or.inl ⟨h.lm, fun j hj => ?_, by rw [h.zero (i + 2) (by omega) (by omega)]; rfl, fun j hj hz => h.zero j (by omega) hz⟩
    rcases Nat.lt_or_eq_of_le (Nat.le_of_lt_succ hj) with c2 | rfl
    · exact h.le j c2
    · exact hc
  · exact Or.inr (Or.inl ⟨c, by rw [← c]; exact hc⟩)
  · exact Or.inr (Or.inr c)
theorem WTab.put {s : ByteArray} {m : List Int} {i p : Nat} (h : WTab s m i (part (L s) i p)) (hi : i ≤ s.size) (hp : p < i) (hpal : Pal (seg (L s) p i)) {v : Int} (hv : v = clip (part (L s) i p + wv (L s) p)) : WTab s (m.set i v) i (part (L s) i (p + 1)) := by
  have hlm := h.lm
  have e : E (L s) p i = 1 := if_pos ⟨hp, hpal⟩
  refine ⟨by rw [List.length_set]; exact hlm, fun j hj => ?_, ?_, fun j hj hz => ?_⟩
  · rw [rd_set (by omega), if_neg (by omega)]; exact h.le j hj
  · rw [rd_set (by omega), if_pos rfl, hv, part_succ, e, Nat.one_mul]
  · rw [rd_set (by omega), if_neg (by omega)]; exact h.zero j hj hz
theorem WTab.skip {s : ByteArray} {m : List Int} {i p : Nat} (h : WTab s m i (part (L s) i p)) (hpal : ¬ Pal (seg (L s) p i)) : WTab s m i (part (L s) i (p + 1)) := by
  have e : E (L s) p i = 0 := if_neg (fun h => hpal h.2)
  have : part (L s) i (p + 1) = part (L s) i p := by rw [part_succ, e, Nat.zero_mul, Nat.add_zero]
  rw [this]; exact h
theorem wtab_start {s : ByteArray} {x : List Int} (hx : x = List.replicate (s.size + 1) 0) : rd (x.set 0 1) 0 = 1 ∧ (0 < s.size → WTab s (x.set 0 1) 1 0) := by
  subst hx
  have h0 := rd_set (x := List.replicate (s.size + 1) 0) (i := 0) (j := 0) (v := 1) (by simp)
  rw [if_pos rfl] at h0
  refine ⟨h0, fun hz => ⟨by simp, fun j hj => ?_, ?_, fun j hj hz => ?_⟩⟩
  · obtain rfl : j = 0 := by omega
    rw [h0]; rfl
  · rw [rd_set (by simp), if_neg (by omega), rd_rep]; rfl
  · rw [rd_set (by simp), if_neg (by omega), rd_rep]
/-- What Ways answers. -/
def waysA (s : ByteArray) : Int × Int := if wv (L s) s.size ≤ 1152921504606846976 then ((wv (L s) s.size : Int), 0) else (0, 5)
theorem ways_end {s : ByteArray} {m : List Int} {x17 x18 : Int} (hx : ¬ x18 < x17) (hlm : m.length = s.size + 1) (hv : rd m (s.size : Int) = clip (wv (L s) s.size)) : Ev (fun k => trim_Ways.l0 k s m x17 x18) (waysA s) := by
  refine Ev.step (f := fun _ => some (waysA s)) (fun k => ?_) (Ev.now _)
  simp only [trim_Ways.l0]
  rw [if_neg hx, if_pos (by omega), if_pos (by omega), hv]
  unfold waysA
  by_cases c : wv (L s) s.size ≤ 1152921504606846976
  · have := clip_le.2 c
    rw [if_neg (by omega), if_pos c]
    unfold clip; rw [if_pos c]
  · have h : ¬ clip (wv (L s) s.size) ≤ 1152921504606846976 := fun e => c (clip_le.1 e)
    rw [if_pos (by omega), if_neg c]
theorem ways_l1 {s : ByteArray} (hs : s.size ≤ 1000) {i : Nat} (hi : i + 1 ≤ s.size) (hE : ∀ m, WTab s m (i + 1) (part (L s) (i + 1) (i + 1)) → Ev (fun k => trim_Ways.l0 k s m s.size ((i + 1 : Nat) : Int)) (waysA s)) : ∀ (n p : Nat) (m : List Int), p + n = i + 1 → WTab s m (i + 1) (part (L s) (i + 1) p) → Ev (fun k => trim_Ways.l1 k s m i s.size i ((i + 1 : Nat) : Int) p) (waysA s)
  | 0, p, m, h, hT => by
    obtain rfl : p = i + 1 := by omega
    have hw : wrap64 ((i : Int) + 1) = ((i + 1 : Nat) : Int) := by rw [w64 (by omega)]; rfl
    refine Ev.step (f := fun k => trim_Ways.l0 k s m s.size ((i + 1 : Nat) : Int)) (fun k => ?_) (hE m hT)
    simp only [trim_Ways.l1]
    rw [if_neg (by omega), hw]
  | n + 1, p, m, h, hT => by
    have hw : wrap64 ((p : Int) + 1) = ((p + 1 : Nat) : Int) := by rw [w64 (by omega)]; rfl
    have hwi : wrap64 ((i : Int) + 1) = ((i + 1 : Nat) : Int) := by rw [w64 (by omega)]; rfl
    have hlm := hT.lm
    have hp : trim_isPalindrome.f (s.extract (p : Int).toNat ((i + 1 : Nat) : Int).toNat) = some (decide (Pal (seg (L s) p (i + 1)))) := by
      rw [isPal_ev (by rw [ByteArray.size_extract]; omega), Int.toNat_natCast, Int.toNat_natCast, L_extract]; rfl
    have hv : mn 1152921504606846977 (wrap64 (rd m ((i + 1 : Nat) : Int) + rd m p)) = clip (part (L s) (i + 1) p + wv (L s) p) := by
      rw [hT.cur, hT.le p (by omega), clip_add]
    have g : ∀ k, trim_Ways.l1 (k + 1) s m i s.size i ((i + 1 : Nat) : Int) p = if decide (Pal (seg (L s) p (i + 1))) = true then trim_Ways.l1 k s (m.set (i + 1) (clip (part (L s) (i + 1) p + wv (L s) p))) i s.size i ((i + 1 : Nat) : Int) ((p + 1 : Nat) : Int) else trim_Ways.l1 k s m i s.size i ((i + 1 : Nat) : Int) ((p + 1 : Nat) : Int) := by
      intro k
      simp only [trim_Ways.l1]
      rw [hwi, if_pos (by omega), if_pos (by omega), if_pos (by omega), if_pos (by omega), hp]
      simp only [Option.bind_some]
      rw [if_pos (by omega : (0 : Int) ≤ ((i + 1 : Nat) : Int)), if_pos (by omega : ((i + 1 : Nat) : Int) < (m.length : Int)), if_pos (by omega : (p : Int) < (m.length : Int)), hw, hv, Int.toNat_natCast]
    by_cases c : Pal (seg (L s) p (i + 1))
    · refine Ev.step (f := fun k => trim_Ways.l1 k s (m.set (i + 1) (clip (part (L s) (i + 1) p + wv (L s) p))) i s.size i ((i + 1 : Nat) : Int) ((p + 1 : Nat) : Int)) (fun k => ?_) (ways_l1 hs hi hE n (p + 1) _ (by omega) (hT.put hi (by omega) c rfl))
      rw [g, if_pos (decide_eq_true c)]
    · refine Ev.step (f := fun k => trim_Ways.l1 k s m i s.size i ((i + 1 : Nat) : Int) ((p + 1 : Nat) : Int)) (fun k => ?_) (ways_l1 hs hi hE n (p + 1) m (by omega) (hT.skip c))
      rw [g, if_neg (by rw [decide_eq_true_iff]; exact c)]
theorem ways_l0 {s : ByteArray} (hs : s.size ≤ 1000) : ∀ (n i : Nat) (m : List Int), i + (n + 1) = s.size → WTab s m (i + 1) 0 → Ev (fun k => trim_Ways.l0 k s m s.size i) (waysA s)
  | n, i, m, h, hT => by
    have hwi : wrap64 ((i : Int) + 1) = ((i + 1 : Nat) : Int) := by rw [w64 (by omega)]; rfl
    refine Ev.step (f := fun k => trim_Ways.l1 k s m i s.size i ((i + 1 : Nat) : Int) ((0 : Nat) : Int)) (fun k => ?_) (ways_l1 hs (by omega) (fun m' hT' => ?_) (i + 1) 0 m (by omega) hT)
    · simp only [trim_Ways.l0]
      rw [if_pos (by omega), hwi]; rfl
    · rcases hT'.done with c | c | c
      · cases n with
        | zero =>
          have := c.lm
          have hv : rd m' (s.size : Int) = clip (wv (L s) s.size) := c.le s.size (by omega)
          exact ways_end (by omega) hT'.lm hv
        | succ n => exact ways_l0 hs n (i + 1) m' (by omega) c
      · exact ways_end (by omega) hT'.lm c.2
      · omega
theorem Ways_ev {s : ByteArray} (h : Word s) : Ev (fun k => trim_Ways.f k s) (waysA s) := by
  have hs := h.1
  have hw : wrap64 ((s.size : Int) + 1) = ((s.size + 1 : Nat) : Int) := by rw [w64 (by omega)]; rfl
  obtain ⟨h0, h1⟩ := wtab_start (s := s) rfl
  obtain ⟨n, hn⟩ : ∃ n, n = s.size + 1 := ⟨_, rfl⟩
  rw [← hn] at hw
  have hn2 : n ≤ 101 := by omega
  have hlen : (0 : Int) < ((List.replicate n (0 : Int)).length : Int) := by rw [List.length_replicate]; omega
  have e : ∀ k, trim_Ways.f k s = trim_Ways.l0 k s ((List.replicate n 0).set 0 1) (s.size : Int) 0 := by
    intro k
    unfold trim_Ways.f
    rw [isWord_yes h, hw]
    simp only [Option.bind_some, Int.toNat_natCast]
    rw [if_pos trivial, if_pos (Int.natCast_nonneg n), if_pos (Nat.le_trans hn2 (by decide)), if_pos hlen]
    rfl
  refine Ev.congr e ?_
  rw [hn]
  by_cases c : s.size = 0
  · refine ways_end (by omega) (by simp) ?_
    rw [c] at h0 ⊢
    exact h0
  · exact ways_l0 (by omega) (s.size - 1) 0 _ (by omega) (h1 (by omega))
/-- Nonempty palindromes that make up the word. -/
def partsOk (w : List UInt8) : List ByteArray → Bool
  | [] => decide (w = [])
  | p :: ps => decide (p.size ≠ 0 ∧ w.take p.size = L p ∧ Pal (L p)) && partsOk (w.drop p.size) ps
theorem cut_ev (a p : ByteArray) : strings_CutPrefix.f a p = some (if (L a).take p.size = L p then (mkS ((L a).drop p.size), true) else (a, false)) := by
  unfold strings_CutPrefix.f stringslite_CutPrefix.f stringslite_HasPrefix.f
  by_cases c : (a.size : Int) ≥ (p.size : Int)
  · rw [if_pos c, if_pos (by omega), if_pos (by omega)]
    have he : (a.extract 0 ((p.size : Int)).toNat).toList = (L a).take p.size := by rw [toList_L, Int.toNat_natCast, L_to]
    rw [he, toList_L]
    simp only [Option.bind_some]
    by_cases d : (L a).take p.size = L p
    · rw [if_pos d, if_pos (by simpa using d), if_pos (by omega), if_pos (by omega)]
      simp only [Option.bind_some]
      have : a.extract ((p.size : Int)).toNat a.size = mkS ((L a).drop p.size) := L_inj (by rw [Int.toNat_natCast, L_from, L_mk])
      rw [this]
    · rw [if_neg d, if_neg (by simpa using d)]
      rfl
  · rw [if_neg c]
    have : ¬ (L a).take p.size = L p := by
      intro e
      have := congrArg List.length e
      rw [List.length_take, L_size, L_size] at this
      omega
    rw [if_neg this]
    rfl
theorem rdOf_drop {l : List ByteArray} {i : Nat} (h : i < l.length) : l.drop i = rdOf ByteArray.empty l i :: l.drop (i + 1) := by
  rw [List.drop_eq_getElem_cons h]
  congr 1
  simp [rdOf, h]
theorem check_loop {ps : List ByteArray} (hl : ps.length ≤ 101) (hp : ∀ p ∈ ps, p.size ≤ 101) : ∀ (n i : Nat) (w : List UInt8), i + n = ps.length → Ev (fun k => trim_Check.l0 k (mkS w) ps ps.length i) (if partsOk w (ps.drop i) = true then 0 else 10)
  | 0, i, w, h => by
    have hd : ps.drop i = [] := List.drop_of_length_le (by omega)
    rw [hd]
    by_cases c : w = []
    · refine Ev.step (f := fun _ => some 0) (fun k => ?_) (Ev.to (Ev.now _) (by simp [partsOk, c]))
      simp only [trim_Check.l0]
      rw [if_neg (by omega), if_pos (by rw [toList_L, L_mk]; exact c)]
    · refine Ev.step (f := fun _ => some 10) (fun k => ?_) (Ev.to (Ev.now _) (by simp [partsOk, c]))
      simp only [trim_Check.l0]
      rw [if_neg (by omega), if_neg (by rw [toList_L, L_mk]; exact c)]
  | n + 1, i, w, h => by
    have hi : i < ps.length := by omega
    obtain ⟨p, hpe⟩ : ∃ p, p = rdOf ByteArray.empty ps i := ⟨_, rfl⟩
    have hd := rdOf_drop hi
    rw [← hpe] at hd
    have hps : p.size ≤ 101 := hp p (List.mem_of_mem_drop (i := i) (by rw [hd]; exact List.mem_cons_self ..))
    have hw : wrap64 ((i : Int) + 1) = ((i + 1 : Nat) : Int) := by rw [w64 (by omega)]; rfl
    have hcut := cut_ev (mkS w) p
    rw [L_mk] at hcut
    have hpal := isPal_ev (a := p) (by omega)
    have hz : p.toList = [] ↔ p.size = 0 := by
      rw [toList_L, ← L_size]
      exact ⟨fun e => by rw [e]; rfl, fun e => List.eq_nil_of_length_eq_zero e⟩
    rw [hd]
    simp only [partsOk]
    by_cases c1 : w.take p.size = L p
    · rw [if_pos c1] at hcut
      by_cases c2 : p.size = 0
      · refine Ev.step (f := fun _ => some 10) (fun k => ?_) (Ev.to (Ev.now _) (by simp [c2]))
        simp only [trim_Check.l0]
        rw [if_pos (by omega), if_pos (by omega), if_pos (by omega), ← hpe, hcut]
        simp only [Option.bind_some]
        rw [if_pos trivial, if_pos (hz.2 c2)]
      · by_cases c3 : Pal (L p)
        · refine Ev.step (f := fun k => trim_Check.l0 k (mkS (w.drop p.size)) ps ps.length ((i + 1 : Nat) : Int)) (fun k => ?_) (Ev.to (check_loop hl hp n (i + 1) (w.drop p.size) (by omega)) (by simp [c1, c2, c3]))
          simp only [trim_Check.l0]
          rw [if_pos (by omega), if_pos (by omega), if_pos (by omega), ← hpe, hcut]
          simp only [Option.bind_some]
          rw [if_pos trivial, if_neg (fun e => c2 (hz.1 e)), hpal]
          simp only [Option.bind_some]
          rw [if_pos (by simpa using c3), hw]
        · refine Ev.step (f := fun _ => some 10) (fun k => ?_) (Ev.to (Ev.now _) (by simp [c3]))
          simp only [trim_Check.l0]
          rw [if_pos (by omega), if_pos (by omega), if_pos (by omega), ← hpe, hcut]
          simp only [Option.bind_some]
          rw [if_pos trivial, if_neg (fun e => c2 (hz.1 e)), hpal]
          simp only [Option.bind_some]
          rw [if_neg (by simpa using c3)]
    · rw [if_neg c1] at hcut
      refine Ev.step (f := fun _ => some 10) (fun k => ?_) (Ev.to (Ev.now _) (by simp [c1]))
      simp only [trim_Check.l0]
      rw [if_pos (by omega), if_pos (by omega), if_pos (by omega), ← hpe, hcut]
      simp only [Option.bind_some]
      rw [if_neg (by simp)]
theorem partsOk_of : ∀ (ps : List ByteArray) (w : List UInt8), PartsOf w (ps.map L) → partsOk w ps = true
  | [], w, h => by
    have : w = [] := h.2.symm
    simp [partsOk, this]
  | p :: ps, w, h => by
    have h1 := h.1 (L p) (by simp)
    have h2 : w = L p ++ (ps.map L).flatten := by
      have := h.2
      rw [List.map_cons, List.flatten_cons] at this
      exact this.symm
    have hl : (L p).length = p.size := L_size p
    have ht : w.take p.size = L p := by rw [h2, ← hl, List.take_left]
    have hd : w.drop p.size = (ps.map L).flatten := by rw [h2, ← hl, List.drop_left]
    have h0 : p.size ≠ 0 := fun e => h1.1 (List.eq_nil_of_length_eq_zero (by rw [hl]; exact e))
    have ih := partsOk_of ps (w.drop p.size) ⟨fun q hq => h.1 q (List.mem_cons_of_mem _ hq), by rw [hd]⟩
    simp only [partsOk, ih, Bool.and_true, decide_eq_true_iff]
    exact ⟨h0, ht, h1.2⟩
theorem parts_sizes {s : ByteArray} {ps : List ByteArray} (h : PartsOf (L s) (ps.map L)) : ∀ p ∈ ps, p.size ≤ s.size := by
  intro p hp
  have h1 : (L p).Sublist (ps.map L).flatten := List.sublist_flatten_of_mem (List.mem_map_of_mem hp)
  rw [h.2] at h1
  have := h1.length_le
  rwa [L_size, L_size] at this
theorem check_ev {s : ByteArray} (hw : Word s) {ps : List ByteArray} (hl : ps.length ≤ 101) (hp : ∀ p ∈ ps, p.size ≤ 101) : Ev (fun k => trim_Check.f k s ps) (if partsOk (L s) ps = true then 0 else 10) := by
  have h := check_loop hl hp ps.length 0 (L s) (by omega)
  rw [List.drop_zero, mk_L] at h
  unfold trim_Check.f
  rw [isWord_yes hw]
  simp only [Option.bind_some]
  exact Ev.ite_true trivial h
theorem rparts_loop {s : ByteArray} (hs : s.size ≤ 1000) {ps : List ByteArray} (hl : ps.length ≤ 101) (hp : ∀ p ∈ ps, p.size ≤ 101) : ∀ (n i x : Nat), i + n = ps.length → x ≤ s.size → Ev (fun k => galloonref01_Parts.l0 k s ps x i) (partsOk ((L s).drop x) (ps.drop i))
  | 0, i, x, h, hx => by
    have hd : ps.drop i = [] := List.drop_of_length_le (by omega)
    rw [hd]
    refine Ev.step (f := fun _ => some ((x : Int) == (s.size : Int))) (fun k => ?_) (Ev.to (Ev.now _) ?_)
    · simp only [galloonref01_Parts.l0]
      rw [if_neg (by omega)]
    · simp only [partsOk]
      rw [Bool.eq_iff_iff, beq_iff_eq, decide_eq_true_iff, List.drop_eq_nil_iff, L_size]
      omega
  | n + 1, i, x, h, hx => by
    have hi : i < ps.length := by omega
    obtain ⟨p, hpe⟩ : ∃ p, p = rdOf ByteArray.empty ps i := ⟨_, rfl⟩
    have hd := rdOf_drop hi
    rw [← hpe] at hd
    have hps : p.size ≤ 101 := hp p (List.mem_of_mem_drop (i := i) (by rw [hd]; exact List.mem_cons_self ..))
    have hw : wrap64 ((i : Int) + 1) = ((i + 1 : Nat) : Int) := by rw [w64 (by omega)]; rfl
    have hw2 : wrap64 ((s.size : Int) - x) = ((s.size - x : Nat) : Int) := by rw [w64 (by omega)]; omega
    have hw3 : wrap64 ((x : Int) + (p.size : Int)) = ((x + p.size : Nat) : Int) := by rw [w64 (by omega)]; rfl
    have hpal := rpal_ev (s := p) (by omega)
    have he : (s.extract (x : Int).toNat (((x + p.size : Nat) : Int)).toNat).toList = ((L s).drop x).take p.size := by
      rw [toList_L, L_extract, Int.toNat_natCast, Int.toNat_natCast, Nat.add_sub_cancel_left]
    rw [hd]
    simp only [partsOk]
    by_cases c2 : p.size = 0
    · refine Ev.step (f := fun _ => some false) (fun k => ?_) (Ev.to (Ev.now _) (by simp [c2]))
      simp only [galloonref01_Parts.l0]
      rw [if_pos (by omega), if_pos (by omega), ← hpe, if_pos (by omega)]
    · by_cases c4 : p.size ≤ s.size - x
      · by_cases c1 : ((L s).drop x).take p.size = L p
        · refine Ev.step (f := fun k => (galloonref01_Palindrome.f k p).bind fun t => if t = true then galloonref01_Parts.l0 k s ps ((x + p.size : Nat) : Int) ((i + 1 : Nat) : Int) else some false) (fun k => ?_) (Ev.bind hpal ?_)
          · simp only [galloonref01_Parts.l0]
            rw [if_pos (by omega), if_pos (by omega), ← hpe, if_neg (by omega), hw2, if_neg (by omega), if_pos (by omega), hw3, if_pos (by omega), if_pos (by omega), he, toList_L, if_pos c1, hw]
          · by_cases c3 : Pal (L p)
            · refine Ev.ite_true (decide_eq_true c3) (Ev.to (rparts_loop hs hl hp n (i + 1) (x + p.size) (by omega) (by omega)) ?_)
              simp [c1, c2, c3]
            · refine Ev.ite_false (by simpa using c3) (Ev.to (Ev.now _) ?_)
              simp [c3]
        · refine Ev.step (f := fun _ => some false) (fun k => ?_) (Ev.to (Ev.now _) (by simp [c1]))
          simp only [galloonref01_Parts.l0]
          rw [if_pos (by omega), if_pos (by omega), ← hpe, if_neg (by omega), hw2, if_neg (by omega), if_pos (by omega), hw3, if_pos (by omega), if_pos (by omega), he, toList_L, if_neg c1]
      · have c1 : ¬ ((L s).drop x).take p.size = L p := by
          intro e
          have := congrArg List.length e
          rw [List.length_take, List.length_drop, L_size, L_size] at this
          omega
        refine Ev.step (f := fun _ => some false) (fun k => ?_) (Ev.to (Ev.now _) (by simp [c1]))
        simp only [galloonref01_Parts.l0]
        rw [if_pos (by omega), if_pos (by omega), ← hpe, if_neg (by omega), hw2, if_pos (by omega)]
theorem rparts_ev {s : ByteArray} (hs : s.size ≤ 1000) {ps : List ByteArray} (hl : ps.length ≤ 101) (hp : ∀ p ∈ ps, p.size ≤ 101) : Ev (fun k => galloonref01_Parts.f k s ps) (partsOk (L s) ps) := by
  have h := rparts_loop hs hl hp ps.length 0 0 (by omega) (Nat.zero_le _)
  rw [List.drop_zero, List.drop_zero] at h
  exact h
structure RTab (s : ByteArray) (m : List Int) (i : Nat) : Prop where
  lm : m.length = s.size + 1
  le : ∀ j : Nat, j < i → Least ((L s).take j) (rd m j).toNat ∧ 0 ≤ rd m j ∧ rd m j ≤ j
structure RIn (s : ByteArray) (m : List Int) (i p : Nat) : Prop where
  tab : RTab s m i
  cur : rd m i = (i : Int) ∨ ∃ q : Nat, q < p ∧ Pal (seg (L s) q i) ∧ rd m i = rd m q + 1
  bnd : ∀ q : Nat, q < p → Pal (seg (L s) q i) → rd m i ≤ rd m q + 1
  top : rd m i ≤ (i : Int)
theorem RIn.done {s : ByteArray} {m : List Int} {i : Nat} (h : RIn s m i i) (h0 : 0 < i) (hi : i ≤ s.size) : RTab s m (i + 1) := by
  have hpal : Pal (seg (L s) (i - 1) i) := pal_short (by omega)
  have hb := h.bnd (i - 1) (by omega) hpal
  have hl := h.tab.le (i - 1) (by omega)
  have hc : ∃ q : Nat, q < i ∧ Pal (seg (L s) q i) ∧ rd m i = rd m q + 1 := by
    rcases h.cur with e | e
    · exact ⟨i - 1, by omega, hpal, by omega⟩
    · exact e
  refine ⟨h.tab.lm, fun j hj => ?_⟩
  rcases Nat.lt_or_eq_of_le (Nat.le_of_lt_succ hj) with c | rfl
  · exact h.tab.le j c
  · obtain ⟨q, hq, hp, hm⟩ := hc
    have hq2 := h.tab.le q hq
    refine ⟨least_step (T := fun q => (rd m q).toNat) h0 (by rw [L_size]; exact hi) (fun q hq => (h.tab.le q hq).1) ⟨q, hq, hp, by omega⟩ (fun q hq hp => ?_), by omega, by omega⟩
    have := h.bnd q hq hp
    have := h.tab.le q hq
    omega
theorem rfew_l1 {s : ByteArray} (hs : s.size ≤ 1000) {i : Nat} (h0 : 0 < i) (hi : i ≤ s.size) (P : Int → Prop) (hE : ∀ m, RTab s m (i + 1) → ∃ R, Ev (fun k => galloonref01_Fewest.l0 k s m ((i + 1 : Nat) : Int)) R ∧ P R) : ∀ (n p : Nat) (m : List Int), p + n = i → RIn s m i p → ∃ R, Ev (fun k => galloonref01_Fewest.l1 k s m i p) R ∧ P R
  | 0, p, m, h, hI => by
    obtain rfl : p = i := by omega
    obtain ⟨R, h1, h2⟩ := hE m (hI.done h0 hi)
    have hw : wrap64 ((p : Int) + 1) = ((p + 1 : Nat) : Int) := by rw [w64 (by omega)]; rfl
    refine ⟨R, Ev.step (f := fun k => galloonref01_Fewest.l0 k s m ((p + 1 : Nat) : Int)) (fun k => ?_) h1, h2⟩
    simp only [galloonref01_Fewest.l1]
    rw [if_neg (by omega), hw]
  | n + 1, p, m, h, hI => by
    have hw : wrap64 ((p : Int) + 1) = ((p + 1 : Nat) : Int) := by rw [w64 (by omega)]; rfl
    have hlm := hI.tab.lm
    have hpr := hI.tab.le p (by omega)
    have hw2 : wrap64 (rd m p + 1) = rd m p + 1 := w64 (by omega)
    have hp : Ev (fun k => galloonref01_Palindrome.f k (s.extract (p : Int).toNat (i : Int).toNat)) (decide (Pal (seg (L s) p i))) := by
      have := rpal_ev (s := s.extract (p : Int).toNat (i : Int).toNat) (by rw [ByteArray.size_extract]; omega)
      rw [Int.toNat_natCast, Int.toNat_natCast, L_extract] at this
      rw [Int.toNat_natCast, Int.toNat_natCast]
      exact this
    have g : ∀ k, galloonref01_Fewest.l1 (k + 1) s m i p = (galloonref01_Palindrome.f k (s.extract (p : Int).toNat (i : Int).toNat)).bind fun t => if t = true then galloonref01_Fewest.l1 k s (m.set i (mn (rd m i) (rd m p + 1))) i ((p + 1 : Nat) : Int) else galloonref01_Fewest.l1 k s m i ((p + 1 : Nat) : Int) := by
      intro k
      simp only [galloonref01_Fewest.l1]
      rw [if_pos (by omega), if_pos (by omega), if_pos (by omega), if_pos (by omega)]
      congr 1
      funext t
      rw [if_pos (by omega : (0 : Int) ≤ (i : Int)), if_pos (by omega : (i : Int) < (m.length : Int)), if_pos (by omega : (p : Int) < (m.length : Int)), hw, hw2, Int.toNat_natCast]
    by_cases c : Pal (seg (L s) p i)
    · have hmn : mn (rd m i) (rd m p + 1) = rd m i ∧ rd m i ≤ rd m p + 1 ∨ mn (rd m i) (rd m p + 1) = rd m p + 1 ∧ rd m p + 1 < rd m i := by
        unfold mn; split <;> omega
      obtain ⟨v, hv⟩ : ∃ v, v = mn (rd m i) (rd m p + 1) := ⟨_, rfl⟩
      rw [← hv] at g hmn
      obtain ⟨R, h1, h2⟩ := rfew_l1 hs h0 hi P hE n (p + 1) (m.set i v) (by omega) (by
        have key : ∀ j : Nat, j < i → rd (m.set i v) (j : Int) = rd m j := fun j hj => by rw [rd_set (by omega), if_neg (by omega)]
        have ki : rd (m.set i v) (i : Int) = v := by rw [rd_set (by omega), if_pos rfl]
        refine ⟨⟨by rw [List.length_set]; exact hlm, fun j hj => by rw [key j hj]; exact hI.tab.le j hj⟩, ?_, fun q hq hqp => ?_, by rw [ki]; have := hI.top; omega⟩
        · rcases hmn with ⟨e, _⟩ | ⟨e, _⟩
          · rcases hI.cur with d | ⟨q, d1, d2, d3⟩
            · left; rw [ki, e]; exact d
            · right; exact ⟨q, by omega, d2, by rw [ki, key q (by omega)]; omega⟩
          · right; exact ⟨p, by omega, c, by rw [ki, key p (by omega)]; exact e⟩
        · rw [ki, key q (by omega)]
          rcases Nat.lt_or_eq_of_le (Nat.le_of_lt_succ hq) with c3 | rfl
          · have := hI.bnd q c3 hqp; omega
          · omega)
      refine ⟨R, Ev.step g (Ev.bind hp (Ev.ite_true (decide_eq_true c) h1)), h2⟩
    · obtain ⟨R, h1, h2⟩ := rfew_l1 hs h0 hi P hE n (p + 1) m (by omega) ⟨hI.tab, by
        rcases hI.cur with e | ⟨q, h1, h2⟩
        · exact Or.inl e
        · exact Or.inr ⟨q, by omega, h2⟩, fun q hq hqp => by
        rcases Nat.lt_or_eq_of_le (Nat.le_of_lt_succ hq) with c3 | rfl
        · exact hI.bnd q c3 hqp
        · exact absurd hqp c, hI.top⟩
      exact ⟨R, Ev.step g (Ev.bind hp (Ev.ite_false (by rw [decide_eq_true_iff]; exact c) h1)), h2⟩
def LeastAns (s : ByteArray) (v : Int) : Prop := 0 ≤ v ∧ Least (L s) v.toNat
theorem rfew_l0 {s : ByteArray} (hs : s.size ≤ 1000) : ∀ (n i : Nat) (m : List Int), i + n = s.size + 1 → 0 < i → RTab s m i → ∃ R, Ev (fun k => galloonref01_Fewest.l0 k s m i) R ∧ LeastAns s R
  | 0, i, m, h, h0, hT => by
    obtain rfl : i = s.size + 1 := by omega
    have hlm := hT.lm
    have hz := hT.le s.size (by omega)
    refine ⟨rd m (s.size : Int), Ev.step (f := fun _ => some (rd m (s.size : Int))) (fun k => ?_) (Ev.now _), hz.2.1, ?_⟩
    · simp only [galloonref01_Fewest.l0]
      rw [if_neg (by omega), if_pos (by omega), if_pos (by omega)]
    · have := hz.1
      rwa [List.take_of_length_le (by rw [L_size]; exact Nat.le_refl _)] at this
  | n + 1, i, m, h, h0, hT => by
    have hlm := hT.lm
    obtain ⟨R, h1, h2⟩ := rfew_l1 hs h0 (by omega) (LeastAns s) (fun m hT => rfew_l0 hs n (i + 1) m (by omega) (by omega) hT) i 0 (m.set i (i : Int)) (by omega) (by
      have key : ∀ j : Nat, j < i → rd (m.set i (i : Int)) (j : Int) = rd m j := fun j hj => by rw [rd_set (by omega), if_neg (by omega)]
      have ki : rd (m.set i (i : Int)) (i : Int) = (i : Int) := by rw [rd_set (by omega), if_pos rfl]
      exact ⟨⟨by rw [List.length_set]; exact hlm, fun j hj => by rw [key j hj]; exact hT.le j hj⟩, Or.inl ki, fun q hq _ => absurd hq (by omega), by rw [ki]; exact Int.le_refl _⟩)
    refine ⟨R, Ev.step (f := fun k => galloonref01_Fewest.l1 k s (m.set i (i : Int)) i ((0 : Nat) : Int)) (fun k => ?_) h1, h2⟩
    simp only [galloonref01_Fewest.l0]
    rw [if_pos (by omega), if_pos (by omega), if_pos (by omega), Int.toNat_natCast]
    rfl
theorem rfew_ev {s : ByteArray} (hs : s.size ≤ 1000) : ∃ R, Ev (fun k => galloonref01_Fewest.f k s) R ∧ LeastAns s R := by
  have hw : wrap64 ((s.size : Int) + 1) = ((s.size + 1 : Nat) : Int) := by rw [w64 (by omega)]; rfl
  obtain ⟨R, h1, h2⟩ := rfew_l0 (s := s) hs s.size 1 (List.replicate (s.size + 1) 0) (by omega) (by omega) ⟨by simp, fun j hj => by
    obtain rfl : j = 0 := by omega
    rw [rd_rep]
    exact ⟨least_nil, Int.le_refl _, Int.le_refl _⟩⟩
  obtain ⟨n, hn⟩ : ∃ n, n = s.size + 1 := ⟨_, rfl⟩
  rw [← hn] at h1 hw
  have hn2 : n ≤ 1001 := by omega
  refine ⟨R, Ev.congr (fun k => ?_) h1, h2⟩
  unfold galloonref01_Fewest.f
  rw [hw, Int.toNat_natCast, if_pos (Int.natCast_nonneg n), if_pos (Nat.le_trans hn2 (by decide))]
  rfl
def rwaysA (s : ByteArray) : Int × Bool := (clip (wv (L s) s.size), decide (clip (wv (L s) s.size) ≤ 1152921504606846976))
theorem rways_end {s : ByteArray} {m : List Int} {x5 : Int} (hx : ¬ x5 ≤ (s.size : Int)) (hlm : m.length = s.size + 1) (hv : rd m (s.size : Int) = clip (wv (L s) s.size)) : Ev (fun k => galloonref01_Ways.l0 k s m x5) (rwaysA s) := by
  refine Ev.step (f := fun _ => some (rwaysA s)) (fun k => ?_) (Ev.now _)
  simp only [galloonref01_Ways.l0]
  rw [if_neg hx, if_pos (by omega), if_pos (by omega), hv]
  rfl
theorem rways_l1 {s : ByteArray} (hs : s.size ≤ 1000) {i : Nat} (hi : i ≤ s.size) (h0 : 0 < i) (hE : ∀ m, WTab s m i (part (L s) i i) → Ev (fun k => galloonref01_Ways.l0 k s m ((i + 1 : Nat) : Int)) (rwaysA s)) : ∀ (n p : Nat) (m : List Int), p + n = i → WTab s m i (part (L s) i p) → Ev (fun k => galloonref01_Ways.l1 k s m i p) (rwaysA s)
  | 0, p, m, h, hT => by
    obtain rfl : p = i := by omega
    have hw : wrap64 ((p : Int) + 1) = ((p + 1 : Nat) : Int) := by rw [w64 (by omega)]; rfl
    refine Ev.step (f := fun k => galloonref01_Ways.l0 k s m ((p + 1 : Nat) : Int)) (fun k => ?_) (hE m hT)
    simp only [galloonref01_Ways.l1]
    rw [if_neg (by omega), hw]
  | n + 1, p, m, h, hT => by
    have hw : wrap64 ((p : Int) + 1) = ((p + 1 : Nat) : Int) := by rw [w64 (by omega)]; rfl
    have hlm := hT.lm
    have hp : Ev (fun k => galloonref01_Palindrome.f k (s.extract (p : Int).toNat (i : Int).toNat)) (decide (Pal (seg (L s) p i))) := by
      have := rpal_ev (s := s.extract (p : Int).toNat (i : Int).toNat) (by rw [ByteArray.size_extract]; omega)
      rw [Int.toNat_natCast, Int.toNat_natCast, L_extract] at this
      rw [Int.toNat_natCast, Int.toNat_natCast]
      exact this
    have hv : mn (wrap64 (rd m i + rd m p)) 1152921504606846977 = clip (part (L s) i p + wv (L s) p) := by
      rw [hT.cur, hT.le p (by omega), clip_add2]
    obtain ⟨v, hv2⟩ : ∃ v, v = clip (part (L s) i p + wv (L s) p) := ⟨_, rfl⟩
    rw [← hv2] at hv
    have g : ∀ k, galloonref01_Ways.l1 (k + 1) s m i p = (galloonref01_Palindrome.f k (s.extract (p : Int).toNat (i : Int).toNat)).bind fun t => if t = true then galloonref01_Ways.l1 k s (m.set i v) i ((p + 1 : Nat) : Int) else galloonref01_Ways.l1 k s m i ((p + 1 : Nat) : Int) := by
      intro k
      simp only [galloonref01_Ways.l1]
      rw [if_pos (by omega), if_pos (by omega), if_pos (by omega), if_pos (by omega)]
      congr 1
      funext t
      rw [if_pos (by omega : (0 : Int) ≤ (i : Int)), if_pos (by omega : (i : Int) < (m.length : Int)), if_pos (by omega : (p : Int) < (m.length : Int)), hw, hv, Int.toNat_natCast]
    by_cases c : Pal (seg (L s) p i)
    · exact Ev.step g (Ev.bind hp (Ev.ite_true (decide_eq_true c) (rways_l1 hs hi h0 hE n (p + 1) _ (by omega) (hT.put hi (by omega) c hv2))))
    · exact Ev.step g (Ev.bind hp (Ev.ite_false (by rw [decide_eq_true_iff]; exact c) (rways_l1 hs hi h0 hE n (p + 1) m (by omega) (hT.skip c))))
theorem rways_l0 {s : ByteArray} (hs : s.size ≤ 1000) : ∀ (n i : Nat) (m : List Int), i + (n + 1) = s.size → WTab s m (i + 1) 0 → Ev (fun k => galloonref01_Ways.l0 k s m ((i + 1 : Nat) : Int)) (rwaysA s)
  | n, i, m, h, hT => by
    refine Ev.step (f := fun k => galloonref01_Ways.l1 k s m ((i + 1 : Nat) : Int) ((0 : Nat) : Int)) (fun k => ?_) (rways_l1 hs (by omega) (by omega) (fun m' hT' => ?_) (i + 1) 0 m (by omega) hT)
    · simp only [galloonref01_Ways.l0]
      rw [if_pos (by omega)]; rfl
    · rcases hT'.done with c | c | c
      · cases n with
        | zero =>
          have hv : rd m' (s.size : Int) = clip (wv (L s) s.size) := c.le s.size (by omega)
          exact rways_end (by omega) hT'.lm hv
        | succ n => exact rways_l0 hs n (i + 1) m' (by omega) c
      · exact rways_end (by omega) hT'.lm c.2
      · omega
theorem rways_ev {s : ByteArray} (hs : s.size ≤ 1000) : Ev (fun k => galloonref01_Ways.f k s) (rwaysA s) := by
  have hw : wrap64 ((s.size : Int) + 1) = ((s.size + 1 : Nat) : Int) := by rw [w64 (by omega)]; rfl
  obtain ⟨h0, h1⟩ := wtab_start (s := s) rfl
  obtain ⟨n, hn⟩ : ∃ n, n = s.size + 1 := ⟨_, rfl⟩
  rw [← hn] at hw
  have hn2 : n ≤ 1001 := by omega
  have hlen : (0 : Int) < ((List.replicate n (0 : Int)).length : Int) := by rw [List.length_replicate]; omega
  have e : ∀ k, galloonref01_Ways.f k s = galloonref01_Ways.l0 k s ((List.replicate n 0).set 0 1) 1 := by
    intro k
    unfold galloonref01_Ways.f
    rw [hw, Int.toNat_natCast, if_pos (Int.natCast_nonneg n), if_pos (Nat.le_trans hn2 (by decide))]
    simp only [Option.bind_some]
    rw [if_pos hlen]
    rfl
  refine Ev.congr e ?_
  rw [hn]
  by_cases c : s.size = 0
  · refine rways_end (by omega) (by simp) ?_
    rw [c] at h0 ⊢
    exact h0
  · exact rways_l0 hs (s.size - 1) 0 _ (by omega) (h1 (by omega))
theorem parts_j0 {t : ByteArray} (hs : t.size ≤ 100) : Ev (fun k => galloonlaw01_TrimParts.j0 k t (waysA t).1 (waysA t).2 false) true := by
  have hr := rways_ev (s := t) (by omega)
  refine Ev.step (f := fun k => (galloonref01_Ways.f k t).bind fun bt632 => (if bt632.2 = true then (if (waysA t).1 = bt632.1 then (if (waysA t).2 = 0 then ((galloonlaw01_awake.f k).bind fun t634 => (some t634)) else (some false)) else (some false)) else (if (waysA t).1 = 0 then (if (waysA t).2 = 5 then ((galloonlaw01_awake.f k).bind fun t635 => (some t635)) else (some false)) else (some false)))) (fun k => ?_) (Ev.bind hr ?_)
  · simp only [galloonlaw01_TrimParts.j0]
    rw [if_neg (by decide)]
  · by_cases c : wv (L t) t.size ≤ 1152921504606846976
    · have e1 : waysA t = ((wv (L t) t.size : Int), 0) := if_pos c
      have e2 : clip (wv (L t) t.size) = (wv (L t) t.size : Int) := if_pos c
      refine Ev.ite_true (decide_eq_true (clip_le.2 c)) (Ev.ite_true ?_ (Ev.ite_true (by rw [e1]) (Ev.bind awake_ev (Ev.now _))))
      rw [e1]; exact e2.symm
    · have e1 : waysA t = (0, 5) := if_neg c
      exact Ev.ite_false (by show ¬ decide _ = true; rw [decide_eq_true_iff]; exact fun h => c (clip_le.1 h)) (Ev.ite_true (by rw [e1]) (Ev.ite_true (by rw [e1]) (Ev.bind awake_ev (Ev.now _))))
theorem few_no {t : ByteArray} (c : ¬ Word t) : Ev (fun k => trim_Fewest.f k t) ([], 2) := by
  refine Ev.congr (fun k => ?_) (Ev.now ([], 2))
  unfold trim_Fewest.f
  rw [isWord_no c, Option.bind_some]
  exact if_neg (by decide)
theorem ways_no {t : ByteArray} (c : ¬ Word t) : Ev (fun k => trim_Ways.f k t) (0, 2) := by
  refine Ev.congr (fun k => ?_) (Ev.now (0, 2))
  unfold trim_Ways.f
  rw [isWord_no c, Option.bind_some]
  exact if_neg (by decide)
theorem TrimParts : galloonlaw01_TrimParts.Pure := by
  intro a0 _
  obtain ⟨t, ht, hts⟩ := short_ev a0
  have hw := rword_ev (s := t) (by omega)
  refine Ev.rounds (g := fun k => galloonlaw01_TrimParts.f k a0) ?_
  unfold galloonlaw01_TrimParts.f
  rw [ht]
  simp only [Option.bind_some]
  by_cases c : Word t
  · have hs := c.1
    obtain ⟨⟨x, xe⟩, e1, x1, x2, x3, x4⟩ := Fewest_ev c
    simp only at x1 x2 x3 x4
    subst x1
    have hps := parts_sizes x2
    have hok := partsOk_of x (L t) x2
    have hP := rparts_ev (s := t) (by omega) (ps := x) (by omega) (fun p hp => by have := hps p hp; omega)
    rw [hok] at hP
    have hC := check_ev c (ps := x) (by omega) (fun p hp => by have := hps p hp; omega)
    rw [hok, if_pos rfl] at hC
    obtain ⟨R, r1, r2, r3⟩ := rfew_ev (s := t) (by omega)
    have hxR : (x.length : Int) = R := by
      have := least_eq x3 r3
      omega
    have hW := Ways_ev c
    have hj := parts_j0 hs
    generalize waysA t = u at hW hj
    obtain ⟨n, e⟩ := u
    have hz : ((0 : Int) != 0) = false := by decide
    refine Ev.bind e1 (Ev.bind hW (Ev.bind hw (Ev.ite_true (decide_eq_true c) (Ev.ite_true rfl (Ev.bind hP (Ev.ite_true rfl (Ev.bind r1 (Ev.ite_true hxR (Ev.bind hC ?_)))))))))
    simp only [hz]
    exact hj
  · have e1 : Ev (fun k => trim_Fewest.f k t) ([], 2) := few_no c
    have e2 : Ev (fun k => trim_Ways.f k t) (0, 2) := ways_no c
    refine Ev.bind e1 (Ev.bind e2 (Ev.bind hw (Ev.ite_false (by rw [decide_eq_true_iff]; exact c) (Ev.ite_true rfl (Ev.ite_true rfl (Ev.ite_true rfl (Ev.ite_true rfl (Ev.bind awake_ev (Ev.now _)))))))))
end Go.Proofs.Ytbdlhgdfnnbjiaa.Pure
