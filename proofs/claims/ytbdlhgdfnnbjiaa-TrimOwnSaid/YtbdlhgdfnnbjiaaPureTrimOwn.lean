import Derived.Test.YtbdlhgdfnnbjiaaGOccurrences
import Derived.Test.YtbdlhgdfnnbjiaaGOrder
import Derived.Test.YtbdlhgdfnnbjiaaGParts
import Derived.Test.YtbdlhgdfnnbjiaaGSpec
import Derived.Test.YtbdlhgdfnnbjiaaGisWord
import Derived.Test.YtbdlhgdfnnbjiaaGturned
import Derived.Test.YtbdlhgdfnnbjiaaPYx1
import Derived.Test.YtbdlhgdfnnbjiaaPYx10
import Derived.Test.YtbdlhgdfnnbjiaaPYx16
import Derived.Test.YtbdlhgdfnnbjiaaPYx19
import Derived.Test.YtbdlhgdfnnbjiaaPYx20
import Derived.Test.YtbdlhgdfnnbjiaaPYx27
import Derived.Test.YtbdlhgdfnnbjiaaPYx3
import Derived.Test.YtbdlhgdfnnbjiaaPYx31
import Derived.Test.YtbdlhgdfnnbjiaaPYx32
import Derived.Test.YtbdlhgdfnnbjiaaPYx38
import Derived.Test.YtbdlhgdfnnbjiaaPYx5
import Derived.Test.YtbdlhgdfnnbjiaaPYx8
import Derived.Test.YtbdlhgdfnnbjiaaPal
import Derived.Lib.Index
import Derived.Lib.Strings
import Derived.Sort.Walk0
/-! TrimOwn: the plain law, with the plain laws that it leans on. -/
namespace Go.Proofs.Ytbdlhgdfnnbjiaa.Pure
open Go.Proofs.Ytbdlhgdfnnbjiaa.PY Go.RowKit Go.Proofs.YtbdlhgdfnnbjiaaW.PrintWords Go.Proofs.YtbdlhgdfnnbjiaaW.PrintLast Go.Proofs.YtbdlhgdfnnbjiaaW.PrintMore Go.Proofs.Ytbdlhgdfnnbjiaa.Pal
set_option linter.unusedVariables false
theorem Ev.ite_true {α : Type} {c : Prop} [Decidable c] {g f : Nat → Option α} {r : α} (hc : c) (h : Ev g r) : Ev (fun n => if c then g n else f n) r := by simpa only [if_pos hc] using h
theorem Ev.ite_false {α : Type} {c : Prop} [Decidable c] {g f : Nat → Option α} {r : α} (hc : ¬ c) (h : Ev f r) : Ev (fun n => if c then g n else f n) r := by simpa only [if_neg hc] using h
theorem Ev.to {α : Type} {g : Nat → Option α} {r s : α} (h : Ev g r) (e : r = s) : Ev g s := e ▸ h
theorem w64 {n : Int} (h : -9223372036854775808 ≤ n ∧ n ≤ 9223372036854775807) : wrap64 n = n := by unfold wrap64; omega
/-- A string's bytes, and back. -/
def L (s : ByteArray) : List UInt8 := s.data.toList
def mkS (l : List UInt8) : ByteArray := ⟨l.toArray⟩
theorem L_mk (l : List UInt8) : L (mkS l) = l := by simp [L, mkS]
theorem mk_L (s : ByteArray) : mkS (L s) = s := by simp [L, mkS]
theorem L_inj {s t : ByteArray} (h : L s = L t) : s = t := by rw [← mk_L s, ← mk_L t, h]
theorem L_size (s : ByteArray) : (L s).length = s.size := by simp [L]
theorem L_extract (s : ByteArray) (a b : Nat) : L (s.extract a b) = ((L s).drop a).take (b - a) := Lib.extract_data s a b
theorem L_from (s : ByteArray) (a : Nat) : L (s.extract a s.size) = (L s).drop a := by
  rw [L_extract, List.take_of_length_le (by rw [List.length_drop, L_size]; omega)]
theorem L_to (s : ByteArray) (b : Nat) : L (s.extract 0 b) = (L s).take b := by rw [L_extract]; simp
theorem toList_L (s : ByteArray) : s.toList = L s := ByteArray.toList_eq s
theorem bt_L {s : ByteArray} {i : Nat} (h : i < (L s).length) : bt s i = (((L s)[i]).toNat : Int) := by
  have h' : i < s.size := by rw [← L_size]; exact h
  unfold bt
  rw [dif_pos (by simpa using h')]
  simp only [Int.toNat_natCast]
  rfl
theorem turned_ev {a : ByteArray} (h : a.size ≤ 1000000) : trim_turned.f a = some (mkS (L a).reverse) := by
  unfold trim_turned.f
  rw [if_pos h]
  congr 1
  refine L_inj ?_
  rw [L_mk]
  simp only [L, strOfNums, numsOf, ← List.map_reverse, List.map_map]
  conv => rhs; rw [← List.map_id (a.data.toList.reverse)]
  refine List.map_congr_left (fun b _ => ?_)
  simp
theorem isPal_ev {a : ByteArray} (h : a.size ≤ 1000000) : trim_isPalindrome.f a = some (decide (Pal (L a))) := by
  unfold trim_isPalindrome.f
  rw [turned_ev h]
  simp only [Option.bind_some, toList_L, L_mk, Option.some.injEq]
  rw [Bool.eq_iff_iff, beq_iff_eq, decide_eq_true_iff]
  exact ⟨fun h => h.symm, fun h => h.symm⟩
theorem isWord_iff (s : ByteArray) : trim_isWord.f s = some (decide (s.size ≤ 100 ∧ ∀ c ∈ L s, 97 ≤ c.toNat ∧ c.toNat ≤ 100)) := by
  unfold trim_isWord.f
  by_cases c : (s.size : Int) ≤ 100
  · rw [if_pos c]
    congr 1
    rw [Bool.eq_iff_iff, allBytes_iff, decide_eq_true_iff]
    have e : ∀ j, j < s.size → ∀ h : j < (L s).length, s.get! j = (L s)[j] := fun j hj h => by
      simp [ByteArray.get!, L, hj]
    constructor
    · intro h
      refine ⟨by omega, fun x hx => ?_⟩
      obtain ⟨j, hj, rfl⟩ := List.getElem_of_mem hx
      have hj' : j < s.size := by rw [← L_size]; exact hj
      rw [← e j hj' hj]
      exact h j hj'
    · rintro ⟨_, h⟩ j hj
      rw [e j hj (by rw [L_size]; exact hj)]
      exact h _ (List.getElem_mem _)
  · rw [if_neg c]
    congr 1
    symm
    rw [decide_eq_false_iff_not]
    omega
theorem pal_half {l : List UInt8} : Pal l ↔ ∀ j, j < l.length / 2 → l[j]? = l[l.length - 1 - j]? := by
  constructor
  · intro h j hj
    have hr : l.reverse = l := h
    have : l.reverse[j]? = l[l.length - 1 - j]? := List.getElem?_reverse (by omega)
    rw [hr] at this
    exact this
  · intro h
    refine List.ext_getElem? (fun j => ?_)
    by_cases hj : j < l.length
    · rw [List.getElem?_reverse hj]
      by_cases h1 : j < l.length / 2
      · exact (h j h1).symm
      · by_cases h2 : l.length - 1 - j < l.length / 2
        · have := h _ h2
          rw [this]
          congr 1
          omega
        · congr 1
          omega
    · rw [List.getElem?_eq_none (by simpa using hj), List.getElem?_eq_none (by omega)]
theorem rpal_loop {s : ByteArray} (hs : s.size ≤ 1000000) : ∀ n i : Nat, s.size / 2 = i + n → Ev (fun k => galloonref01_Palindrome.l0 k s i) (decide (∀ j, j < (L s).length / 2 → i ≤ j → (L s)[j]? = (L s)[(L s).length - 1 - j]?))
  | 0, i, h => by
    have hw : wrap64 ((s.size : Int) / 2) = ((s.size / 2 : Nat) : Int) := by rw [w64 (by omega)]; omega
    refine Ev.step (f := fun _ => some true) (fun k => ?_) ?_
    · simp only [galloonref01_Palindrome.l0]; rw [hw, if_neg (by omega)]
    · refine Ev.to (Ev.now _) ?_
      symm
      rw [decide_eq_true_iff]
      intro j hj hij
      rw [L_size] at hj
      omega
  | n + 1, i, h => by
    have hw : wrap64 ((s.size : Int) / 2) = ((s.size / 2 : Nat) : Int) := by rw [w64 (by omega)]; omega
    have hw1 : wrap64 (wrap64 ((s.size : Int) - 1) - i) = ((s.size - 1 - i : Nat) : Int) := by rw [w64 (n := (s.size : Int) - 1) (by omega), w64 (by omega)]; omega
    have hw2 : wrap64 ((i : Int) + 1) = ((i + 1 : Nat) : Int) := by rw [w64 (by omega)]; rfl
    have h1 : i < (L s).length := by rw [L_size]; omega
    have h2 : s.size - 1 - i < (L s).length := by rw [L_size]; omega
    have hb1 := bt_L h1
    have hb2 := bt_L h2
    by_cases c : (L s)[i] = (L s)[s.size - 1 - i]
    · refine Ev.step (f := fun k => galloonref01_Palindrome.l0 k s ((i + 1 : Nat) : Int)) (fun k => ?_) (Ev.to (rpal_loop hs n (i + 1) (by omega)) ?_)
      · simp only [galloonref01_Palindrome.l0]
        rw [hw, hw1, if_pos (by omega), if_pos (by omega), if_pos (by omega), if_pos (by omega), if_pos (by omega), hb1, hb2, if_pos (by rw [c]), hw2]
      · rw [Bool.eq_iff_iff, decide_eq_true_iff, decide_eq_true_iff]
        constructor
        · intro hh j hj hij
          by_cases e : j = i
          · subst e
            rw [L_size, List.getElem?_eq_getElem h1, List.getElem?_eq_getElem h2, c]
          · exact hh j hj (by omega)
        · intro hh j hj hij
          exact hh j hj (by omega)
    · refine Ev.step (f := fun _ => some false) (fun k => ?_) (Ev.to (Ev.now _) ?_)
      · simp only [galloonref01_Palindrome.l0]
        rw [hw, hw1, if_pos (by omega), if_pos (by omega), if_pos (by omega), if_pos (by omega), if_pos (by omega), hb1, hb2, if_neg]
        intro e
        exact c (UInt8.toNat_inj.1 (by omega))
      · symm
        rw [decide_eq_false_iff_not]
        intro hh
        have := hh i (by rw [L_size]; omega) (Nat.le_refl _)
        rw [L_size, List.getElem?_eq_getElem h1, List.getElem?_eq_getElem h2] at this
        exact c (Option.some.inj this)
theorem rpal_ev {s : ByteArray} (hs : s.size ≤ 1000000) : Ev (fun k => galloonref01_Palindrome.f k s) (decide (Pal (L s))) := by
  refine Ev.to (rpal_loop hs (s.size / 2) 0 (by omega)) ?_
  rw [Bool.eq_iff_iff, decide_eq_true_iff, decide_eq_true_iff, pal_half]
  exact ⟨fun h j hj => h j hj (Nat.zero_le _), fun h j hj _ => h j hj⟩
theorem ints_loop {l : List Int} (hl : l.length ≤ 1000000000) : ∀ n i : Nat, i + n = l.length → Ev (fun k => galloonlaw01_ints.l0 k l l i) true
  | 0, i, h => by
    refine Ev.step (f := fun _ => some true) (fun k => ?_) (Ev.now _)
    simp only [galloonlaw01_ints.l0]; rw [if_neg (by omega)]
  | n + 1, i, h => by
    have hw2 : wrap64 ((i : Int) + 1) = ((i + 1 : Nat) : Int) := by rw [w64 (by omega)]; rfl
    refine Ev.step (f := fun k => galloonlaw01_ints.l0 k l l ((i + 1 : Nat) : Int)) (fun k => ?_) (ints_loop hl n (i + 1) (by omega))
    simp only [galloonlaw01_ints.l0]; rw [if_pos (by omega), if_pos (by omega), if_pos (by omega), if_pos trivial, hw2]
theorem ints_ev {l : List Int} (hl : l.length ≤ 1000000000) : Ev (fun k => galloonlaw01_ints.f k l l) true := by
  unfold galloonlaw01_ints.f
  exact Ev.ite_true rfl (ints_loop hl l.length 0 (by omega))
theorem awake_ev : Ev (fun k => galloonlaw01_awake.f k) true := Ev.of galloonlaw01_awake.mono (k := 60) (by decide +kernel)
def Word (s : ByteArray) : Prop := s.size ≤ 100 ∧ ∀ c ∈ L s, 97 ≤ c.toNat ∧ c.toNat ≤ 100
theorem isWord_yes {s : ByteArray} (h : Word s) : trim_isWord.f s = some true := by rw [isWord_iff]; exact congrArg some (decide_eq_true h)
/-- The letters from i up to e. -/
def seg (l : List UInt8) (i e : Nat) : List UInt8 := (l.drop i).take (e - i)
theorem seg_len {l : List UInt8} {i e : Nat} (h : e ≤ l.length) : (seg l i e).length = e - i := by
  unfold seg; rw [List.length_take, List.length_drop]; omega
theorem seg_ends {l : List UInt8} {i e : Nat} (h : i + 2 ≤ e) (he : e ≤ l.length) : seg l i e = l[i]'(by omega) :: (seg l (i + 1) (e - 1) ++ [l[e - 1]'(by omega)]) := by
  refine List.ext_getElem? (fun t => ?_)
  unfold seg
  cases t with
  | zero =>
    rw [List.getElem?_take_of_lt (by omega), List.getElem?_drop, List.getElem?_cons_zero, Nat.add_zero, List.getElem?_eq_getElem]
  | succ t =>
    rw [List.getElem?_cons_succ]
    by_cases c : t < e - 1 - (i + 1)
    · rw [List.getElem?_append_left (by rw [List.length_take, List.length_drop]; omega), List.getElem?_take_of_lt (by omega), List.getElem?_take_of_lt c, List.getElem?_drop, List.getElem?_drop]
      congr 1; omega
    · by_cases c2 : t = e - 1 - (i + 1)
      · rw [List.getElem?_append_right (by rw [List.length_take, List.length_drop]; omega), List.getElem?_take_of_lt (by omega), List.getElem?_drop, List.length_take, List.length_drop, show i + (t + 1) = e - 1 by omega, show t - min (e - 1 - (i + 1)) (l.length - (i + 1)) = 0 by omega, List.getElem?_cons_zero, List.getElem?_eq_getElem]
      · rw [List.getElem?_eq_none (by rw [List.length_take, List.length_drop]; omega), List.getElem?_eq_none (by rw [List.length_append, List.length_take, List.length_drop]; simp; omega)]
theorem seg_step {l : List UInt8} {i e : Nat} (h : i + 2 ≤ e) (he : e ≤ l.length) : Pal (seg l i e) ↔ l[i]'(by omega) = l[e - 1]'(by omega) ∧ Pal (seg l (i + 1) (e - 1)) := by
  rw [seg_ends h he]
  constructor
  · intro hp
    have h1 : (l[i]'(by omega) :: (seg l (i + 1) (e - 1) ++ [l[e - 1]'(by omega)])).reverse = _ := hp
    rw [List.reverse_cons, List.reverse_append, List.reverse_singleton, List.singleton_append, List.cons_append] at h1
    have h2 := (List.cons.inj h1).1
    refine ⟨h2.symm, ?_⟩
    rw [h2] at hp
    exact pal_cons_snoc.1 hp
  · rintro ⟨h1, h2⟩
    rw [h1]
    exact pal_cons_snoc.2 h2
theorem pal_inner {l : List UInt8} : ∀ (d i e : Nat), e ≤ l.length → i + d ≤ e - d → d ≤ e → Pal (seg l i e) → Pal (seg l (i + d) (e - d))
  | 0, i, e, _, _, _, h => h
  | d + 1, i, e, he, hd, hde, h => by
    by_cases c : i + 2 ≤ e
    · have := pal_inner d (i + 1) (e - 1) (by omega) (by omega) (by omega) ((seg_step c he).1 h).2
      rw [show i + 1 + d = i + (d + 1) by omega, show e - 1 - d = e - (d + 1) by omega] at this
      exact this
    · omega
theorem pal_short {l : List UInt8} {i e : Nat} (h : e ≤ i + 1) : Pal (seg l i e) := by
  have hl : (seg l i e).length ≤ 1 := by unfold seg; rw [List.length_take]; omega
  rcases hs : seg l i e with _ | ⟨x, _ | ⟨y, t⟩⟩
  · exact pal_nil
  · exact pal_one x
  · rw [hs] at hl; simp at hl
theorem cenL_loop {s : ByteArray} (hs : s.size ≤ 100) : ∀ (k i e : Nat), i + 1 ≤ k → i ≤ e → e ≤ s.size → Pal (seg (L s) i e) →
    ∃ i0 e0 : Nat, trim_centered.l0 k s i ((e : Int) - 1) = some ((e0 : Int) - i0) ∧ i0 + e0 = i + e ∧ i0 ≤ i ∧ e0 ≤ s.size ∧ Pal (seg (L s) i0 e0) ∧ ∀ i' e', i' + e' = i + e → i' < i0 → e' ≤ s.size → ¬ Pal (seg (L s) i' e')
  | 0, i, e, h, _, _, _ => by omega
  | k + 1, i, e, h, hie, he, hp => by
    have hw1 : wrap64 ((e : Int) - 1 + 1) = (e : Int) := by rw [w64 (by omega)]; omega
    have hw3 : wrap64 (wrap64 ((e : Int) - 1 - i) + 1) = (e : Int) - i := by rw [w64 (n := (e : Int) - 1 - i) (by omega), w64 (by omega)]; omega
    by_cases c1 : 0 < i
    · have hw2 : wrap64 ((i : Int) - 1) = ((i - 1 : Nat) : Int) := by rw [w64 (by omega)]; omega
      by_cases c2 : e < s.size
      · have h1 : i - 1 < (L s).length := by rw [L_size]; omega
        have h2 : e < (L s).length := by rw [L_size]; omega
        have hb1 := bt_L h1
        have hb2 := bt_L h2
        have hst : Pal (seg (L s) (i - 1) (e + 1)) ↔ (L s)[i - 1] = (L s)[e] ∧ Pal (seg (L s) (i - 1 + 1) e) := seg_step (l := L s) (i := i - 1) (e := e + 1) (by omega) (by omega)
        rw [show i - 1 + 1 = i by omega] at hst
        by_cases c3 : (L s)[i - 1] = (L s)[e]
        · obtain ⟨i0, e0, q1, q2, q3, q4, q5, q6⟩ := cenL_loop hs k (i - 1) (e + 1) (by omega) (by omega) (by omega) (hst.2 ⟨c3, hp⟩)
          refine ⟨i0, e0, ?_, by omega, by omega, q4, q5, fun i' e' a b d => q6 i' e' (by omega) b d⟩
          rw [← q1]
          conv => lhs; unfold trim_centered.l0
          rw [hw1, hw2, if_pos (by omega), if_pos (by omega), if_pos (by omega), if_pos (by omega), if_pos (by omega), hb1, hb2, if_pos (by rw [c3]), show ((e + 1 : Nat) : Int) - 1 = (e : Int) by omega]
        · refine ⟨i, e, ?_, rfl, Nat.le_refl _, he, hp, fun i' e' a b d hpal => ?_⟩
          · unfold trim_centered.l0
            rw [hw1, hw2, hw3, if_pos (by omega), if_pos (by omega), if_pos (by omega), if_pos (by omega), if_pos (by omega), hb1, hb2, if_neg (fun e => c3 (UInt8.toNat_inj.1 (by omega)))]
          · have := pal_inner (i - 1 - i') i' e' (by rw [L_size]; exact d) (by omega) (by omega) hpal
            rw [show i' + (i - 1 - i') = i - 1 by omega, show e' - (i - 1 - i') = e + 1 by omega] at this
            exact c3 (hst.1 this).1
      · refine ⟨i, e, ?_, rfl, Nat.le_refl _, he, hp, fun i' e' a b d => by omega⟩
        unfold trim_centered.l0
        rw [hw1, hw3, if_pos (by omega), if_neg (by omega)]
    · refine ⟨i, e, ?_, rfl, Nat.le_refl _, he, hp, fun i' e' a b d => by omega⟩
      unfold trim_centered.l0
      rw [hw3, if_neg (by omega)]
/-- What stands at a center. -/
theorem cen_spec {s : ByteArray} (hs : s.size ≤ 100) {c : Nat} (hc : c + 1 < 2 * s.size) :
    ∃ i0 e0 : Nat, trim_centered.f 200 s c = some ((e0 : Int) - i0) ∧ i0 + e0 = c + 1 ∧ i0 ≤ e0 ∧ e0 ≤ s.size ∧ Pal (seg (L s) i0 e0) ∧ ∀ i' e', i' + e' = c + 1 → i' < i0 → e' ≤ s.size → ¬ Pal (seg (L s) i' e') := by
  have hw1 : wrap64 (Int.tdiv (wrap64 ((c : Int) + 1)) 2) = (((c + 1) / 2 : Nat) : Int) := by
    rw [w64 (n := (c : Int) + 1) (by omega), Int.tdiv_eq_ediv_of_nonneg (by omega), w64 (by omega)]; omega
  have hw2 : wrap64 (Int.tdiv (c : Int) 2) = (((c / 2 + 1 : Nat) : Int)) - 1 := by
    rw [Int.tdiv_eq_ediv_of_nonneg (by omega), w64 (by omega)]; omega
  obtain ⟨i0, e0, q1, q2, q3, q4, q5, q6⟩ := cenL_loop hs 200 ((c + 1) / 2) (c / 2 + 1) (by omega) (by omega) (by omega) (pal_short (by omega))
  refine ⟨i0, e0, ?_, by omega, by omega, q4, q5, fun i' e' a b d => q6 i' e' (by omega) b d⟩
  unfold trim_centered.f
  rw [hw1, hw2]
  exact q1
theorem seg_L (s : ByteArray) (a b : Nat) : L (s.extract a b) = seg (L s) a b := L_extract s a b
theorem mem_partsC {s : ByteArray} {c : Nat} : ∀ (k i0 e0 : Nat) (t : Int × ByteArray), i0 + e0 = c + 1 → (t ∈ partsC s c k ((e0 : Int) - i0) ↔ ∃ d : Nat, d < k ∧ i0 + d + d < e0 ∧ t = (((i0 + d : Nat) : Int), s.extract (i0 + d) (e0 - d)))
  | 0, i0, e0, t, h => by
    simp [partsC]
  | k + 1, i0, e0, t, h => by
    by_cases c1 : (0 : Int) < (e0 : Int) - i0
    · have hp : ((c : Int) + 1 - ((e0 : Int) - i0)) / 2 = (i0 : Int) := by omega
      have hq : ((i0 : Int) + ((e0 : Int) - i0)).toNat = e0 := by omega
      rw [partsC_pos s c k _ c1, hp, hq, Int.toNat_natCast, List.mem_cons]
      by_cases c2 : i0 + 2 ≤ e0
      · have e : (e0 : Int) - i0 - 2 = ((e0 - 1 : Nat) : Int) - ((i0 + 1 : Nat) : Int) := by omega
        rw [e, mem_partsC k (i0 + 1) (e0 - 1) t (by omega)]
        constructor
        · rintro (rfl | ⟨d, h1, h2, rfl⟩)
          · exact ⟨0, by omega, by omega, rfl⟩
          · refine ⟨d + 1, by omega, by omega, ?_⟩
            rw [show i0 + 1 + d = i0 + (d + 1) by omega, show e0 - 1 - d = e0 - (d + 1) by omega]
        · rintro ⟨d, h1, h2, rfl⟩
          cases d with
          | zero => exact Or.inl rfl
          | succ d =>
            refine Or.inr ⟨d, by omega, by omega, ?_⟩
            rw [show i0 + 1 + d = i0 + (d + 1) by omega, show e0 - 1 - d = e0 - (d + 1) by omega]
      · rw [partsC_neg s c k _ (by omega)]
        constructor
        · rintro (rfl | h1)
          · exact ⟨0, by omega, by omega, rfl⟩
          · cases h1
        · rintro ⟨d, h1, h2, rfl⟩
          obtain rfl : d = 0 := by omega
          exact Or.inl rfl
    · rw [partsC_neg s c _ _ c1]
      constructor
      · intro h1; cases h1
      · rintro ⟨d, h1, h2, _⟩; omega
/-- A palindrome within a word, and its place. -/
def IsPalAt (s : ByteArray) (a b : Nat) : Prop := a < b ∧ b ≤ s.size ∧ Pal (seg (L s) a b)
theorem mem_partsL {s : ByteArray} (hs : s.size ≤ 100) (t : Int × ByteArray) : t ∈ partsL s ↔ ∃ a b : Nat, IsPalAt s a b ∧ t = ((a : Int), s.extract a b) := by
  unfold partsL partsU
  rw [List.mem_flatMap]
  constructor
  · rintro ⟨c, hc, ht⟩
    rw [List.mem_range] at hc
    obtain ⟨i0, e0, q1, q2, q3, q4, q5, q6⟩ := cen_spec hs (c := c) (by omega)
    have hcen : cen s c = (e0 : Int) - i0 := by unfold cen; rw [q1]; rfl
    rw [hcen, mem_partsC 101 i0 e0 t q2] at ht
    obtain ⟨d, h1, h2, rfl⟩ := ht
    exact ⟨i0 + d, e0 - d, ⟨by omega, by omega, pal_inner d i0 e0 (by rw [L_size]; exact q4) (by omega) (by omega) q5⟩, rfl⟩
  · rintro ⟨a, b, ⟨h1, h2, h3⟩, rfl⟩
    obtain ⟨i0, e0, q1, q2, q3, q4, q5, q6⟩ := cen_spec hs (c := a + b - 1) (by omega)
    have hcen : cen s (a + b - 1) = (e0 : Int) - i0 := by unfold cen; rw [q1]; rfl
    refine ⟨a + b - 1, by rw [List.mem_range]; omega, ?_⟩
    have hai : i0 ≤ a := by
      rcases Nat.lt_or_ge a i0 with h | h
      · exact absurd h3 (q6 a b (by omega) h h2)
      · exact h
    rw [hcen, mem_partsC 101 i0 e0 _ q2]
    exact ⟨a - i0, by omega, by omega, by rw [show i0 + (a - i0) = a by omega, show e0 - (a - i0) = b by omega]⟩
theorem palSpec_iff {s : ByteArray} (hs : s.size ≤ 100) (y : ByteArray) : y ∈ palSpec s ↔ ∃ a b : Nat, IsPalAt s a b ∧ y = s.extract a b := by
  rw [palSpec_mem]
  constructor
  · rintro ⟨t, ht, rfl⟩
    obtain ⟨a, b, h, rfl⟩ := (mem_partsL hs t).1 ht
    exact ⟨a, b, h, rfl⟩
  · rintro ⟨a, b, h, rfl⟩
    exact ⟨((a : Int), s.extract a b), (mem_partsL hs _).2 ⟨a, b, h, rfl⟩, rfl⟩
theorem ltP_irrefl (x : ByteArray) : ¬ ltP x x = true := fun h => ltL_irrefl _ (ltP_iff.1 h)
theorem sorted_eq : ∀ l1 l2 : List ByteArray, l1.Pairwise (fun a b => ltP a b = true) → l2.Pairwise (fun a b => ltP a b = true) → (∀ y, y ∈ l1 ↔ y ∈ l2) → l1 = l2
  | [], [], _, _, _ => rfl
  | [], y :: l2, _, _, h => absurd ((h y).2 (List.mem_cons_self ..)) (by simp)
  | x :: l1, [], _, _, h => absurd ((h x).1 (List.mem_cons_self ..)) (by simp)
  | x :: l1, y :: l2, h1, h2, h => by
    obtain ⟨a1, b1⟩ := List.pairwise_cons.1 h1
    obtain ⟨a2, b2⟩ := List.pairwise_cons.1 h2
    have hxy : x = y := by
      rcases List.mem_cons.1 ((h x).1 (List.mem_cons_self ..)) with e | e
      · exact e
      · rcases List.mem_cons.1 ((h y).2 (List.mem_cons_self ..)) with e2 | e2
        · exact e2.symm
        · exact absurd (ltP_trans (a1 y e2) (a2 x e)) (ltP_irrefl x)
    subst hxy
    congr 1
    refine sorted_eq l1 l2 b1 b2 (fun z => ⟨fun hz => ?_, fun hz => ?_⟩)
    · rcases List.mem_cons.1 ((h z).1 (List.mem_cons_of_mem _ hz)) with e | e
      · exact absurd (e ▸ a1 z hz) (ltP_irrefl z)
      · exact e
    · rcases List.mem_cons.1 ((h z).2 (List.mem_cons_of_mem _ hz)) with e | e
      · exact absurd (e ▸ a2 z hz) (ltP_irrefl z)
      · exact e
theorem insP_len (x : ByteArray) : ∀ l, (insP x l).length ≤ l.length + 1
  | [] => Nat.le_refl _
  | y :: l => by
    have := insP_len x l
    unfold insP
    split
    · simp
    · split <;> simp <;> omega
theorem ltP_of {x y : ByteArray} : ltP x y = true ↔ x.size < y.size ∨ (x.size = y.size ∧ Op.bytesLess x.toList y.toList = true) := by
  unfold ltP
  rw [bytesLess_eq, toList_L, toList_L]
  simp [L]
theorem insert_loop {l : List ByteArray} (x : ByteArray) (hl : l.length ≤ 100000) : ∀ n i : Nat, i + n = l.length → Ev (fun k => galloonref01_insert.l0 k l x i) (l.take i ++ insP x (l.drop i))
  | 0, i, h => by
    have hd : l.drop i = [] := List.drop_of_length_le (by omega)
    have ht : l.take i = l := List.take_of_length_le (by omega)
    rw [hd, ht]
    refine Ev.step (f := fun _ => some (l ++ [x])) (fun k => ?_) (Ev.now _)
    simp only [galloonref01_insert.l0]
    rw [if_neg (by omega), if_pos (by omega), if_pos (by omega)]
    simp only [Option.bind_some, Int.toNat_natCast, hd, ht, List.length_nil, List.nil_append, List.append_nil]
    rw [if_pos (by omega), if_pos (by omega), if_pos (by simp; omega)]
  | n + 1, i, h => by
    have hi : i < l.length := by omega
    have hw : wrap64 ((i : Int) + 1) = ((i + 1 : Nat) : Int) := by rw [w64 (by omega)]; rfl
    obtain ⟨y, hy⟩ : ∃ y, y = rdOf ByteArray.empty l i := ⟨_, rfl⟩
    have hyl : y = l[i] := by rw [hy]; simp [rdOf, hi]
    have hd : l.drop i = y :: l.drop (i + 1) := by rw [hyl]; exact List.drop_eq_getElem_cons hi
    have ht : l.take (i + 1) = l.take i ++ [y] := by rw [List.take_add_one, List.getElem?_eq_getElem hi, hyl]; rfl
    have hyx : y.toList = x.toList ↔ y = x := ⟨fun e => L_inj (by rw [toList_L, toList_L] at e; exact e), fun e => by rw [e]⟩
    by_cases c1 : ltP y x = true
    · have c2 : ¬ ltP x y = true := fun e => ltP_irrefl x (ltP_trans e c1)
      have ih := insert_loop x hl n (i + 1) (by omega)
      refine Ev.step (f := fun k => galloonref01_insert.l0 k l x ((i + 1 : Nat) : Int)) (fun k => ?_) (Ev.to ih ?_)
      · rcases ltP_of.1 c1 with d | ⟨d1, d2⟩
        · simp only [galloonref01_insert.l0]
          rw [if_pos (by omega), if_pos (by omega), ← hy, if_pos (by omega), hw]
        · simp only [galloonref01_insert.l0]
          rw [if_pos (by omega), if_pos (by omega), ← hy, if_neg (by omega), if_pos (by omega), if_pos d2, hw]
      · rw [hd, ht]
        conv => rhs; unfold insP
        rw [if_neg c2, if_pos c1, List.append_assoc]
        rfl
    · have c3 : ¬ y.size < x.size := fun e => c1 (ltP_of.2 (Or.inl e))
      by_cases c4 : y = x
      · have c2 : ¬ ltP x y = true := by rw [c4]; exact ltP_irrefl x
        refine Ev.step (f := fun _ => some l) (fun k => ?_) (Ev.to (Ev.now _) ?_)
        · have c5 : ¬ Op.bytesLess y.toList x.toList = true := fun e => c1 (ltP_of.2 (Or.inr ⟨by rw [c4], e⟩))
          simp only [galloonref01_insert.l0]
          rw [if_pos (by omega), if_pos (by omega), ← hy, if_neg (by omega), if_pos (by rw [c4]), if_neg c5, if_pos (hyx.2 c4)]
        · rw [hd]
          conv => rhs; unfold insP
          rw [if_neg c2, if_neg c1, ← hd, List.take_append_drop]
      · have c2 : ltP x y = true := by
          rcases Bool.eq_false_or_eq_true (ltP x y) with e | e
          · exact e
          · exact absurd (ltP_tri (by rw [e]; simp) c1).symm c4
        refine Ev.step (f := fun _ => some (l.take i ++ (x :: l.drop i))) (fun k => ?_) (Ev.to (Ev.now _) ?_)
        · have hlen : (l.take i).length = i := by rw [List.length_take]; omega
          by_cases c6 : y.size = x.size
          · have c5 : ¬ Op.bytesLess y.toList x.toList = true := fun e => c1 (ltP_of.2 (Or.inr ⟨c6, e⟩))
            simp only [galloonref01_insert.l0]
            rw [if_pos (by omega), if_pos (by omega), ← hy, if_neg (by omega), if_pos (by omega), if_neg c5, if_neg (fun e => c4 (hyx.1 e)), if_pos (by omega)]
            simp only [Option.bind_some, Int.toNat_natCast, List.length_nil, List.nil_append]
            rw [if_pos (by omega), if_pos (by omega), if_pos (by rw [List.length_append, List.length_drop]; simp; omega), List.append_assoc]
            rfl
          · simp only [galloonref01_insert.l0]
            rw [if_pos (by omega), if_pos (by omega), ← hy, if_neg (by omega), if_neg (by omega), if_neg (fun e => c4 (hyx.1 e)), if_pos (by omega)]
            simp only [Option.bind_some, Int.toNat_natCast, List.length_nil, List.nil_append]
            rw [if_pos (by omega), if_pos (by omega), if_pos (by rw [List.length_append, List.length_drop]; simp; omega), List.append_assoc]
            rfl
        · rw [hd]
          conv => rhs; unfold insP
          rw [if_pos c2]
theorem insert_ev {l : List ByteArray} (x : ByteArray) (hl : l.length ≤ 100000) : Ev (fun k => galloonref01_insert.f k l x) (insP x l) := insert_loop x hl l.length 0 (by omega)
structure Inv (s : ByteArray) (l : List ByteArray) (a0 b0 m : Nat) : Prop where
  S : l.Pairwise (fun a b => ltP a b = true)
  M : ∀ y, y ∈ l ↔ ∃ a b, IsPalAt s a b ∧ (a < a0 ∨ (a = a0 ∧ b < b0)) ∧ y = s.extract a b
  K : l.length ≤ m
theorem rpals_l1 {s : ByteArray} (hs : s.size ≤ 100) {a : Nat} (ha : a < s.size) (R : List ByteArray) : ∀ (n b m : Nat) (l : List ByteArray), b + n = s.size + 1 → a + 1 ≤ b → Inv s l a b m → m + n ≤ 100000 → (∀ l', Inv s l' (a + 1) 0 (m + n) → Ev (fun k => galloonref01_Palindromes.l0 k s l' ((a + 1 : Nat) : Int)) R) → Ev (fun k => galloonref01_Palindromes.l1 k s l a b) R
  | 0, b, m, l, h, hab, hI, hm, hE => by
    have hw : wrap64 ((a : Int) + 1) = ((a + 1 : Nat) : Int) := by rw [w64 (by omega)]; rfl
    refine Ev.step (f := fun k => galloonref01_Palindromes.l0 k s l ((a + 1 : Nat) : Int)) (fun k => ?_) (hE l ⟨hI.S, fun y => ?_, hI.K⟩)
    · simp only [galloonref01_Palindromes.l1]
      rw [if_neg (by omega), hw]
    · rw [hI.M]
      constructor
      · rintro ⟨p, q, h1, h2, h3⟩
        exact ⟨p, q, h1, by omega, h3⟩
      · rintro ⟨p, q, h1, h2, h3⟩
        have := h1.2.1
        exact ⟨p, q, h1, by omega, h3⟩
  | n + 1, b, m, l, h, hab, hI, hm, hE => by
    have hw : wrap64 ((b : Int) + 1) = ((b + 1 : Nat) : Int) := by rw [w64 (by omega)]; rfl
    have hx : L (s.extract (a : Int).toNat (b : Int).toNat) = seg (L s) a b := by rw [Int.toNat_natCast, Int.toNat_natCast, seg_L]
    have hp : Ev (fun k => galloonref01_Palindrome.f k (s.extract (a : Int).toNat (b : Int).toNat)) (decide (Pal (seg (L s) a b))) := by
      rw [← hx]; exact rpal_ev (by rw [ByteArray.size_extract]; omega)
    refine Ev.step (f := fun k => (galloonref01_Palindrome.f k (s.extract (a : Int).toNat (b : Int).toNat)).bind fun t => if t = true then ((galloonref01_insert.f k l (s.extract (a : Int).toNat (b : Int).toNat)).bind fun t291 => galloonref01_Palindromes.l1 k s t291 a ((b + 1 : Nat) : Int)) else galloonref01_Palindromes.l1 k s l a ((b + 1 : Nat) : Int)) (fun k => ?_) (Ev.bind hp ?_)
    · simp only [galloonref01_Palindromes.l1]
      rw [if_pos (by omega), if_pos (by omega), if_pos (by omega), hw]
    · by_cases c : Pal (seg (L s) a b)
      · refine Ev.ite_true (decide_eq_true c) (Ev.bind (insert_ev _ (by have := hI.K; omega)) ?_)
        rw [Int.toNat_natCast, Int.toNat_natCast]
        have hl := insP_len (s.extract a b) l
        refine rpals_l1 hs ha R n (b + 1) (m + 1) _ (by omega) (by omega) ⟨insP_sorted _ _ hI.S, fun y => ?_, by have := hI.K; omega⟩ (by omega) (fun l' hl' => hE l' ⟨hl'.S, hl'.M, by have := hl'.K; omega⟩)
        rw [insP_mem, hI.M]
        constructor
        · rintro (rfl | ⟨p, q, h1, h2, h3⟩)
          · exact ⟨a, b, ⟨by omega, by omega, c⟩, by omega, rfl⟩
          · exact ⟨p, q, h1, by omega, h3⟩
        · rintro ⟨p, q, h1, h2, h3⟩
          by_cases e : p = a ∧ q = b
          · obtain ⟨rfl, rfl⟩ := e
            exact Or.inl h3
          · exact Or.inr ⟨p, q, h1, by omega, h3⟩
      · refine Ev.ite_false (by simpa using c) ?_
        refine rpals_l1 hs ha R n (b + 1) m l (by omega) (by omega) ⟨hI.S, fun y => ?_, hI.K⟩ (by omega) (fun l' hl' => hE l' ⟨hl'.S, hl'.M, by have := hl'.K; omega⟩)
        rw [hI.M]
        constructor
        · rintro ⟨p, q, h1, h2, h3⟩
          exact ⟨p, q, h1, by omega, h3⟩
        · rintro ⟨p, q, h1, h2, h3⟩
          by_cases e : p = a ∧ q = b
          · obtain ⟨rfl, rfl⟩ := e
            exact absurd h1.2.2 c
          · exact ⟨p, q, h1, by omega, h3⟩
theorem rpals_l0 {s : ByteArray} (hs : s.size ≤ 100) : ∀ (n a : Nat) (l : List ByteArray), a + n = s.size → Inv s l a 0 (a * 101) → Ev (fun k => galloonref01_Palindromes.l0 k s l a) (palSpec s)
  | 0, a, l, h, hI => by
    refine Ev.step (f := fun _ => some l) (fun k => ?_) (Ev.to (Ev.now _) (sorted_eq _ _ hI.S (palSpec_sorted s) (fun y => ?_)))
    · simp only [galloonref01_Palindromes.l0]
      rw [if_neg (by omega)]
    · rw [hI.M, palSpec_iff hs]
      constructor
      · rintro ⟨p, q, h1, h2, h3⟩
        exact ⟨p, q, h1, h3⟩
      · rintro ⟨p, q, h1, h3⟩
        have := h1.1
        have := h1.2.1
        exact ⟨p, q, h1, by omega, h3⟩
  | n + 1, a, l, h, hI => by
    have hw : wrap64 ((a : Int) + 1) = ((a + 1 : Nat) : Int) := by rw [w64 (by omega)]; rfl
    refine Ev.step (f := fun k => galloonref01_Palindromes.l1 k s l a ((a + 1 : Nat) : Int)) (fun k => ?_) (rpals_l1 hs (by omega) _ (s.size - a) (a + 1) (a * 101) l (by omega) (Nat.le_refl _) ⟨hI.S, fun y => ?_, hI.K⟩ (by omega) (fun l' hl' => rpals_l0 hs n (a + 1) l' (by omega) ⟨hl'.S, hl'.M, by have := hl'.K; omega⟩))
    · simp only [galloonref01_Palindromes.l0]
      rw [if_pos (by omega), hw]
    · rw [hI.M]
      constructor
      · rintro ⟨p, q, h1, h2, h3⟩
        exact ⟨p, q, h1, by omega, h3⟩
      · rintro ⟨p, q, h1, h2, h3⟩
        have := h1.1
        exact ⟨p, q, h1, by omega, h3⟩
theorem rpals_ev {s : ByteArray} (hs : s.size ≤ 100) : Ev (fun k => galloonref01_Palindromes.f k s) (palSpec s) :=
  rpals_l0 hs s.size 0 [] (by omega) ⟨List.Pairwise.nil, fun y => ⟨fun h => absurd h (by simp), fun ⟨p, q, _, h, _⟩ => by omega⟩, Nat.zero_le _⟩
theorem palSpec_len (s : ByteArray) (hs : s.size ≤ 100) : (palSpec s).length ≤ 100000 := by
  have h1 := partsL_len s hs
  have h2 : ∀ (ts : List (Int × ByteArray)) (l : List ByteArray), (ts.foldl (fun l x => insP x.2 l) l).length ≤ l.length + ts.length := by
    intro ts
    induction ts with
    | nil => intro l; simp
    | cons t ts ih => intro l; have := ih (insP t.2 l); have := insP_len t.2 l; simp only [List.foldl_cons, List.length_cons]; omega
  have := h2 (partsL s) []
  unfold palSpec
  simp at this
  omega
theorem texts_loop {l : List ByteArray} (hl : l.length ≤ 1000000000) : ∀ n i : Nat, i + n = l.length → Ev (fun k => galloonlaw01_texts.l0 k l l i) true
  | 0, i, h => by
    refine Ev.step (f := fun _ => some true) (fun k => ?_) (Ev.now _)
    simp only [galloonlaw01_texts.l0]; rw [if_neg (by omega)]
  | n + 1, i, h => by
    have hw2 : wrap64 ((i : Int) + 1) = ((i + 1 : Nat) : Int) := by rw [w64 (by omega)]; rfl
    refine Ev.step (f := fun k => galloonlaw01_texts.l0 k l l ((i + 1 : Nat) : Int)) (fun k => ?_) (texts_loop hl n (i + 1) (by omega))
    simp only [galloonlaw01_texts.l0]; rw [if_pos (by omega), if_pos (by omega), if_pos (by omega), if_pos trivial, hw2]
theorem texts_ev {l : List ByteArray} (hl : l.length ≤ 1000000000) : Ev (fun k => galloonlaw01_texts.f k l l) true := by
  unfold galloonlaw01_texts.f
  exact Ev.ite_true rfl (texts_loop hl l.length 0 (by omega))
def cenL (s : ByteArray) : List Int := (List.range (2 * s.size - 1)).map fun c => cen s c
theorem cenL_len (s : ByteArray) : (cenL s).length = 2 * s.size - 1 := by simp [cenL]
theorem cen_some {s : ByteArray} (hs : s.size ≤ 100) {c : Nat} (hc : c + 1 < 2 * s.size) : trim_centered.f 200 s c = some (cen s c) := by
  obtain ⟨i0, e0, q1, _⟩ := cen_spec hs hc
  unfold cen
  rw [q1]; rfl
theorem cenL_take {s : ByteArray} {i : Nat} (h : i < 2 * s.size - 1) : (cenL s).take (i + 1) = (cenL s).take i ++ [cen s i] := by
  have hi : i < (cenL s).length := by rw [cenL_len]; exact h
  rw [List.take_add_one, List.getElem?_eq_getElem hi]
  simp [cenL]
theorem cen_set {s : ByteArray} {i n : Nat} (h : i + (n + 1) = 2 * s.size - 1) : ((cenL s).take i ++ List.replicate (n + 1) 0).set i (cen s i) = (cenL s).take (i + 1) ++ List.replicate n 0 := by
  have hl : ((cenL s).take i).length = i := by rw [List.length_take, cenL_len]; omega
  rw [List.set_append_right _ _ (by omega), hl, Nat.sub_self, cenL_take (by omega), List.append_assoc]
  rfl
theorem centers_loop {s : ByteArray} (hs : s.size ≤ 100) : ∀ n i : Nat, i + n = 2 * s.size - 1 → Ev (fun k => trim_Centers.l0 k s ((cenL s).take i ++ List.replicate n 0) ((2 * s.size - 1 : Nat) : Int) i) (cenL s, 0)
  | 0, i, h => by
    refine Ev.step (f := fun _ => some ((cenL s).take i ++ List.replicate 0 0, 0)) (fun k => ?_) (Ev.to (Ev.now _) ?_)
    · simp only [trim_Centers.l0]; rw [if_neg (by omega)]
    · rw [List.take_of_length_le (by rw [cenL_len]; omega)]; simp
  | n + 1, i, h => by
    have hw : wrap64 ((i : Int) + 1) = ((i + 1 : Nat) : Int) := by rw [w64 (by omega)]; rfl
    have hc : Ev (fun k => trim_centered.f k s i) (cen s i) := Ev.of (trim_centered.mono s i) (cen_some hs (by omega))
    refine Ev.step (f := fun k => (trim_centered.f k s i).bind fun t => trim_Centers.l0 k s (((cenL s).take i ++ List.replicate (n + 1) 0).set i t) ((2 * s.size - 1 : Nat) : Int) ((i + 1 : Nat) : Int)) (fun k => ?_) (Ev.bind hc ?_)
    · simp only [trim_Centers.l0]
      have h3 : (0 : Int) ≤ (i : Int) := by omega
      have h4 : (i : Int) < (((cenL s).take i ++ List.replicate (n + 1) 0).length : Int) := by rw [List.length_append, List.length_take, cenL_len, List.length_replicate]; omega
      rw [if_pos (by omega)]
      simp only [if_pos h3, if_pos h4, hw, Int.toNat_natCast]
    · rw [cen_set h]
      exact centers_loop hs n (i + 1) (by omega)
theorem Centers_ev {s : ByteArray} (h : Word s) : Ev (fun k => trim_Centers.f k s) (cenL s, 0) := by
  have hs := h.1
  have hm : mx 0 (wrap64 ((wrap64 (2 * (s.size : Int))) - 1)) = ((2 * s.size - 1 : Nat) : Int) := by
    rw [w64 (n := 2 * (s.size : Int)) (by omega), w64 (by omega)]
    unfold mx
    split <;> omega
  have h1 : (0 : Int) ≤ ((2 * s.size - 1 : Nat) : Int) := Int.natCast_nonneg _
  have h2 : 2 * s.size - 1 ≤ 35184372088832 := by omega
  have h3 := centers_loop hs (2 * s.size - 1) 0 (Nat.zero_add _)
  rw [List.take_zero, List.nil_append, show (((0 : Nat)) : Int) = (0 : Int) from rfl] at h3
  obtain ⟨m, hmm⟩ : ∃ m, m = 2 * s.size - 1 := ⟨_, rfl⟩
  rw [← hmm] at hm h1 h2 h3
  have e : ∀ k, trim_Centers.f k s = trim_Centers.l0 k s (List.replicate m 0) (m : Int) 0 := by
    intro k
    unfold trim_Centers.f
    rw [isWord_yes h, Option.bind_some, if_pos rfl, hm, if_pos h1, Int.toNat_natCast, if_pos h2, Option.bind_some, List.length_replicate]
  exact Ev.congr e h3
theorem rcen_l1 {s : ByteArray} (R : List Int) (x3 : List Int) (hx : x3.length ≤ 1000) (c : Nat) (hc : c ≤ 1000) (v : Int) (hE : Ev (fun k => galloonref01_Centers.l0 k s (x3 ++ [v]) ((c + 1 : Nat) : Int)) R) : ∀ (k0 : Nat) (i j : Int), trim_centered.l0 k0 s i j = some v → Ev (fun k => galloonref01_Centers.l1 k s x3 c i j) R
  | 0, i, j, h => by simp [trim_centered.l0] at h
  | k0 + 1, i, j, h => by
    have hw : wrap64 ((c : Int) + 1) = ((c + 1 : Nat) : Int) := by rw [w64 (by omega)]; rfl
    have hlt : x3.length < 17592186044416 := by omega
    simp only [trim_centered.l0] at h
    by_cases c1 : i > 0
    · rw [if_pos c1] at h
      by_cases c2 : wrap64 (j + 1) < (s.size : Int)
      · rw [if_pos c2] at h
        by_cases c3 : 0 ≤ wrap64 (i - 1)
        · rw [if_pos c3] at h
          by_cases c4 : wrap64 (i - 1) < (s.size : Int)
          · rw [if_pos c4] at h
            by_cases c5 : 0 ≤ wrap64 (j + 1)
            · rw [if_pos c5] at h
              by_cases c6 : bt s (wrap64 (i - 1)) = bt s (wrap64 (j + 1))
              · rw [if_pos c6] at h
                refine Ev.step (f := fun k => galloonref01_Centers.l1 k s x3 c (wrap64 (i - 1)) (wrap64 (j + 1))) (fun k => ?_) (rcen_l1 R x3 hx c hc v hE k0 _ _ h)
                simp only [galloonref01_Centers.l1]
                rw [if_pos c1, if_pos c2, if_pos c3, if_pos c4, if_pos c5, if_pos c6]
              · rw [if_neg c6] at h
                refine Ev.step (f := fun k => galloonref01_Centers.l0 k s (x3 ++ [v]) ((c + 1 : Nat) : Int)) (fun k => ?_) hE
                simp only [galloonref01_Centers.l1]
                rw [if_pos c1, if_pos c2, if_pos c3, if_pos c4, if_pos c5, if_neg c6, if_pos hlt, hw, Option.some.inj h]
            · rw [if_neg c5] at h; cases h
          · rw [if_neg c4] at h; cases h
        · rw [if_neg c3] at h; cases h
      · rw [if_neg c2] at h
        refine Ev.step (f := fun k => galloonref01_Centers.l0 k s (x3 ++ [v]) ((c + 1 : Nat) : Int)) (fun k => ?_) hE
        simp only [galloonref01_Centers.l1]
        rw [if_pos c1, if_neg c2, if_pos hlt, hw, Option.some.inj h]
    · rw [if_neg c1] at h
      refine Ev.step (f := fun k => galloonref01_Centers.l0 k s (x3 ++ [v]) ((c + 1 : Nat) : Int)) (fun k => ?_) hE
      simp only [galloonref01_Centers.l1]
      rw [if_neg c1, if_pos hlt, hw, Option.some.inj h]
theorem rcen_l0 {s : ByteArray} (hs : s.size ≤ 100) : ∀ n i : Nat, i + n = 2 * s.size - 1 → Ev (fun k => galloonref01_Centers.l0 k s ((cenL s).take i) i) (cenL s)
  | 0, i, h => by
    have hw : wrap64 ((wrap64 (2 * (s.size : Int))) - 1) = 2 * (s.size : Int) - 1 := by rw [w64 (n := 2 * (s.size : Int)) (by omega), w64 (by omega)]
    refine Ev.step (f := fun _ => some ((cenL s).take i)) (fun k => ?_) (Ev.to (Ev.now _) (List.take_of_length_le (by rw [cenL_len]; omega)))
    simp only [galloonref01_Centers.l0]; rw [hw, if_neg (by omega)]
  | n + 1, i, h => by
    have hw : wrap64 ((wrap64 (2 * (s.size : Int))) - 1) = 2 * (s.size : Int) - 1 := by rw [w64 (n := 2 * (s.size : Int)) (by omega), w64 (by omega)]
    refine Ev.step (f := fun k => galloonref01_Centers.l1 k s ((cenL s).take i) i (wrap64 (Int.tdiv (wrap64 ((i : Int) + 1)) 2)) (wrap64 (Int.tdiv (i : Int) 2))) (fun k => ?_) ?_
    · simp only [galloonref01_Centers.l0]; rw [hw, if_pos (by omega)]
    · refine rcen_l1 _ _ (by rw [List.length_take, cenL_len]; omega) i (by omega) (cen s i) ?_ 200 _ _ (cen_some hs (by omega))
      rw [← cenL_take (by omega)]
      exact rcen_l0 hs n (i + 1) (by omega)
theorem rcen_ev {s : ByteArray} (hs : s.size ≤ 100) : Ev (fun k => galloonref01_Centers.f k s) (cenL s) := by
  have := rcen_l0 hs (2 * s.size - 1) 0 (by omega)
  simpa [galloonref01_Centers.f] using this
theorem Palindromes_yes {s : ByteArray} (h : Word s) : trim_Palindromes.f s = some (palSpec s, 0) := by
  unfold trim_Palindromes.f
  rw [isWord_yes h]
  rfl
/-- A tamed string is a word. -/
theorem tame_loop {a : ByteArray} {m : Int} (hm : m ≤ 100) (ha : a.size ≤ 140737488351232) : ∀ (n i : Nat) (x5 : List Int), i + n = min a.size m.toNat → x5.length = i → (∀ c ∈ x5, 97 ≤ c ∧ c ≤ 100) → ∃ t, Ev (fun k => galloonlaw01_tame.l0 k a m x5 i) t ∧ Word t ∧ (t.size : Int) ≤ max 0 m
  | 0, i, x5, h, hl, hx => by
    refine ⟨strOfNums x5, ?_, ⟨by rw [strOfNums_size]; omega, ?_⟩, by rw [strOfNums_size]; omega⟩
    · by_cases c : (i : Int) < (a.size : Int)
      · refine Ev.step (f := fun _ => some (strOfNums x5)) (fun k => ?_) (Ev.now _)
        simp only [galloonlaw01_tame.l0]
        rw [if_pos c, if_neg (by omega)]
      · refine Ev.step (f := fun _ => some (strOfNums x5)) (fun k => ?_) (Ev.now _)
        simp only [galloonlaw01_tame.l0]
        rw [if_neg c]
    · intro c hc
      unfold L at hc
      rw [strOfNums_data] at hc
      obtain ⟨n, hn, rfl⟩ := List.mem_map.1 hc
      have := hx n hn
      rw [UInt8.toNat_ofNat', Nat.mod_eq_of_lt (by omega)]
      omega
  | n + 1, i, x5, h, hl, hx => by
    have hi : i < (L a).length := by rw [L_size]; omega
    have hb := bt_L hi
    have hw : wrap64 ((i : Int) + 1) = ((i + 1 : Nat) : Int) := by rw [w64 (by omega)]; rfl
    have hr : 0 ≤ Int.tmod (bt a i) 4 ∧ Int.tmod (bt a i) 4 ≤ 3 := by
      rw [Int.tmod_eq_emod_of_nonneg (by rw [hb]; omega)]; omega
    obtain ⟨t, h1, h2, h3⟩ := tame_loop hm ha n (i + 1) (x5 ++ [(97 + (Int.tmod (bt a i) 4)) % 256]) (by omega) (by simp [hl]) (by
      intro c hc
      rcases List.mem_append.1 hc with hc | hc
      · exact hx c hc
      · have := List.mem_singleton.1 hc
        omega)
    refine ⟨t, Ev.step (f := fun k => galloonlaw01_tame.l0 k a m (x5 ++ [(97 + (Int.tmod (bt a i) 4)) % 256]) ((i + 1 : Nat) : Int)) (fun k => ?_) h1, h2, h3⟩
    simp only [galloonlaw01_tame.l0]
    rw [if_pos (by omega), if_pos (by omega), if_pos (by omega), if_pos (by omega), hw]
theorem tame_ev {a : ByteArray} {m : Int} (hm : m ≤ 100) (ha : a.size ≤ 140737488351232) : ∃ t, Ev (fun k => galloonlaw01_tame.f k a m) t ∧ Word t ∧ (t.size : Int) ≤ max 0 m :=
  tame_loop hm ha (min a.size m.toNat) 0 [] (by omega) rfl (by simp)
def PartsOf (l : List UInt8) (ps : List (List UInt8)) : Prop := (∀ p ∈ ps, p ≠ [] ∧ Pal p) ∧ ps.flatten = l
theorem parts_append {a b : List UInt8} {ps qs : List (List UInt8)} (h : PartsOf a ps) (h' : PartsOf b qs) : PartsOf (a ++ b) (ps ++ qs) := by
  refine ⟨fun p hp => ?_, by rw [List.flatten_append, h.2, h'.2]⟩
  rcases List.mem_append.1 hp with hp | hp
  · exact h.1 p hp
  · exact h'.1 p hp
theorem parts_last {l : List UInt8} {ps : List (List UInt8)} (h : PartsOf l ps) (hl : l ≠ []) : ∃ q ps', q < l.length ∧ Pal (l.drop q) ∧ ps = ps' ++ [l.drop q] ∧ PartsOf (l.take q) ps' := by
  rcases List.eq_nil_or_concat ps with rfl | ⟨ps', p, rfl⟩
  · exact absurd h.2.symm hl
  · have hf := h.2
    rw [List.concat_eq_append, List.flatten_append] at hf
    simp only [List.flatten_cons, List.flatten_nil, List.append_nil] at hf
    have hp := h.1 p (by simp)
    have hd : l.drop ps'.flatten.length = p := by rw [← hf, List.drop_left]
    have ht : l.take ps'.flatten.length = ps'.flatten := by rw [← hf, List.take_left]
    refine ⟨ps'.flatten.length, ps', ?_, by rw [hd]; exact hp.2, by rw [hd, List.concat_eq_append], ⟨fun q hq => h.1 q (by simp [hq]), ht.symm⟩⟩
    have := congrArg List.length hf
    rw [List.length_append] at this
    have : 0 < p.length := List.length_pos_iff.2 hp.1
    omega
theorem parts_snoc {l : List UInt8} {ps : List (List UInt8)} {q i : Nat} (hq : q < i) (hi : i ≤ l.length) (hp : Pal (seg l q i)) (h : PartsOf (l.take q) ps) : PartsOf (l.take i) (ps ++ [seg l q i]) := by
  have e : l.take i = l.take q ++ seg l q i := by
    have := (List.take_append_drop q (l.take i)).symm
    rw [List.take_take, Nat.min_eq_left (by omega), List.drop_take] at this
    exact this
  rw [e]
  refine parts_append h ⟨fun p hp' => ?_, by simp⟩
  rw [List.mem_singleton.1 hp']
  refine ⟨fun e0 => ?_, hp⟩
  have := seg_len (i := q) hi
  rw [e0] at this
  simp at this; omega
/-- The smallest number of palindromes. -/
def Least (l : List UInt8) (n : Nat) : Prop := (∃ ps, PartsOf l ps ∧ ps.length = n) ∧ ∀ ps, PartsOf l ps → n ≤ ps.length
theorem least_nil : Least [] 0 := ⟨⟨[], ⟨by simp, rfl⟩, rfl⟩, fun _ _ => Nat.zero_le _⟩
theorem least_step {l : List UInt8} {i : Nat} (h0 : 0 < i) (hi : i ≤ l.length) {T : Nat → Nat} (hT : ∀ q, q < i → Least (l.take q) (T q)) {v : Nat} (h1 : ∃ q, q < i ∧ Pal (seg l q i) ∧ v = T q + 1) (h2 : ∀ q, q < i → Pal (seg l q i) → v ≤ T q + 1) : Least (l.take i) v := by
  constructor
  · obtain ⟨q, hq, hp, rfl⟩ := h1
    obtain ⟨ps, hps, hl⟩ := (hT q hq).1
    exact ⟨_, parts_snoc hq hi hp hps, by rw [List.length_append, hl]; rfl⟩
  · intro ps hps
    have hlen : (l.take i).length = i := by rw [List.length_take]; omega
    obtain ⟨q, ps', hq, hp, rfl, hps'⟩ := parts_last hps (fun e => by rw [e] at hlen; simp at hlen; omega)
    rw [hlen] at hq
    rw [List.drop_take] at hp
    rw [List.take_take, Nat.min_eq_left (by omega)] at hps'
    have := h2 q hq hp
    have := (hT q hq).2 ps' hps'
    rw [List.length_append]
    simp; omega
theorem rd_set {x : List Int} {i j : Nat} {v : Int} (hi : i < x.length) : rd (x.set i v) (j : Int) = if j = i then v else rd x (j : Int) := by
  unfold rd
  rw [Int.toNat_natCast, List.getD_eq_getElem?_getD, List.getD_eq_getElem?_getD, List.getElem?_set]
  by_cases c : i = j
  · rw [if_pos c, if_pos c.symm, if_pos hi]; rfl
  · rw [if_neg c, if_neg (fun e => c e.symm)]
theorem rd_rep {n j : Nat} : rd (List.replicate n 0) (j : Int) = 0 := by
  unfold rd
  rw [List.getD_eq_getElem?_getD, List.getElem?_replicate]
  split <;> rfl
theorem rev_loop : ∀ (n : Nat) (M A B : List ByteArray), M.length ≤ n → A.length = B.length → (A ++ M ++ B).length ≤ 1000000 → Ev (fun k => slices_Reverse_string_string.l0 k (A ++ M ++ B) (A.length : Int) ((A.length : Int) + M.length - 1)) (A ++ M.reverse ++ B)
  | n, [], A, B, _, h, _ => by
    refine Ev.step (f := fun _ => some (A ++ [] ++ B)) (fun k => ?_) (Ev.now _)
    simp only [slices_Reverse_string_string.l0]
    rw [if_neg (by simp only [List.length_nil]; omega)]
  | n, [x], A, B, _, h, _ => by
    refine Ev.step (f := fun _ => some (A ++ [x] ++ B)) (fun k => ?_) (Ev.now _)
    simp only [slices_Reverse_string_string.l0]
    rw [if_neg (by simp only [List.length_cons, List.length_nil]; omega)]
  | 0, _ :: _ :: _, _, _, hn, _, _ => absurd hn (by simp)
  | n + 1, a :: y :: t, A, B, hn, h, hz => by
    obtain ⟨M, b, hM⟩ : ∃ M b, y :: t = M ++ [b] := by
      rcases List.eq_nil_or_concat (y :: t) with e | ⟨M, b, e⟩
      · simp at e
      · exact ⟨M, b, by rw [e, List.concat_eq_append]⟩
    rw [hM] at hn hz ⊢
    have hlM : (a :: (M ++ [b])).length = M.length + 2 := by simp
    have hall : (A ++ a :: (M ++ [b]) ++ B).length = A.length + (M.length + 2) + B.length := by simp only [List.length_append, hlM]
    rw [hall] at hz
    have e1 : ((A.length : Int) + (a :: (M ++ [b])).length - 1) = ((A.length + M.length + 1 : Nat) : Int) := by rw [hlM]; omega
    have r1 : rdOf ByteArray.empty (A ++ a :: (M ++ [b]) ++ B) (A.length : Int) = a := by
      unfold rdOf
      rw [Int.toNat_natCast, List.getD_eq_getElem?_getD, List.append_assoc, List.getElem?_append_right (by omega), Nat.sub_self]
      rfl
    have r2 : rdOf ByteArray.empty (A ++ a :: (M ++ [b]) ++ B) ((A.length + M.length + 1 : Nat) : Int) = b := by
      unfold rdOf
      rw [Int.toNat_natCast, List.getD_eq_getElem?_getD, List.append_assoc, List.getElem?_append_right (by omega), show A.length + M.length + 1 - A.length = M.length + 1 by omega, List.cons_append, List.getElem?_cons_succ, List.append_assoc, List.getElem?_append_right (by omega), Nat.sub_self]
      rfl
    have s1 : ((A ++ a :: (M ++ [b]) ++ B).set A.length b).set (A.length + M.length + 1) a = (A ++ [b]) ++ M ++ ([a] ++ B) := by
      have h1 : (A ++ a :: (M ++ [b]) ++ B).set A.length b = A ++ b :: (M ++ [b]) ++ B := by
        rw [List.append_assoc, List.set_append_right _ _ (by omega), Nat.sub_self, List.append_assoc]; rfl
      rw [h1, List.append_assoc, List.set_append_right _ _ (by omega), show A.length + M.length + 1 - A.length = M.length + 1 by omega, List.cons_append, List.set_cons_succ, List.append_assoc, List.set_append_right _ _ (by omega), Nat.sub_self]
      simp
    have w1 : wrap64 ((A.length : Int) + 1) = (((A ++ [b]).length : Nat) : Int) := by rw [w64 (by omega)]; simp
    have w2 : wrap64 (((A.length + M.length + 1 : Nat) : Int) - 1) = (((A ++ [b]).length : Nat) : Int) + (M.length : Int) - 1 := by rw [w64 (by omega)]; simp; omega
    have ih := rev_loop n M (A ++ [b]) ([a] ++ B) (by simp at hn; omega) (by simp; omega) (by simp; omega)
    rw [e1]
    refine Ev.to (Ev.step (f := fun k => slices_Reverse_string_string.l0 k (A ++ [b] ++ M ++ ([a] ++ B)) (((A ++ [b]).length : Nat) : Int) ((((A ++ [b]).length : Nat) : Int) + (M.length : Int) - 1)) (fun k => ?_) ih) (by simp)
    simp only [slices_Reverse_string_string.l0]
    rw [if_pos (by omega), if_pos (by omega), if_pos (by rw [hall]; omega), if_pos (by omega), if_pos (by rw [hall]; omega), r1, r2, w1, w2, Int.toNat_natCast, Int.toNat_natCast, s1]
theorem rev_ev (l : List ByteArray) (h : l.length ≤ 1000000) : Ev (fun k => slices_Reverse_string_string.f k l) l.reverse := by
  have := rev_loop l.length l [] [] (Nat.le_refl _) rfl (by simpa using h)
  simp only [List.nil_append, List.append_nil, List.length_nil] at this
  unfold slices_Reverse_string_string.f
  rw [w64 (by omega)]
  simpa using this
structure FTab (s : ByteArray) (m f : List Int) (i : Nat) : Prop where
  lm : m.length = s.size + 1
  lf : f.length = s.size + 1
  le : ∀ j : Nat, j < i → Least ((L s).take j) (rd m j).toNat ∧ 0 ≤ rd m j ∧ rd m j ≤ j
  lk : ∀ j : Nat, 0 < j → j < i → ∃ q : Nat, q < j ∧ rd f j = q ∧ Pal (seg (L s) q j) ∧ rd m j = rd m q + 1
structure FIn (s : ByteArray) (m f : List Int) (i p : Nat) : Prop where
  tab : FTab s m f i
  cur : rd m i = (i : Int) + 1 ∨ ∃ q : Nat, q < p ∧ Pal (seg (L s) q i) ∧ rd m i = rd m q + 1 ∧ rd f i = q
  bnd : ∀ q : Nat, q < p → Pal (seg (L s) q i) → rd m i ≤ rd m q + 1
  top : rd m i ≤ (i : Int) + 1
theorem FIn.done {s : ByteArray} {m f : List Int} {i : Nat} (h : FIn s m f i i) (h0 : 0 < i) (hi : i ≤ s.size) : FTab s m f (i + 1) := by
  have hb := h.bnd (i - 1) (by omega) (pal_short (by omega))
  have hl := h.tab.le (i - 1) (by omega)
  have hc : ∃ q : Nat, q < i ∧ Pal (seg (L s) q i) ∧ rd m i = rd m q + 1 ∧ rd f i = q := by
    rcases h.cur with e | e
    · omega
    · exact e
  refine ⟨h.tab.lm, h.tab.lf, fun j hj => ?_, fun j hj0 hj => ?_⟩
  · rcases Nat.lt_or_eq_of_le (Nat.le_of_lt_succ hj) with c | rfl
    · exact h.tab.le j c
    · obtain ⟨q, hq, hp, hm, hf⟩ := hc
      have hq2 := h.tab.le q hq
      refine ⟨least_step (T := fun q => (rd m q).toNat) h0 (by rw [L_size]; exact hi) (fun q hq => (h.tab.le q hq).1) ⟨q, hq, hp, by omega⟩ (fun q hq hp => ?_), by omega, by omega⟩
      have := h.bnd q hq hp
      have := h.tab.le q hq
      omega
  · rcases Nat.lt_or_eq_of_le (Nat.le_of_lt_succ hj) with c | rfl
    · exact h.tab.lk j hj0 c
    · obtain ⟨q, hq, hp, hm, hf⟩ := hc
      exact ⟨q, hq, hf, hp, hm⟩
theorem few_l1 {s : ByteArray} (hs : s.size ≤ 1000) {i : Nat} (h0 : 0 < i) (hi : i ≤ s.size) (P : List ByteArray × Int → Prop) (hE : ∀ m f, FTab s m f (i + 1) → ∃ R, Ev (fun k => trim_Fewest.l0 k s m f ((i + 1 : Nat) : Int)) R ∧ P R) : ∀ (n p : Nat) (m f : List Int), p + n = i → FIn s m f i p → ∃ R, Ev (fun k => trim_Fewest.l1 k s m f i i p) R ∧ P R
  | 0, p, m, f, h, hI => by
    obtain rfl : p = i := by omega
    obtain ⟨R, h1, h2⟩ := hE m f (hI.done h0 hi)
    have hw : wrap64 ((p : Int) + 1) = ((p + 1 : Nat) : Int) := by rw [w64 (by omega)]; rfl
    refine ⟨R, Ev.step (f := fun k => trim_Fewest.l0 k s m f ((p + 1 : Nat) : Int)) (fun k => ?_) h1, h2⟩
    simp only [trim_Fewest.l1]
    rw [if_neg (by omega), hw]
  | n + 1, p, m, f, h, hI => by
    have hw : wrap64 ((p : Int) + 1) = ((p + 1 : Nat) : Int) := by rw [w64 (by omega)]; rfl
    have hlm := hI.tab.lm
    have hlf := hI.tab.lf
    have hpr := hI.tab.le p (by omega)
    have hw2 : wrap64 (rd m p + 1) = rd m p + 1 := w64 (by omega)
    have hp : trim_isPalindrome.f (s.extract (p : Int).toNat (i : Int).toNat) = some (decide (Pal (seg (L s) p i))) := by
      rw [isPal_ev (by rw [ByteArray.size_extract]; omega), Int.toNat_natCast, Int.toNat_natCast, L_extract]; rfl
    have g : ∀ k, trim_Fewest.l1 (k + 1) s m f i i p = if decide (Pal (seg (L s) p i)) = true then (if (rd m p + 1) < rd m i then trim_Fewest.l1 k s (m.set i (rd m p + 1)) (f.set i p) i i ((p + 1 : Nat) : Int) else trim_Fewest.l1 k s m f i i ((p + 1 : Nat) : Int)) else trim_Fewest.l1 k s m f i i ((p + 1 : Nat) : Int) := by
      intro k
      simp only [trim_Fewest.l1]
      rw [if_pos (by omega), if_pos (by omega), if_pos (by omega), if_pos (by omega), hp]
      simp only [Option.bind_some]
      rw [if_pos (by omega : (p : Int) < (m.length : Int)), if_pos (by omega : (0 : Int) ≤ (i : Int)), if_pos (by omega : (i : Int) < (m.length : Int)), if_pos (by omega : (i : Int) < (f.length : Int)), hw, hw2, Int.toNat_natCast]
    by_cases c : Pal (seg (L s) p i)
    · by_cases c2 : rd m p + 1 < rd m i
      · obtain ⟨R, h1, h2⟩ := few_l1 hs h0 hi P hE n (p + 1) (m.set i (rd m p + 1)) (f.set i p) (by omega) (by
          have key : ∀ j : Nat, j < i → rd (m.set i (rd m p + 1)) (j : Int) = rd m j := fun j hj => by rw [rd_set (by omega), if_neg (by omega)]
          have key2 : ∀ j : Nat, j < i → rd (f.set i p) (j : Int) = rd f j := fun j hj => by rw [rd_set (by omega), if_neg (by omega)]
          have ki : rd (m.set i (rd m p + 1)) (i : Int) = rd m p + 1 := by rw [rd_set (by omega), if_pos rfl]
          have ki2 : rd (f.set i p) (i : Int) = p := by rw [rd_set (by omega), if_pos rfl]
          refine ⟨⟨by rw [List.length_set]; exact hlm, by rw [List.length_set]; exact hlf, fun j hj => by rw [key j hj]; exact hI.tab.le j hj, fun j hj0 hj => ?_⟩, Or.inr ⟨p, by omega, c, by rw [ki, key p (by omega)], ki2⟩, fun q hq hqp => ?_, by rw [ki]; have := hI.top; omega⟩
          · obtain ⟨q, h1, h2, h3, h4⟩ := hI.tab.lk j hj0 hj
            exact ⟨q, h1, by rw [key2 j hj]; exact h2, h3, by rw [key j hj, key q (by omega)]; exact h4⟩
          · rw [ki, key q (by omega)]
            rcases Nat.lt_or_eq_of_le (Nat.le_of_lt_succ hq) with c3 | rfl
            · have := hI.bnd q c3 hqp; omega
            · exact Int.le_refl _)
        refine ⟨R, Ev.step (f := fun k => trim_Fewest.l1 k s (m.set i (rd m p + 1)) (f.set i p) i i ((p + 1 : Nat) : Int)) (fun k => ?_) h1, h2⟩
        rw [g, if_pos (decide_eq_true c), if_pos c2]
      · obtain ⟨R, h1, h2⟩ := few_l1 hs h0 hi P hE n (p + 1) m f (by omega) ⟨hI.tab, by
          rcases hI.cur with e | ⟨q, h1, h2⟩
          · exact Or.inl e
          · exact Or.inr ⟨q, by omega, h2⟩, fun q hq hqp => by
          rcases Nat.lt_or_eq_of_le (Nat.le_of_lt_succ hq) with c3 | rfl
          · exact hI.bnd q c3 hqp
          · omega, hI.top⟩
        refine ⟨R, Ev.step (f := fun k => trim_Fewest.l1 k s m f i i ((p + 1 : Nat) : Int)) (fun k => ?_) h1, h2⟩
        rw [g, if_pos (decide_eq_true c), if_neg c2]
    · obtain ⟨R, h1, h2⟩ := few_l1 hs h0 hi P hE n (p + 1) m f (by omega) ⟨hI.tab, by
        rcases hI.cur with e | ⟨q, h1, h2⟩
        · exact Or.inl e
        · exact Or.inr ⟨q, by omega, h2⟩, fun q hq hqp => by
        rcases Nat.lt_or_eq_of_le (Nat.le_of_lt_succ hq) with c3 | rfl
        · exact hI.bnd q c3 hqp
        · exact absurd hqp c, hI.top⟩
      refine ⟨R, Ev.step (f := fun k => trim_Fewest.l1 k s m f i i ((p + 1 : Nat) : Int)) (fun k => ?_) h1, h2⟩
      rw [g, if_neg (by rw [decide_eq_true_iff]; exact c)]
/-- What Fewest answers. -/
def FewAns (s : ByteArray) (R : List ByteArray × Int) : Prop := R.2 = 0 ∧ PartsOf (L s) (R.1.map L) ∧ Least (L s) R.1.length ∧ R.1.length ≤ s.size
theorem few_l2 {s : ByteArray} (hs : s.size ≤ 1000) {m f : List Int} (hT : FTab s m f (s.size + 1)) : ∀ (n i : Nat) (acc : List ByteArray), i ≤ n → i ≤ s.size → PartsOf ((L s).drop i) (acc.map L).reverse → rd m i + acc.length = rd m s.size → ∃ R, Ev (fun k => trim_Fewest.l2 k s f acc i) R ∧ FewAns s R
  | n, 0, acc, _, _, hp, hc => by
    have h0 := hT.le 0 (by omega)
    have hz := hT.le s.size (by omega)
    have hlen : acc.length = (rd m s.size).toNat := by omega
    have hr := rev_ev acc (by omega)
    refine ⟨(acc.reverse, 0), Ev.step (f := fun k => (slices_Reverse_string_string.f k acc).bind fun t => some (t, 0)) (fun k => ?_) (Ev.bind hr (Ev.now _)), rfl, ?_, ?_, ?_⟩
    · simp only [trim_Fewest.l2]
      rw [if_neg (by omega)]
    · rw [List.map_reverse]; simpa using hp
    · rw [List.length_reverse, hlen]
      have := hz.1
      rwa [List.take_of_length_le (by rw [L_size]; exact Nat.le_refl _)] at this
    · rw [List.length_reverse]; omega
  | 0, i + 1, _, h, _, _, _ => absurd h (by omega)
  | n + 1, i + 1, acc, hn, hi, hp, hc => by
    obtain ⟨q, hq, hf, hpal, hm⟩ := hT.lk (i + 1) (by omega) (by omega)
    have hz := hT.le s.size (by omega)
    have hi2 := hT.le (i + 1) (by omega)
    have hlf := hT.lf
    have hseg : L (s.extract q (i + 1)) = seg (L s) q (i + 1) := L_extract s q (i + 1)
    obtain ⟨R, h1, h2⟩ := few_l2 hs hT n q (acc ++ [s.extract q (i + 1)]) (by omega) (by omega) (by
      rw [List.map_append, List.reverse_append]
      have e : (L s).drop q = seg (L s) q (i + 1) ++ (L s).drop (i + 1) := by
        have := (List.take_append_drop (i + 1 - q) ((L s).drop q)).symm
        rw [List.drop_drop, show q + (i + 1 - q) = i + 1 by omega] at this
        exact this
      rw [e]
      refine parts_append ⟨fun p hp => ?_, by simp [hseg]⟩ hp
      simp only [List.map_cons, List.map_nil, List.reverse_cons, List.reverse_nil, List.nil_append, List.mem_singleton] at hp
      rw [hp, hseg]
      refine ⟨fun e0 => ?_, hpal⟩
      have := seg_len (l := L s) (i := q) (e := i + 1) (by rw [L_size]; exact hi)
      rw [e0] at this
      simp at this; omega) (by rw [List.length_append]; simp only [List.length_cons, List.length_nil]; omega)
    refine ⟨R, Ev.step (f := fun k => trim_Fewest.l2 k s f (acc ++ [s.extract q (i + 1)]) q) (fun k => ?_) h1, h2⟩
    simp only [trim_Fewest.l2]
    rw [hf, if_pos (by omega), if_pos (by omega), if_pos (by omega), if_pos (by omega), if_pos (by omega), if_pos (by omega), if_pos (by omega), Int.toNat_natCast, Int.toNat_natCast]
theorem few_l0 {s : ByteArray} (hs : s.size ≤ 1000) : ∀ (n i : Nat) (m f : List Int), i + n = s.size + 1 → 0 < i → FTab s m f i → ∃ R, Ev (fun k => trim_Fewest.l0 k s m f i) R ∧ FewAns s R
  | 0, i, m, f, h, h0, hT => by
    obtain rfl : i = s.size + 1 := by omega
    obtain ⟨R, h1, h2⟩ := few_l2 hs hT s.size s.size [] (Nat.le_refl _) (Nat.le_refl _) ⟨by simp, by rw [List.drop_of_length_le (by rw [L_size]; exact Nat.le_refl _)]; rfl⟩ (by simp)
    refine ⟨R, Ev.step (f := fun k => trim_Fewest.l2 k s f [] s.size) (fun k => ?_) h1, h2⟩
    simp only [trim_Fewest.l0]
    rw [if_neg (by omega)]
  | n + 1, i, m, f, h, h0, hT => by
    have hw : wrap64 ((i : Int) + 1) = (i : Int) + 1 := w64 (by omega)
    have hlm := hT.lm
    obtain ⟨R, h1, h2⟩ := few_l1 hs h0 (by omega) (FewAns s) (fun m f hT => few_l0 hs n (i + 1) m f (by omega) (by omega) hT) i 0 (m.set i ((i : Int) + 1)) f (by omega) (by
      have key : ∀ j : Nat, j < i → rd (m.set i ((i : Int) + 1)) (j : Int) = rd m j := fun j hj => by rw [rd_set (by omega), if_neg (by omega)]
      have ki : rd (m.set i ((i : Int) + 1)) (i : Int) = (i : Int) + 1 := by rw [rd_set (by omega), if_pos rfl]
      refine ⟨⟨by rw [List.length_set]; exact hlm, hT.lf, fun j hj => by rw [key j hj]; exact hT.le j hj, fun j hj0 hj => ?_⟩, Or.inl ki, fun q hq _ => absurd hq (by omega), by rw [ki]; exact Int.le_refl _⟩
      obtain ⟨q, h1, h2, h3, h4⟩ := hT.lk j hj0 hj
      exact ⟨q, h1, h2, h3, by rw [key j hj, key q (by omega)]; exact h4⟩)
    refine ⟨R, Ev.step (f := fun k => trim_Fewest.l1 k s (m.set i ((i : Int) + 1)) f i i ((0 : Nat) : Int)) (fun k => ?_) h1, h2⟩
    simp only [trim_Fewest.l0]
    rw [if_pos (by omega), if_pos (by omega), if_pos (by omega), hw, Int.toNat_natCast]
    rfl
theorem Fewest_ev {s : ByteArray} (h : Word s) : ∃ R, Ev (fun k => trim_Fewest.f k s) R ∧ FewAns s R := by
  have hs := h.1
  have hw : wrap64 ((s.size : Int) + 1) = ((s.size + 1 : Nat) : Int) := by rw [w64 (by omega)]; rfl
  obtain ⟨R, h1, h2⟩ := few_l0 (s := s) (by omega) s.size 1 (List.replicate (s.size + 1) 0) (List.replicate (s.size + 1) 0) (by omega) (by omega) ⟨by simp, by simp, fun j hj => by
    obtain rfl : j = 0 := by omega
    rw [rd_rep]
    exact ⟨least_nil, Int.le_refl _, Int.le_refl _⟩, fun j h0 hj => absurd hj (by omega)⟩
  obtain ⟨n, hn⟩ : ∃ n, n = s.size + 1 := ⟨_, rfl⟩
  rw [← hn] at h1 hw
  have hn2 : n ≤ 101 := by omega
  refine ⟨R, Ev.congr (fun k => ?_) h1, h2⟩
  unfold trim_Fewest.f
  rw [isWord_yes h, hw]
  simp only [Option.bind_some, Int.toNat_natCast]
  rw [if_pos trivial, if_pos (Int.natCast_nonneg n), if_pos (Nat.le_trans hn2 (by decide))]
  rfl
/-- Nonempty palindromes that make up the word. -/
def partsOk (w : List UInt8) : List ByteArray → Bool
  | [] => decide (w = [])
  | p :: ps => decide (p.size ≠ 0 ∧ w.take p.size = L p ∧ Pal (L p)) && partsOk (w.drop p.size) ps
theorem cut_ev (a p : ByteArray) : strings_CutPrefix.f a p = some (if (L a).take p.size = L p then (mkS ((L a).drop p.size), true) else (a, false)) := by
  unfold strings_CutPrefix.f stringslite_CutPrefix.f stringslite_HasPrefix.f
  by_cases c : (a.size : Int) ≥ (p.size : Int)
  · rw [if_pos c, if_pos (by omega), if_pos (by omega)]
    have he : (a.extract 0 ((p.size : Int)).toNat).toList = (L a).take p.size := by rw [toList_L, Int.toNat_natCast, L_to]
    rw [he, toList_L]
    simp only [Option.bind_some]
    by_cases d : (L a).take p.size = L p
    · rw [if_pos d, if_pos (by simpa using d), if_pos (by omega), if_pos (by omega)]
      simp only [Option.bind_some]
      have : a.extract ((p.size : Int)).toNat a.size = mkS ((L a).drop p.size) := L_inj (by rw [Int.toNat_natCast, L_from, L_mk])
      rw [this]
    · rw [if_neg d, if_neg (by simpa using d)]
      rfl
  · rw [if_neg c]
    have : ¬ (L a).take p.size = L p := by
      intro e
      have := congrArg List.length e
      rw [List.length_take, L_size, L_size] at this
      omega
    rw [if_neg this]
    rfl
theorem rdOf_drop {l : List ByteArray} {i : Nat} (h : i < l.length) : l.drop i = rdOf ByteArray.empty l i :: l.drop (i + 1) := by
  rw [List.drop_eq_getElem_cons h]
  congr 1
  simp [rdOf, h]
theorem check_loop {ps : List ByteArray} (hl : ps.length ≤ 101) (hp : ∀ p ∈ ps, p.size ≤ 101) : ∀ (n i : Nat) (w : List UInt8), i + n = ps.length → Ev (fun k => trim_Check.l0 k (mkS w) ps ps.length i) (if partsOk w (ps.drop i) = true then 0 else 10)
  | 0, i, w, h => by
    have hd : ps.drop i = [] := List.drop_of_length_le (by omega)
    rw [hd]
    by_cases c : w = []
    · refine Ev.step (f := fun _ => some 0) (fun k => ?_) (Ev.to (Ev.now _) (by simp [partsOk, c]))
      simp only [trim_Check.l0]
      rw [if_neg (by omega), if_pos (by rw [toList_L, L_mk]; exact c)]
    · refine Ev.step (f := fun _ => some 10) (fun k => ?_) (Ev.to (Ev.now _) (by simp [partsOk, c]))
      simp only [trim_Check.l0]
      rw [if_neg (by omega), if_neg (by rw [toList_L, L_mk]; exact c)]
  | n + 1, i, w, h => by
    have hi : i < ps.length := by omega
    obtain ⟨p, hpe⟩ : ∃ p, p = rdOf ByteArray.empty ps i := ⟨_, rfl⟩
    have hd := rdOf_drop hi
    rw [← hpe] at hd
    have hps : p.size ≤ 101 := hp p (List.mem_of_mem_drop (i := i) (by rw [hd]; exact List.mem_cons_self ..))
    have hw : wrap64 ((i : Int) + 1) = ((i + 1 : Nat) : Int) := by rw [w64 (by omega)]; rfl
    have hcut := cut_ev (mkS w) p
    rw [L_mk] at hcut
    have hpal := isPal_ev (a := p) (by omega)
    have hz : p.toList = [] ↔ p.size = 0 := by
      rw [toList_L, ← L_size]
      exact ⟨fun e => by rw [e]; rfl, fun e => List.eq_nil_of_length_eq_zero e⟩
    rw [hd]
    simp only [partsOk]
    by_cases c1 : w.take p.size = L p
    · rw [if_pos c1] at hcut
      by_cases c2 : p.size = 0
      · refine Ev.step (f := fun _ => some 10) (fun k => ?_) (Ev.to (Ev.now _) (by simp [c2]))
        simp only [trim_Check.l0]
        rw [if_pos (by omega), if_pos (by omega), if_pos (by omega), ← hpe, hcut]
        simp only [Option.bind_some]
        rw [if_pos trivial, if_pos (hz.2 c2)]
      · by_cases c3 : Pal (L p)
        · refine Ev.step (f := fun k => trim_Check.l0 k (mkS (w.drop p.size)) ps ps.length ((i + 1 : Nat) : Int)) (fun k => ?_) (Ev.to (check_loop hl hp n (i + 1) (w.drop p.size) (by omega)) (by simp [c1, c2, c3]))
          simp only [trim_Check.l0]
          rw [if_pos (by omega), if_pos (by omega), if_pos (by omega), ← hpe, hcut]
          simp only [Option.bind_some]
          rw [if_pos trivial, if_neg (fun e => c2 (hz.1 e)), hpal]
          simp only [Option.bind_some]
          rw [if_pos (by simpa using c3), hw]
        · refine Ev.step (f := fun _ => some 10) (fun k => ?_) (Ev.to (Ev.now _) (by simp [c3]))
          simp only [trim_Check.l0]
          rw [if_pos (by omega), if_pos (by omega), if_pos (by omega), ← hpe, hcut]
          simp only [Option.bind_some]
          rw [if_pos trivial, if_neg (fun e => c2 (hz.1 e)), hpal]
          simp only [Option.bind_some]
          rw [if_neg (by simpa using c3)]
    · rw [if_neg c1] at hcut
      refine Ev.step (f := fun _ => some 10) (fun k => ?_) (Ev.to (Ev.now _) (by simp [c1]))
      simp only [trim_Check.l0]
      rw [if_pos (by omega), if_pos (by omega), if_pos (by omega), ← hpe, hcut]
      simp only [Option.bind_some]
      rw [if_neg (by simp)]
theorem parts_sizes {s : ByteArray} {ps : List ByteArray} (h : PartsOf (L s) (ps.map L)) : ∀ p ∈ ps, p.size ≤ s.size := by
  intro p hp
  have h1 : (L p).Sublist (ps.map L).flatten := List.sublist_flatten_of_mem (List.mem_map_of_mem hp)
  rw [h.2] at h1
  have := h1.length_le
  rwa [L_size, L_size] at this
theorem short_id {a : ByteArray} (h : a.size ≤ 101) : galloonlaw01_short.f a = some a := by
  unfold galloonlaw01_short.f mn
  have e : (if (101 : Int) < (a.size : Int) then (101 : Int) else (a.size : Int)) = (a.size : Int) := if_neg (by omega)
  rw [e, if_pos (by omega), if_pos (by omega)]
  congr 1
  exact L_inj (by rw [Int.toNat_natCast, L_to, List.take_of_length_le (by rw [L_size]; exact Nat.le_refl _)])
theorem few_same {l : List ByteArray} (hl : l.length ≤ 101) (hp : ∀ p ∈ l, p.size ≤ 101) : ∀ n i : Nat, i + n = l.length → Ev (fun k => galloonlaw01_few.l0 k l (l.take i) i) l
  | 0, i, h => by
    refine Ev.step (f := fun _ => some (l.take i)) (fun k => ?_) (Ev.to (Ev.now _) (List.take_of_length_le (by omega)))
    simp only [galloonlaw01_few.l0]
    rw [if_neg (by omega)]
  | n + 1, i, h => by
    have hi : i < l.length := by omega
    have hw : wrap64 ((i : Int) + 1) = ((i + 1 : Nat) : Int) := by rw [w64 (by omega)]; rfl
    have hr : rdOf ByteArray.empty l i = l[i] := by simp [rdOf, hi]
    have hs := short_id (hp l[i] (List.getElem_mem hi))
    refine Ev.step (f := fun k => galloonlaw01_few.l0 k l (l.take (i + 1)) ((i + 1 : Nat) : Int)) (fun k => ?_) (few_same hl hp n (i + 1) (by omega))
    simp only [galloonlaw01_few.l0]
    rw [if_pos (by omega), if_pos (by omega), if_pos (by omega), hr, hs, hw]
    simp only [Option.bind_some]
    rw [if_pos (by rw [List.length_take]; omega), List.take_succ_eq_append_getElem hi]
theorem few_id {l : List ByteArray} (hl : l.length ≤ 101) (hp : ∀ p ∈ l, p.size ≤ 101) : Ev (fun k => galloonlaw01_few.f k l) l := few_same hl hp l.length 0 (by omega)
theorem check_ev {s : ByteArray} (hw : Word s) {ps : List ByteArray} (hl : ps.length ≤ 101) (hp : ∀ p ∈ ps, p.size ≤ 101) : Ev (fun k => trim_Check.f k s ps) (if partsOk (L s) ps = true then 0 else 10) := by
  have h := check_loop hl hp ps.length 0 (L s) (by omega)
  rw [List.drop_zero, mk_L] at h
  unfold trim_Check.f
  rw [isWord_yes hw]
  simp only [Option.bind_some]
  exact Ev.ite_true trivial h
theorem own_l2 {s : ByteArray} (x10 : List ByteArray) (hE : ∀ x8 : List ByteArray, x8.length ≤ 1000 → Ev (fun k => galloonlaw01_TrimOwn.l2 k s x8 x10 x8.length) true) : ∀ (n i : Nat) (x8 : List ByteArray), i + n = x8.length → x8.length ≤ 1000 → Ev (fun k => galloonlaw01_TrimOwn.l2 k s x8 x10 i) true
  | 0, i, x8, h, hl => by
    obtain rfl : i = x8.length := by omega
    exact hE x8 hl
  | n + 1, i, x8, h, hl => by
    have hw : wrap64 ((i : Int) + 1) = ((i + 1 : Nat) : Int) := by rw [w64 (by omega)]; rfl
    refine Ev.step (f := fun k => galloonlaw01_TrimOwn.l2 k s (x8.set i (⟨#[120]⟩ : ByteArray)) x10 ((i + 1 : Nat) : Int)) (fun k => ?_) (own_l2 x10 hE n (i + 1) _ (by rw [List.length_set]; omega) (by rw [List.length_set]; exact hl))
    simp only [galloonlaw01_TrimOwn.l2]
    rw [if_pos (by omega), if_pos (by omega), hw, Int.toNat_natCast]
theorem own_l1 {s : ByteArray} (x8 x10 : List ByteArray) (hE : Ev (fun k => galloonlaw01_TrimOwn.l2 k s x8 x10 0) true) : ∀ (n i : Nat) (x6 : List Int), i + n = x6.length → x6.length ≤ 1000 → Ev (fun k => galloonlaw01_TrimOwn.l1 k s x6 x8 x10 i) true
  | 0, i, x6, h, hl => by
    refine Ev.step (f := fun k => galloonlaw01_TrimOwn.l2 k s x8 x10 0) (fun k => ?_) hE
    simp only [galloonlaw01_TrimOwn.l1]
    rw [if_neg (by omega)]
  | n + 1, i, x6, h, hl => by
    have hw : wrap64 ((i : Int) + 1) = ((i + 1 : Nat) : Int) := by rw [w64 (by omega)]; rfl
    refine Ev.step (f := fun k => galloonlaw01_TrimOwn.l1 k s (x6.set i (-7)) x8 x10 ((i + 1 : Nat) : Int)) (fun k => ?_) (own_l1 x8 x10 hE n (i + 1) _ (by rw [List.length_set]; omega) (by rw [List.length_set]; exact hl))
    simp only [galloonlaw01_TrimOwn.l1]
    rw [if_pos (by omega), if_pos (by omega), hw, Int.toNat_natCast]
theorem own_l0 {s : ByteArray} (x6 : List Int) (x8 x10 : List ByteArray) (hE : Ev (fun k => galloonlaw01_TrimOwn.l1 k s x6 x8 x10 0) true) : ∀ (n i : Nat) (x4 : List ByteArray), i + n = x4.length → x4.length ≤ 100000 → Ev (fun k => galloonlaw01_TrimOwn.l0 k s x4 x6 x8 x10 i) true
  | 0, i, x4, h, hl => by
    refine Ev.step (f := fun k => galloonlaw01_TrimOwn.l1 k s x6 x8 x10 0) (fun k => ?_) hE
    simp only [galloonlaw01_TrimOwn.l0]
    rw [if_neg (by omega)]
  | n + 1, i, x4, h, hl => by
    have hw : wrap64 ((i : Int) + 1) = ((i + 1 : Nat) : Int) := by rw [w64 (by omega)]; rfl
    refine Ev.step (f := fun k => galloonlaw01_TrimOwn.l0 k s (x4.set i (⟨#[120]⟩ : ByteArray)) x6 x8 x10 ((i + 1 : Nat) : Int)) (fun k => ?_) (own_l0 x6 x8 x10 hE n (i + 1) _ (by rw [List.length_set]; omega) (by rw [List.length_set]; exact hl))
    simp only [galloonlaw01_TrimOwn.l0]
    rw [if_pos (by omega), if_pos (by omega), hw, Int.toNat_natCast]
theorem TrimOwn : galloonlaw01_TrimOwn.Pure := by
  intro a0 ha
  obtain ⟨t, ht, hw, hts⟩ := tame_ev (a := a0) (m := 40) (by decide) ha
  obtain ⟨⟨x, xe⟩, e1, x1, x2, x3, x4⟩ := Fewest_ev hw
  simp only at x1 x2 x3 x4
  subst x1
  have hsz := hw.1
  have hps := parts_sizes x2
  have hfew := few_id (l := x) (by omega) (fun p hp => by have := hps p hp; omega)
  have hchk := check_ev hw (ps := x) (by omega) (fun p hp => by have := hps p hp; omega)
  have hpl := palSpec_len t hsz
  have hcl := cenL_len t
  have hfin : ∀ x8 : List ByteArray, x8.length ≤ 1000 → Ev (fun k => galloonlaw01_TrimOwn.l2 k t x8 x x8.length) true := by
    intro x8 hx8
    refine Ev.step (f := fun k => ((trim_Palindromes.f t).bind fun bt579 => ((trim_Centers.f k t).bind fun bt583 => ((trim_Fewest.f k t).bind fun bt587 => (if bt579.2 = 0 then (if bt583.2 = 0 then (if bt587.2 = 0 then ((galloonref01_Palindromes.f k t).bind fun t591 => ((galloonlaw01_texts.f k bt579.1 t591).bind fun t594 => (if t594 = true then ((galloonref01_Centers.f k t).bind fun t595 => ((galloonlaw01_ints.f k bt583.1 t595).bind fun t598 => (if t598 = true then ((galloonlaw01_texts.f k bt587.1 x).bind fun t599 => (if t599 = true then ((galloonlaw01_awake.f k).bind fun t600 => (some t600)) else (some false))) else (some false)))) else (some false)))) else (some false)) else (some false)) else (some false)))))) (fun k => ?_) ?_
    · simp only [galloonlaw01_TrimOwn.l2]
      rw [if_neg (by omega)]
    · rw [Palindromes_yes hw]
      simp only [Option.bind_some]
      refine Ev.bind (Centers_ev hw) (Ev.bind e1 (Ev.ite_true trivial (Ev.ite_true rfl (Ev.ite_true rfl (Ev.bind (rpals_ev hsz) (Ev.bind (texts_ev (by omega)) (Ev.ite_true rfl (Ev.bind (rcen_ev hsz) (Ev.bind (ints_ev (l := cenL t) (by omega)) (Ev.ite_true rfl (Ev.bind (texts_ev (l := x) (by omega)) (Ev.ite_true rfl (Ev.bind awake_ev (Ev.now _))))))))))))))
  have h2 := own_l2 (s := t) x hfin x.length 0 x (by omega) (by omega)
  have h1 := own_l1 (s := t) x x h2 (cenL t).length 0 (cenL t) (by omega) (by omega)
  have h0 := own_l0 (s := t) (cenL t) x x h1 (palSpec t).length 0 (palSpec t) (by omega) hpl
  have hj : Ev (fun k => galloonlaw01_TrimOwn.j0 k t (palSpec t) (cenL t) x x (!true)) true := by
    refine Ev.step (f := fun k => galloonlaw01_TrimOwn.l0 k t (palSpec t) (cenL t) x x ((0 : Nat) : Int)) (fun k => ?_) h0
    simp only [galloonlaw01_TrimOwn.j0]
    rw [if_neg (by decide)]
    rfl
  refine Ev.rounds (g := fun k => galloonlaw01_TrimOwn.f k a0) ?_
  unfold galloonlaw01_TrimOwn.f
  refine Ev.bind ht ?_
  rw [Palindromes_yes hw]
  simp only [Option.bind_some]
  exact Ev.bind (Centers_ev hw) (Ev.bind e1 (Ev.bind hfew (Ev.bind hchk (Ev.ite_true trivial (Ev.ite_true rfl (Ev.ite_true rfl (Ev.bind (texts_ev (l := x) (by omega)) hj)))))))
end Go.Proofs.Ytbdlhgdfnnbjiaa.Pure
