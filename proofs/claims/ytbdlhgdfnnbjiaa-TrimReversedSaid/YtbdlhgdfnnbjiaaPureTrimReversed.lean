import Derived.Test.YtbdlhgdfnnbjiaaGOccurrences
import Derived.Test.YtbdlhgdfnnbjiaaGOrder
import Derived.Test.YtbdlhgdfnnbjiaaGParts
import Derived.Test.YtbdlhgdfnnbjiaaGSpec
import Derived.Test.YtbdlhgdfnnbjiaaGisWord
import Derived.Test.YtbdlhgdfnnbjiaaGturned
import Derived.Test.YtbdlhgdfnnbjiaaPYx10
import Derived.Test.YtbdlhgdfnnbjiaaPYx13
import Derived.Test.YtbdlhgdfnnbjiaaPYx16
import Derived.Test.YtbdlhgdfnnbjiaaPYx3
import Derived.Test.YtbdlhgdfnnbjiaaPYx31
import Derived.Test.YtbdlhgdfnnbjiaaPYx32
import Derived.Test.YtbdlhgdfnnbjiaaPYx33
import Derived.Test.YtbdlhgdfnnbjiaaPYx34
import Derived.Test.YtbdlhgdfnnbjiaaPYx8
import Derived.Test.YtbdlhgdfnnbjiaaBPal
import Derived.Lib.Index
import Derived.Lib.IndexLaws
import Derived.Sort.Walk0
/-! TrimReversed: the plain law, with the plain laws that it leans on. -/
namespace Go.Proofs.Ytbdlhgdfnnbjiaa.Pure
open Go.Proofs.Ytbdlhgdfnnbjiaa.PY Go.RowKit Go.Proofs.YtbdlhgdfnnbjiaaW.PrintWords Go.Proofs.YtbdlhgdfnnbjiaaW.PrintLast Go.Proofs.YtbdlhgdfnnbjiaaW.PrintMore Go.Proofs.Ytbdlhgdfnnbjiaa.Pal
set_option linter.unusedVariables false
theorem awake_ev : Ev (fun k => galloonlaw01_awake.f k) true := Ev.of galloonlaw01_awake.mono (k := 60) (by decide +kernel)
def Word (s : ByteArray) : Prop := s.size ≤ 100 ∧ ∀ c ∈ L s, 97 ≤ c.toNat ∧ c.toNat ≤ 100
theorem isWord_yes {s : ByteArray} (h : Word s) : trim_isWord.f s = some true := by rw [isWord_iff]; exact congrArg some (decide_eq_true h)
/-- The letters from i up to e. -/
def seg (l : List UInt8) (i e : Nat) : List UInt8 := (l.drop i).take (e - i)
theorem seg_len {l : List UInt8} {i e : Nat} (h : e ≤ l.length) : (seg l i e).length = e - i := by
  unfold seg; rw [List.length_take, List.length_drop]; omega
theorem seg_ends {l : List UInt8} {i e : Nat} (h : i + 2 ≤ e) (he : e ≤ l.length) : seg l i e = l[i]'(by omega) :: (seg l (i + 1) (e - 1) ++ [l[e - 1]'(by omega)]) := by
  refine List.ext_getElem? (fun t => ?_)
  unfold seg
  cases t with
  | zero =>
    rw [List.getElem?_take_of_lt (by omega), List.getElem?_drop, List.getElem?_cons_zero, Nat.add_zero, List.getElem?_eq_getElem]
  | succ t =>
    rw [List.getElem?_cons_succ]
    by_cases c : t < e - 1 - (i + 1)
    · rw [List.getElem?_append_left (by rw [List.length_take, List.length_drop]; omega), List.getElem?_take_of_lt (by omega), List.getElem?_take_of_lt c, List.getElem?_drop, List.getElem?_drop]
      congr 1; omega
    · by_cases c2 : t = e - 1 - (i + 1)
      · rw [List.getElem?_append_right (by rw [List.length_take, List.length_drop]; omega), List.getElem?_take_of_lt (by omega), List.getElem?_drop, List.length_take, List.length_drop, show i + (t + 1) = e - 1 by omega, show t - min (e - 1 - (i + 1)) (l.length - (i + 1)) = 0 by omega, List.getElem?_cons_zero, List.getElem?_eq_getElem]
      · rw [List.getElem?_eq_none (by rw [List.length_take, List.length_drop]; omega), List.getElem?_eq_none (by rw [List.length_append, List.length_take, List.length_drop]; simp; omega)]
theorem seg_step {l : List UInt8} {i e : Nat} (h : i + 2 ≤ e) (he : e ≤ l.length) : Pal (seg l i e) ↔ l[i]'(by omega) = l[e - 1]'(by omega) ∧ Pal (seg l (i + 1) (e - 1)) := by
  rw [seg_ends h he]
  constructor
  · intro hp
    have h1 : (l[i]'(by omega) :: (seg l (i + 1) (e - 1) ++ [l[e - 1]'(by omega)])).reverse = _ := hp
    rw [List.reverse_cons, List.reverse_append, List.reverse_singleton, List.singleton_append, List.cons_append] at h1
    have h2 := (List.cons.inj h1).1
    refine ⟨h2.symm, ?_⟩
    rw [h2] at hp
    exact pal_cons_snoc.1 hp
  · rintro ⟨h1, h2⟩
    rw [h1]
    exact pal_cons_snoc.2 h2
theorem pal_inner {l : List UInt8} : ∀ (d i e : Nat), e ≤ l.length → i + d ≤ e - d → d ≤ e → Pal (seg l i e) → Pal (seg l (i + d) (e - d))
  | 0, i, e, _, _, _, h => h
  | d + 1, i, e, he, hd, hde, h => by
    by_cases c : i + 2 ≤ e
    · have := pal_inner d (i + 1) (e - 1) (by omega) (by omega) (by omega) ((seg_step c he).1 h).2
      rw [show i + 1 + d = i + (d + 1) by omega, show e - 1 - d = e - (d + 1) by omega] at this
      exact this
    · omega
theorem pal_short {l : List UInt8} {i e : Nat} (h : e ≤ i + 1) : Pal (seg l i e) := by
  have hl : (seg l i e).length ≤ 1 := by unfold seg; rw [List.length_take]; omega
  rcases hs : seg l i e with _ | ⟨x, _ | ⟨y, t⟩⟩
  · exact pal_nil
  · exact pal_one x
  · rw [hs] at hl; simp at hl
theorem cenL_loop {s : ByteArray} (hs : s.size ≤ 100) : ∀ (k i e : Nat), i + 1 ≤ k → i ≤ e → e ≤ s.size → Pal (seg (L s) i e) →
    ∃ i0 e0 : Nat, trim_centered.l0 k s i ((e : Int) - 1) = some ((e0 : Int) - i0) ∧ i0 + e0 = i + e ∧ i0 ≤ i ∧ e0 ≤ s.size ∧ Pal (seg (L s) i0 e0) ∧ ∀ i' e', i' + e' = i + e → i' < i0 → e' ≤ s.size → ¬ Pal (seg (L s) i' e')
  | 0, i, e, h, _, _, _ => by omega
  | k + 1, i, e, h, hie, he, hp => by
    have hw1 : wrap64 ((e : Int) - 1 + 1) = (e : Int) := by rw [w64 (by omega)]; omega
    have hw3 : wrap64 (wrap64 ((e : Int) - 1 - i) + 1) = (e : Int) - i := by rw [w64 (n := (e : Int) - 1 - i) (by omega), w64 (by omega)]; omega
    by_cases c1 : 0 < i
    · have hw2 : wrap64 ((i : Int) - 1) = ((i - 1 : Nat) : Int) := by rw [w64 (by omega)]; omega
      by_cases c2 : e < s.size
      · have h1 : i - 1 < (L s).length := by rw [L_size]; omega
        have h2 : e < (L s).length := by rw [L_size]; omega
        have hb1 := bt_L h1
        have hb2 := bt_L h2
        have hst : Pal (seg (L s) (i - 1) (e + 1)) ↔ (L s)[i - 1] = (L s)[e] ∧ Pal (seg (L s) (i - 1 + 1) e) := seg_step (l := L s) (i := i - 1) (e := e + 1) (by omega) (by omega)
        rw [show i - 1 + 1 = i by omega] at hst
        by_cases c3 : (L s)[i - 1] = (L s)[e]
        · obtain ⟨i0, e0, q1, q2, q3, q4, q5, q6⟩ := cenL_loop hs k (i - 1) (e + 1) (by omega) (by omega) (by omega) (hst.2 ⟨c3, hp⟩)
          refine ⟨i0, e0, ?_, by omega, by omega, q4, q5, fun i' e' a b d => q6 i' e' (by omega) b d⟩
          rw [← q1]
          conv => lhs; unfold trim_centered.l0
          rw [hw1, hw2, if_pos (by omega), if_pos (by omega), if_pos (by omega), if_pos (by omega), if_pos (by omega), hb1, hb2, if_pos (by rw [c3]), show ((e + 1 : Nat) : Int) - 1 = (e : Int) by omega]
        · refine ⟨i, e, ?_, rfl, Nat.le_refl _, he, hp, fun i' e' a b d hpal => ?_⟩
          · unfold trim_centered.l0
            rw [hw1, hw2, hw3, if_pos (by omega), if_pos (by omega), if_pos (by omega), if_pos (by omega), if_pos (by omega), hb1, hb2, if_neg (fun e => c3 (UInt8.toNat_inj.1 (by omega)))]
          · have := pal_inner (i - 1 - i') i' e' (by rw [L_size]; exact d) (by omega) (by omega) hpal
            rw [show i' + (i - 1 - i') = i - 1 by omega, show e' - (i - 1 - i') = e + 1 by omega] at this
            exact c3 (hst.1 this).1
      · refine ⟨i, e, ?_, rfl, Nat.le_refl _, he, hp, fun i' e' a b d => by omega⟩
        unfold trim_centered.l0
        rw [hw1, hw3, if_pos (by omega), if_neg (by omega)]
    · refine ⟨i, e, ?_, rfl, Nat.le_refl _, he, hp, fun i' e' a b d => by omega⟩
      unfold trim_centered.l0
      rw [hw3, if_neg (by omega)]
/-- What stands at a center. -/
theorem cen_spec {s : ByteArray} (hs : s.size ≤ 100) {c : Nat} (hc : c + 1 < 2 * s.size) :
    ∃ i0 e0 : Nat, trim_centered.f 200 s c = some ((e0 : Int) - i0) ∧ i0 + e0 = c + 1 ∧ i0 ≤ e0 ∧ e0 ≤ s.size ∧ Pal (seg (L s) i0 e0) ∧ ∀ i' e', i' + e' = c + 1 → i' < i0 → e' ≤ s.size → ¬ Pal (seg (L s) i' e') := by
  have hw1 : wrap64 (Int.tdiv (wrap64 ((c : Int) + 1)) 2) = (((c + 1) / 2 : Nat) : Int) := by
    rw [w64 (n := (c : Int) + 1) (by omega), Int.tdiv_eq_ediv_of_nonneg (by omega), w64 (by omega)]; omega
  have hw2 : wrap64 (Int.tdiv (c : Int) 2) = (((c / 2 + 1 : Nat) : Int)) - 1 := by
    rw [Int.tdiv_eq_ediv_of_nonneg (by omega), w64 (by omega)]; omega
  obtain ⟨i0, e0, q1, q2, q3, q4, q5, q6⟩ := cenL_loop hs 200 ((c + 1) / 2) (c / 2 + 1) (by omega) (by omega) (by omega) (pal_short (by omega))
  refine ⟨i0, e0, ?_, by omega, by omega, q4, q5, fun i' e' a b d => q6 i' e' (by omega) b d⟩
  unfold trim_centered.f
  rw [hw1, hw2]
  exact q1
theorem seg_L (s : ByteArray) (a b : Nat) : L (s.extract a b) = seg (L s) a b := L_extract s a b
theorem mem_partsC {s : ByteArray} {c : Nat} : ∀ (k i0 e0 : Nat) (t : Int × ByteArray), i0 + e0 = c + 1 → (t ∈ partsC s c k ((e0 : Int) - i0) ↔ ∃ d : Nat, d < k ∧ i0 + d + d < e0 ∧ t = (((i0 + d : Nat) : Int), s.extract (i0 + d) (e0 - d)))
  | 0, i0, e0, t, h => by
    simp [partsC]
  | k + 1, i0, e0, t, h => by
    by_cases c1 : (0 : Int) < (e0 : Int) - i0
    · have hp : ((c : Int) + 1 - ((e0 : Int) - i0)) / 2 = (i0 : Int) := by omega
      have hq : ((i0 : Int) + ((e0 : Int) - i0)).toNat = e0 := by omega
      rw [partsC_pos s c k _ c1, hp, hq, Int.toNat_natCast, List.mem_cons]
      by_cases c2 : i0 + 2 ≤ e0
      · have e : (e0 : Int) - i0 - 2 = ((e0 - 1 : Nat) : Int) - ((i0 + 1 : Nat) : Int) := by omega
        rw [e, mem_partsC k (i0 + 1) (e0 - 1) t (by omega)]
        constructor
        · rintro (rfl | ⟨d, h1, h2, rfl⟩)
          · exact ⟨0, by omega, by omega, rfl⟩
          · refine ⟨d + 1, by omega, by omega, ?_⟩
            rw [show i0 + 1 + d = i0 + (d + 1) by omega, show e0 - 1 - d = e0 - (d + 1) by omega]
        · rintro ⟨d, h1, h2, rfl⟩
          cases d with
          | zero => exact Or.inl rfl
          | succ d =>
            refine Or.inr ⟨d, by omega, by omega, ?_⟩
            rw [show i0 + 1 + d = i0 + (d + 1) by omega, show e0 - 1 - d = e0 - (d + 1) by omega]
      · rw [partsC_neg s c k _ (by omega)]
        constructor
        · rintro (rfl | h1)
          · exact ⟨0, by omega, by omega, rfl⟩
          · cases h1
        · rintro ⟨d, h1, h2, rfl⟩
          obtain rfl : d = 0 := by omega
          exact Or.inl rfl
    · rw [partsC_neg s c _ _ c1]
      constructor
      · intro h1; cases h1
      · rintro ⟨d, h1, h2, _⟩; omega
/-- A palindrome within a word, and its place. -/
def IsPalAt (s : ByteArray) (a b : Nat) : Prop := a < b ∧ b ≤ s.size ∧ Pal (seg (L s) a b)
theorem mem_partsL {s : ByteArray} (hs : s.size ≤ 100) (t : Int × ByteArray) : t ∈ partsL s ↔ ∃ a b : Nat, IsPalAt s a b ∧ t = ((a : Int), s.extract a b) := by
  unfold partsL partsU
  rw [List.mem_flatMap]
  constructor
  · rintro ⟨c, hc, ht⟩
    rw [List.mem_range] at hc
    obtain ⟨i0, e0, q1, q2, q3, q4, q5, q6⟩ := cen_spec hs (c := c) (by omega)
    have hcen : cen s c = (e0 : Int) - i0 := by unfold cen; rw [q1]; rfl
    rw [hcen, mem_partsC 101 i0 e0 t q2] at ht
    obtain ⟨d, h1, h2, rfl⟩ := ht
    exact ⟨i0 + d, e0 - d, ⟨by omega, by omega, pal_inner d i0 e0 (by rw [L_size]; exact q4) (by omega) (by omega) q5⟩, rfl⟩
  · rintro ⟨a, b, ⟨h1, h2, h3⟩, rfl⟩
    obtain ⟨i0, e0, q1, q2, q3, q4, q5, q6⟩ := cen_spec hs (c := a + b - 1) (by omega)
    have hcen : cen s (a + b - 1) = (e0 : Int) - i0 := by unfold cen; rw [q1]; rfl
    refine ⟨a + b - 1, by rw [List.mem_range]; omega, ?_⟩
    have hai : i0 ≤ a := by
      rcases Nat.lt_or_ge a i0 with h | h
      · exact absurd h3 (q6 a b (by omega) h h2)
      · exact h
    rw [hcen, mem_partsC 101 i0 e0 _ q2]
    exact ⟨a - i0, by omega, by omega, by rw [show i0 + (a - i0) = a by omega, show e0 - (a - i0) = b by omega]⟩
theorem palSpec_iff {s : ByteArray} (hs : s.size ≤ 100) (y : ByteArray) : y ∈ palSpec s ↔ ∃ a b : Nat, IsPalAt s a b ∧ y = s.extract a b := by
  rw [palSpec_mem]
  constructor
  · rintro ⟨t, ht, rfl⟩
    obtain ⟨a, b, h, rfl⟩ := (mem_partsL hs t).1 ht
    exact ⟨a, b, h, rfl⟩
  · rintro ⟨a, b, h, rfl⟩
    exact ⟨((a : Int), s.extract a b), (mem_partsL hs _).2 ⟨a, b, h, rfl⟩, rfl⟩
theorem ltP_irrefl (x : ByteArray) : ¬ ltP x x = true := fun h => ltL_irrefl _ (ltP_iff.1 h)
theorem sorted_eq : ∀ l1 l2 : List ByteArray, l1.Pairwise (fun a b => ltP a b = true) → l2.Pairwise (fun a b => ltP a b = true) → (∀ y, y ∈ l1 ↔ y ∈ l2) → l1 = l2
  | [], [], _, _, _ => rfl
  | [], y :: l2, _, _, h => absurd ((h y).2 (List.mem_cons_self ..)) (by simp)
  | x :: l1, [], _, _, h => absurd ((h x).1 (List.mem_cons_self ..)) (by simp)
  | x :: l1, y :: l2, h1, h2, h => by
    obtain ⟨a1, b1⟩ := List.pairwise_cons.1 h1
    obtain ⟨a2, b2⟩ := List.pairwise_cons.1 h2
    have hxy : x = y := by
      rcases List.mem_cons.1 ((h x).1 (List.mem_cons_self ..)) with e | e
      · exact e
      · rcases List.mem_cons.1 ((h y).2 (List.mem_cons_self ..)) with e2 | e2
        · exact e2.symm
        · exact absurd (ltP_trans (a1 y e2) (a2 x e)) (ltP_irrefl x)
    subst hxy
    congr 1
    refine sorted_eq l1 l2 b1 b2 (fun z => ⟨fun hz => ?_, fun hz => ?_⟩)
    · rcases List.mem_cons.1 ((h z).1 (List.mem_cons_of_mem _ hz)) with e | e
      · exact absurd (e ▸ a1 z hz) (ltP_irrefl z)
      · exact e
    · rcases List.mem_cons.1 ((h z).2 (List.mem_cons_of_mem _ hz)) with e | e
      · exact absurd (e ▸ a2 z hz) (ltP_irrefl z)
      · exact e
theorem insP_len (x : ByteArray) : ∀ l, (insP x l).length ≤ l.length + 1
  | [] => Nat.le_refl _
  | y :: l => by
    have := insP_len x l
    unfold insP
    split
    · simp
    · split <;> simp <;> omega
theorem palSpec_len (s : ByteArray) (hs : s.size ≤ 100) : (palSpec s).length ≤ 100000 := by
  have h1 := partsL_len s hs
  have h2 : ∀ (ts : List (Int × ByteArray)) (l : List ByteArray), (ts.foldl (fun l x => insP x.2 l) l).length ≤ l.length + ts.length := by
    intro ts
    induction ts with
    | nil => intro l; simp
    | cons t ts ih => intro l; have := ih (insP t.2 l); have := insP_len t.2 l; simp only [List.foldl_cons, List.length_cons]; omega
  have := h2 (partsL s) []
  unfold palSpec
  simp at this
  omega
theorem texts_loop {l : List ByteArray} (hl : l.length ≤ 1000000000) : ∀ n i : Nat, i + n = l.length → Ev (fun k => galloonlaw01_texts.l0 k l l i) true
  | 0, i, h => by
    refine Ev.step (f := fun _ => some true) (fun k => ?_) (Ev.now _)
    simp only [galloonlaw01_texts.l0]; rw [if_neg (by omega)]
  | n + 1, i, h => by
    have hw2 : wrap64 ((i : Int) + 1) = ((i + 1 : Nat) : Int) := by rw [w64 (by omega)]; rfl
    refine Ev.step (f := fun k => galloonlaw01_texts.l0 k l l ((i + 1 : Nat) : Int)) (fun k => ?_) (texts_loop hl n (i + 1) (by omega))
    simp only [galloonlaw01_texts.l0]; rw [if_pos (by omega), if_pos (by omega), if_pos (by omega), if_pos trivial, hw2]
theorem texts_ev {l : List ByteArray} (hl : l.length ≤ 1000000000) : Ev (fun k => galloonlaw01_texts.f k l l) true := by
  unfold galloonlaw01_texts.f
  exact Ev.ite_true rfl (texts_loop hl l.length 0 (by omega))
def cenL (s : ByteArray) : List Int := (List.range (2 * s.size - 1)).map fun c => cen s c
theorem cenL_len (s : ByteArray) : (cenL s).length = 2 * s.size - 1 := by simp [cenL]
theorem cen_some {s : ByteArray} (hs : s.size ≤ 100) {c : Nat} (hc : c + 1 < 2 * s.size) : trim_centered.f 200 s c = some (cen s c) := by
  obtain ⟨i0, e0, q1, _⟩ := cen_spec hs hc
  unfold cen
  rw [q1]; rfl
theorem cenL_take {s : ByteArray} {i : Nat} (h : i < 2 * s.size - 1) : (cenL s).take (i + 1) = (cenL s).take i ++ [cen s i] := by
  have hi : i < (cenL s).length := by rw [cenL_len]; exact h
  rw [List.take_add_one, List.getElem?_eq_getElem hi]
  simp [cenL]
theorem cen_set {s : ByteArray} {i n : Nat} (h : i + (n + 1) = 2 * s.size - 1) : ((cenL s).take i ++ List.replicate (n + 1) 0).set i (cen s i) = (cenL s).take (i + 1) ++ List.replicate n 0 := by
  have hl : ((cenL s).take i).length = i := by rw [List.length_take, cenL_len]; omega
  rw [List.set_append_right _ _ (by omega), hl, Nat.sub_self, cenL_take (by omega), List.append_assoc]
  rfl
theorem centers_loop {s : ByteArray} (hs : s.size ≤ 100) : ∀ n i : Nat, i + n = 2 * s.size - 1 → Ev (fun k => trim_Centers.l0 k s ((cenL s).take i ++ List.replicate n 0) ((2 * s.size - 1 : Nat) : Int) i) (cenL s, 0)
  | 0, i, h => by
    refine Ev.step (f := fun _ => some ((cenL s).take i ++ List.replicate 0 0, 0)) (fun k => ?_) (Ev.to (Ev.now _) ?_)
    · simp only [trim_Centers.l0]; rw [if_neg (by omega)]
    · rw [List.take_of_length_le (by rw [cenL_len]; omega)]; simp
  | n + 1, i, h => by
    have hw : wrap64 ((i : Int) + 1) = ((i + 1 : Nat) : Int) := by rw [w64 (by omega)]; rfl
    have hc : Ev (fun k => trim_centered.f k s i) (cen s i) := Ev.of (trim_centered.mono s i) (cen_some hs (by omega))
    refine Ev.step (f := fun k => (trim_centered.f k s i).bind fun t => trim_Centers.l0 k s (((cenL s).take i ++ List.replicate (n + 1) 0).set i t) ((2 * s.size - 1 : Nat) : Int) ((i + 1 : Nat) : Int)) (fun k => ?_) (Ev.bind hc ?_)
    · simp only [trim_Centers.l0]
      have h3 : (0 : Int) ≤ (i : Int) := by omega
      have h4 : (i : Int) < (((cenL s).take i ++ List.replicate (n + 1) 0).length : Int) := by rw [List.length_append, List.length_take, cenL_len, List.length_replicate]; omega
      rw [if_pos (by omega)]
      simp only [if_pos h3, if_pos h4, hw, Int.toNat_natCast]
    · rw [cen_set h]
      exact centers_loop hs n (i + 1) (by omega)
theorem Centers_ev {s : ByteArray} (h : Word s) : Ev (fun k => trim_Centers.f k s) (cenL s, 0) := by
  have hs := h.1
  have hm : mx 0 (wrap64 ((wrap64 (2 * (s.size : Int))) - 1)) = ((2 * s.size - 1 : Nat) : Int) := by
    rw [w64 (n := 2 * (s.size : Int)) (by omega), w64 (by omega)]
    unfold mx
    split <;> omega
  have h1 : (0 : Int) ≤ ((2 * s.size - 1 : Nat) : Int) := Int.natCast_nonneg _
  have h2 : 2 * s.size - 1 ≤ 35184372088832 := by omega
  have h3 := centers_loop hs (2 * s.size - 1) 0 (Nat.zero_add _)
  rw [List.take_zero, List.nil_append, show (((0 : Nat)) : Int) = (0 : Int) from rfl] at h3
  obtain ⟨m, hmm⟩ : ∃ m, m = 2 * s.size - 1 := ⟨_, rfl⟩
  rw [← hmm] at hm h1 h2 h3
  have e : ∀ k, trim_Centers.f k s = trim_Centers.l0 k s (List.replicate m 0) (m : Int) 0 := by
    intro k
    unfold trim_Centers.f
    rw [isWord_yes h, Option.bind_some, if_pos rfl, hm, if_pos h1, Int.toNat_natCast, if_pos h2, Option.bind_some, List.length_replicate]
  exact Ev.congr e h3
theorem Palindromes_yes {s : ByteArray} (h : Word s) : trim_Palindromes.f s = some (palSpec s, 0) := by
  unfold trim_Palindromes.f
  rw [isWord_yes h]
  rfl
/-- A tamed string is a word. -/
theorem tame_loop {a : ByteArray} {m : Int} (hm : m ≤ 100) (ha : a.size ≤ 140737488351232) : ∀ (n i : Nat) (x5 : List Int), i + n = min a.size m.toNat → x5.length = i → (∀ c ∈ x5, 97 ≤ c ∧ c ≤ 100) → ∃ t, Ev (fun k => galloonlaw01_tame.l0 k a m x5 i) t ∧ Word t ∧ (t.size : Int) ≤ max 0 m
  | 0, i, x5, h, hl, hx => by
    refine ⟨strOfNums x5, ?_, ⟨by rw [strOfNums_size]; omega, ?_⟩, by rw [strOfNums_size]; omega⟩
    · by_cases c : (i : Int) < (a.size : Int)
      · refine Ev.step (f := fun _ => some (strOfNums x5)) (fun k => ?_) (Ev.now _)
        simp only [galloonlaw01_tame.l0]
        rw [if_pos c, if_neg (by omega)]
      · refine Ev.step (f := fun _ => some (strOfNums x5)) (fun k => ?_) (Ev.now _)
        simp only [galloonlaw01_tame.l0]
        rw [if_neg c]
    · intro c hc
      unfold L at hc
      rw [strOfNums_data] at hc
      obtain ⟨n, hn, rfl⟩ := List.mem_map.1 hc
      have := hx n hn
      rw [UInt8.toNat_ofNat', Nat.mod_eq_of_lt (by omega)]
      omega
  | n + 1, i, x5, h, hl, hx => by
    have hi : i < (L a).length := by rw [L_size]; omega
    have hb := bt_L hi
    have hw : wrap64 ((i : Int) + 1) = ((i + 1 : Nat) : Int) := by rw [w64 (by omega)]; rfl
    have hr : 0 ≤ Int.tmod (bt a i) 4 ∧ Int.tmod (bt a i) 4 ≤ 3 := by
      rw [Int.tmod_eq_emod_of_nonneg (by rw [hb]; omega)]; omega
    obtain ⟨t, h1, h2, h3⟩ := tame_loop hm ha n (i + 1) (x5 ++ [(97 + (Int.tmod (bt a i) 4)) % 256]) (by omega) (by simp [hl]) (by
      intro c hc
      rcases List.mem_append.1 hc with hc | hc
      · exact hx c hc
      · have := List.mem_singleton.1 hc
        omega)
    refine ⟨t, Ev.step (f := fun k => galloonlaw01_tame.l0 k a m (x5 ++ [(97 + (Int.tmod (bt a i) 4)) % 256]) ((i + 1 : Nat) : Int)) (fun k => ?_) h1, h2, h3⟩
    simp only [galloonlaw01_tame.l0]
    rw [if_pos (by omega), if_pos (by omega), if_pos (by omega), if_pos (by omega), hw]
theorem tame_ev {a : ByteArray} {m : Int} (hm : m ≤ 100) (ha : a.size ≤ 140737488351232) : ∃ t, Ev (fun k => galloonlaw01_tame.f k a m) t ∧ Word t ∧ (t.size : Int) ≤ max 0 m :=
  tame_loop hm ha (min a.size m.toNat) 0 [] (by omega) rfl (by simp)
def PartsOf (l : List UInt8) (ps : List (List UInt8)) : Prop := (∀ p ∈ ps, p ≠ [] ∧ Pal p) ∧ ps.flatten = l
theorem parts_append {a b : List UInt8} {ps qs : List (List UInt8)} (h : PartsOf a ps) (h' : PartsOf b qs) : PartsOf (a ++ b) (ps ++ qs) := by
  refine ⟨fun p hp => ?_, by rw [List.flatten_append, h.2, h'.2]⟩
  rcases List.mem_append.1 hp with hp | hp
  · exact h.1 p hp
  · exact h'.1 p hp
theorem parts_rev {l : List UInt8} {ps : List (List UInt8)} (h : PartsOf l ps) : PartsOf l.reverse ps.reverse := by
  refine ⟨fun p hp => h.1 p (List.mem_reverse.1 hp), ?_⟩
  have e : ps.map List.reverse = ps := by
    have : ps.map List.reverse = ps.map id := List.map_congr_left (fun p hp => (h.1 p hp).2)
    rw [this, List.map_id]
  have := List.reverse_flatten (L := ps)
  rw [h.2, e] at this
  exact this.symm
theorem parts_last {l : List UInt8} {ps : List (List UInt8)} (h : PartsOf l ps) (hl : l ≠ []) : ∃ q ps', q < l.length ∧ Pal (l.drop q) ∧ ps = ps' ++ [l.drop q] ∧ PartsOf (l.take q) ps' := by
  rcases List.eq_nil_or_concat ps with rfl | ⟨ps', p, rfl⟩
  · exact absurd h.2.symm hl
  · have hf := h.2
    rw [List.concat_eq_append, List.flatten_append] at hf
    simp only [List.flatten_cons, List.flatten_nil, List.append_nil] at hf
    have hp := h.1 p (by simp)
    have hd : l.drop ps'.flatten.length = p := by rw [← hf, List.drop_left]
    have ht : l.take ps'.flatten.length = ps'.flatten := by rw [← hf, List.take_left]
    refine ⟨ps'.flatten.length, ps', ?_, by rw [hd]; exact hp.2, by rw [hd, List.concat_eq_append], ⟨fun q hq => h.1 q (by simp [hq]), ht.symm⟩⟩
    have := congrArg List.length hf
    rw [List.length_append] at this
    have : 0 < p.length := List.length_pos_iff.2 hp.1
    omega
theorem parts_snoc {l : List UInt8} {ps : List (List UInt8)} {q i : Nat} (hq : q < i) (hi : i ≤ l.length) (hp : Pal (seg l q i)) (h : PartsOf (l.take q) ps) : PartsOf (l.take i) (ps ++ [seg l q i]) := by
  have e : l.take i = l.take q ++ seg l q i := by
    have := (List.take_append_drop q (l.take i)).symm
    rw [List.take_take, Nat.min_eq_left (by omega), List.drop_take] at this
    exact this
  rw [e]
  refine parts_append h ⟨fun p hp' => ?_, by simp⟩
  rw [List.mem_singleton.1 hp']
  refine ⟨fun e0 => ?_, hp⟩
  have := seg_len (i := q) hi
  rw [e0] at this
  simp at this; omega
/-- The smallest number of palindromes. -/
def Least (l : List UInt8) (n : Nat) : Prop := (∃ ps, PartsOf l ps ∧ ps.length = n) ∧ ∀ ps, PartsOf l ps → n ≤ ps.length
theorem least_nil : Least [] 0 := ⟨⟨[], ⟨by simp, rfl⟩, rfl⟩, fun _ _ => Nat.zero_le _⟩
theorem least_step {l : List UInt8} {i : Nat} (h0 : 0 < i) (hi : i ≤ l.length) {T : Nat → Nat} (hT : ∀ q, q < i → Least (l.take q) (T q)) {v : Nat} (h1 : ∃ q, q < i ∧ Pal (seg l q i) ∧ v = T q + 1) (h2 : ∀ q, q < i → Pal (seg l q i) → v ≤ T q + 1) : Least (l.take i) v := by
  constructor
  · obtain ⟨q, hq, hp, rfl⟩ := h1
    obtain ⟨ps, hps, hl⟩ := (hT q hq).1
    exact ⟨_, parts_snoc hq hi hp hps, by rw [List.length_append, hl]; rfl⟩
  · intro ps hps
    have hlen : (l.take i).length = i := by rw [List.length_take]; omega
    obtain ⟨q, ps', hq, hp, rfl, hps'⟩ := parts_last hps (fun e => by rw [e] at hlen; simp at hlen; omega)
    rw [hlen] at hq
    rw [List.drop_take] at hp
    rw [List.take_take, Nat.min_eq_left (by omega)] at hps'
    have := h2 q hq hp
    have := (hT q hq).2 ps' hps'
    rw [List.length_append]
    simp; omega
theorem least_eq {l : List UInt8} {n m : Nat} (h : Least l n) (h' : Least l m) : n = m := by
  obtain ⟨ps, hp, rfl⟩ := h.1
  obtain ⟨qs, hq, rfl⟩ := h'.1
  have := h.2 qs hq
  have := h'.2 ps hp
  omega
theorem least_rev {l : List UInt8} {n : Nat} (h : Least l n) : Least l.reverse n := by
  obtain ⟨ps, hp, hl⟩ := h.1
  refine ⟨⟨ps.reverse, parts_rev hp, by simp [hl]⟩, fun qs hq => ?_⟩
  have := parts_rev hq
  rw [List.reverse_reverse] at this
  have := h.2 _ this
  simpa using this
def sumTo : Nat → (Nat → Nat) → Nat
  | 0, _ => 0
  | n + 1, g => sumTo n g + g n
theorem sumTo_congr {g f : Nat → Nat} : ∀ n, (∀ i, i < n → g i = f i) → sumTo n g = sumTo n f
  | 0, _ => rfl
  | n + 1, h => by unfold sumTo; rw [sumTo_congr n (fun i hi => h i (by omega)), h n (by omega)]
theorem sumTo_zero : ∀ n, sumTo n (fun _ => 0) = 0
  | 0 => rfl
  | n + 1 => by show sumTo n _ + 0 = 0; rw [sumTo_zero n]
theorem sumTo_add (g f : Nat → Nat) : ∀ n, sumTo n (fun i => g i + f i) = sumTo n g + sumTo n f
  | 0 => rfl
  | n + 1 => by show sumTo n _ + (g n + f n) = (sumTo n g + g n) + (sumTo n f + f n); rw [sumTo_add g f n]; omega
theorem sumTo_mul (c : Nat) (g : Nat → Nat) : ∀ n, sumTo n (fun i => c * g i) = c * sumTo n g
  | 0 => rfl
  | n + 1 => by unfold sumTo; rw [sumTo_mul c g n, Nat.mul_add]
theorem sumTo_mulr (c : Nat) (g : Nat → Nat) (n : Nat) : sumTo n (fun i => g i * c) = sumTo n g * c := by
  rw [Nat.mul_comm, ← sumTo_mul]
  exact sumTo_congr n (fun i _ => Nat.mul_comm _ _)
theorem sumTo_comm (g : Nat → Nat → Nat) (m : Nat) : ∀ n, sumTo n (fun i => sumTo m (fun j => g i j)) = sumTo m (fun j => sumTo n (fun i => g i j))
  | 0 => (sumTo_zero m).symm
  | n + 1 => by
    conv => lhs; unfold sumTo
    rw [sumTo_comm g m n, ← sumTo_add]
    rfl
theorem sumTo_split (g : Nat → Nat) (m : Nat) : ∀ n, sumTo (m + n) g = sumTo m g + sumTo n (fun i => g (m + i))
  | 0 => rfl
  | n + 1 => by rw [← Nat.add_assoc]; simp only [sumTo]; rw [sumTo_split g m n]; omega
theorem sumTo_head (g : Nat → Nat) (n : Nat) : sumTo (n + 1) g = g 0 + sumTo n (fun i => g (i + 1)) := by
  have := sumTo_split g 1 n
  rw [Nat.add_comm 1 n] at this
  rw [this]
  simp only [sumTo, Nat.zero_add, Nat.add_comm 1]
theorem sumTo_flip : ∀ (n : Nat) (g : Nat → Nat), sumTo (n + 1) (fun i => g (n - i)) = sumTo (n + 1) g
  | 0, g => rfl
  | n + 1, g => by
    rw [sumTo_head]
    have e : sumTo (n + 1) (fun i => g (n + 1 - (i + 1))) = sumTo (n + 1) g := by
      rw [← sumTo_flip n g]
      exact sumTo_congr _ (fun i hi => by rw [Nat.add_sub_add_right])
    rw [e]
    simp only [sumTo, Nat.sub_zero]
    omega
theorem sumTo_one {g : Nat → Nat} (c : Nat) : ∀ n, (∀ i, i < n → i ≠ c → g i = 0) → c < n → sumTo n g = g c
  | 0, _, h => absurd h (Nat.not_lt_zero _)
  | n + 1, h, hc => by
    unfold sumTo
    rcases Nat.lt_or_eq_of_le (Nat.le_of_lt_succ hc) with c1 | c1
    · rw [sumTo_one c n (fun i hi => h i (by omega)) c1, h n (by omega) (by omega), Nat.add_zero]
    · have : sumTo n g = 0 := by
        rw [← sumTo_zero n]
        exact sumTo_congr n (fun i hi => h i (by omega) (by omega))
      rw [this, c1, Nat.zero_add]
def E (l : List UInt8) (p j : Nat) : Nat := if p < j ∧ Pal (seg l p j) then 1 else 0
theorem E_zero {l : List UInt8} {p j : Nat} (h : j ≤ p) : E l p j = 0 := if_neg (by omega)
def wF (l : List UInt8) : Nat → Nat → Nat
  | 0, _ => 1
  | i + 1, j => if j ≤ i then wF l i j else sumTo (i + 1) (fun p => E l p (i + 1) * wF l i p)
/-- How many ways there are to make the first j letters. -/
def wv (l : List UInt8) (j : Nat) : Nat := wF l j j
theorem wF_eq (l : List UInt8) (j : Nat) : ∀ i, wF l (j + i) j = wv l j
  | 0 => rfl
  | i + 1 => by
    rw [← Nat.add_assoc]
    show (if j ≤ j + i then wF l (j + i) j else _) = _
    rw [if_pos (by omega)]
    exact wF_eq l j i
theorem wv_succ (l : List UInt8) (i : Nat) : wv l (i + 1) = sumTo (i + 1) (fun p => E l p (i + 1) * wv l p) := by
  show (if i + 1 ≤ i then _ else _) = _
  rw [if_neg (by omega)]
  refine sumTo_congr _ (fun p hp => ?_)
  have := wF_eq l p (i - p)
  rw [show p + (i - p) = i by omega] at this
  rw [this]
/-- Chains of k palindromes from i to j. -/
def PK (l : List UInt8) (n : Nat) : Nat → Nat → Nat → Nat
  | 0, i, j => if i = j then 1 else 0
  | k + 1, i, j => sumTo (n + 1) (fun p => PK l n k i p * E l p j)
theorem PK_left (l : List UInt8) (n : Nat) : ∀ k i j, i ≤ n → j ≤ n → PK l n (k + 1) i j = sumTo (n + 1) (fun p => E l i p * PK l n k p j)
  | 0, i, j, hi, hj => by
    have h1 : PK l n 1 i j = E l i j := by
      show sumTo (n + 1) (fun p => (if i = p then 1 else 0) * E l p j) = _
      rw [sumTo_one i (n + 1) (fun p _ hp => by rw [if_neg (fun e => hp e.symm), Nat.zero_mul]) (by omega)]
      simp
    rw [h1]
    show _ = sumTo (n + 1) (fun p => E l i p * (if p = j then 1 else 0))
    rw [sumTo_one j (n + 1) (fun p _ hp => by rw [if_neg hp, Nat.mul_zero]) (by omega)]
    simp
  | k + 1, i, j, hi, hj => by
    show sumTo (n + 1) (fun p => PK l n (k + 1) i p * E l p j) = _
    have e1 : sumTo (n + 1) (fun p => PK l n (k + 1) i p * E l p j) = sumTo (n + 1) (fun p => sumTo (n + 1) (fun q => E l i q * (PK l n k q p * E l p j))) := by
      refine sumTo_congr _ (fun p hp => ?_)
      rw [PK_left l n k i p hi (by omega), ← sumTo_mulr]
      exact sumTo_congr _ (fun q _ => Nat.mul_assoc _ _ _)
    rw [e1, sumTo_comm]
    refine sumTo_congr _ (fun q hq => ?_)
    rw [sumTo_mul]
    rfl
theorem E_rev {l : List UInt8} {i j : Nat} (hi : i ≤ l.length) (hj : j ≤ l.length) : E l.reverse i j = E l (l.length - j) (l.length - i) := by
  by_cases c : i < j
  · have hs : seg l.reverse i j = (seg l (l.length - j) (l.length - i)).reverse := by
      unfold seg
      rw [← List.drop_take, List.take_reverse, List.drop_reverse]
      congr 1
      rw [List.length_drop, show l.length - (l.length - j) - i = l.length - i - (l.length - j) by omega]
    unfold E
    rw [hs]
    have hp : Pal (seg l (l.length - j) (l.length - i)).reverse ↔ Pal (seg l (l.length - j) (l.length - i)) := by
      unfold Pal
      rw [List.reverse_reverse]
      exact eq_comm
    by_cases c2 : Pal (seg l (l.length - j) (l.length - i))
    · rw [if_pos ⟨c, hp.2 c2⟩, if_pos ⟨by omega, c2⟩]
    · rw [if_neg (fun h => c2 (hp.1 h.2)), if_neg (fun h => c2 h.2)]
  · rw [E_zero (by omega), E_zero (by omega)]
theorem PK_rev (l : List UInt8) : ∀ k i j, i ≤ l.length → j ≤ l.length → PK l.reverse l.length k i j = PK l l.length k (l.length - j) (l.length - i)
  | 0, i, j, hi, hj => by
    show (if i = j then 1 else 0) = (if l.length - j = l.length - i then 1 else 0)
    by_cases c : i = j
    · rw [if_pos c, if_pos (by omega)]
    · rw [if_neg c, if_neg (by omega)]
  | k + 1, i, j, hi, hj => by
    rw [PK_left l l.length k _ _ (by omega) (by omega)]
    show sumTo (l.length + 1) (fun p => PK l.reverse l.length k i p * E l.reverse p j) = _
    rw [← sumTo_flip]
    refine sumTo_congr _ (fun p hp => ?_)
    rw [PK_rev l k i _ hi (by omega), E_rev (by omega) hj, show l.length - (l.length - p) = p by omega, Nat.mul_comm]
theorem PK_sum (l : List UInt8) (n : Nat) : ∀ K j, j ≤ K → j ≤ n → sumTo (K + 1) (fun k => PK l n k 0 j) = wv l j
  | 0, j, h, _ => by
    obtain rfl : j = 0 := by omega
    rfl
  | K + 1, j, h, hn => by
    rw [sumTo_head]
    have e1 : sumTo (K + 1) (fun k => PK l n (k + 1) 0 j) = sumTo (n + 1) (fun p => E l p j * wv l p) := by
      show sumTo (K + 1) (fun k => sumTo (n + 1) (fun p => PK l n k 0 p * E l p j)) = _
      rw [sumTo_comm]
      refine sumTo_congr _ (fun p hp => ?_)
      rw [sumTo_mulr]
      by_cases c : p < j
      · rw [PK_sum l n K p (by omega) (by omega), Nat.mul_comm]
      · rw [E_zero (by omega), Nat.mul_zero, Nat.zero_mul]
    rw [e1]
    cases j with
    | zero =>
      have : sumTo (n + 1) (fun p => E l p 0 * wv l p) = 0 := (sumTo_congr _ (fun p _ => by rw [E_zero (Nat.zero_le _), Nat.zero_mul])).trans (sumTo_zero (n + 1))
      rw [this]; rfl
    | succ j =>
      rw [wv_succ, show n + 1 = j + 1 + (n - j) by omega, sumTo_split]
      have : sumTo (n - j) (fun p => E l (j + 1 + p) (j + 1) * wv l (j + 1 + p)) = 0 := (sumTo_congr _ (fun p _ => by rw [E_zero (by omega), Nat.zero_mul])).trans (sumTo_zero (n - j))
      rw [this]
      simp [PK]
theorem wv_rev (l : List UInt8) : wv l.reverse l.length = wv l l.length := by
  rw [← PK_sum l l.length l.length l.length (Nat.le_refl _) (Nat.le_refl _), ← PK_sum l.reverse l.length l.length l.length (Nat.le_refl _) (Nat.le_refl _)]
  refine sumTo_congr _ (fun k _ => ?_)
  rw [PK_rev l k 0 _ (by omega) (by omega)]
  simp
theorem rd_set {x : List Int} {i j : Nat} {v : Int} (hi : i < x.length) : rd (x.set i v) (j : Int) = if j = i then v else rd x (j : Int) := by
  unfold rd
  rw [Int.toNat_natCast, List.getD_eq_getElem?_getD, List.getD_eq_getElem?_getD, List.getElem?_set]
  by_cases c : i = j
  · rw [if_pos c, if_pos c.symm, if_pos hi]; rfl
  · rw [if_neg c, if_neg (fun e => c e.symm)]
theorem rd_rep {n j : Nat} : rd (List.replicate n 0) (j : Int) = 0 := by
  unfold rd
  rw [List.getD_eq_getElem?_getD, List.getElem?_replicate]
  split <;> rfl
theorem rev_loop : ∀ (n : Nat) (M A B : List ByteArray), M.length ≤ n → A.length = B.length → (A ++ M ++ B).length ≤ 1000000 → Ev (fun k => slices_Reverse_string_string.l0 k (A ++ M ++ B) (A.length : Int) ((A.length : Int) + M.length - 1)) (A ++ M.reverse ++ B)
  | n, [], A, B, _, h, _ => by
    refine Ev.step (f := fun _ => some (A ++ [] ++ B)) (fun k => ?_) (Ev.now _)
    simp only [slices_Reverse_string_string.l0]
    rw [if_neg (by simp only [List.length_nil]; omega)]
  | n, [x], A, B, _, h, _ => by
    refine Ev.step (f := fun _ => some (A ++ [x] ++ B)) (fun k => ?_) (Ev.now _)
    simp only [slices_Reverse_string_string.l0]
    rw [if_neg (by simp only [List.length_cons, List.length_nil]; omega)]
  | 0, _ :: _ :: _, _, _, hn, _, _ => absurd hn (by simp)
  | n + 1, a :: y :: t, A, B, hn, h, hz => by
    obtain ⟨M, b, hM⟩ : ∃ M b, y :: t = M ++ [b] := by
      rcases List.eq_nil_or_concat (y :: t) with e | ⟨M, b, e⟩
      · simp at e
      · exact ⟨M, b, by rw [e, List.concat_eq_append]⟩
    rw [hM] at hn hz ⊢
    have hlM : (a :: (M ++ [b])).length = M.length + 2 := by simp
    have hall : (A ++ a :: (M ++ [b]) ++ B).length = A.length + (M.length + 2) + B.length := by simp only [List.length_append, hlM]
    rw [hall] at hz
    have e1 : ((A.length : Int) + (a :: (M ++ [b])).length - 1) = ((A.length + M.length + 1 : Nat) : Int) := by rw [hlM]; omega
    have r1 : rdOf ByteArray.empty (A ++ a :: (M ++ [b]) ++ B) (A.length : Int) = a := by
      unfold rdOf
      rw [Int.toNat_natCast, List.getD_eq_getElem?_getD, List.append_assoc, List.getElem?_append_right (by omega), Nat.sub_self]
      rfl
    have r2 : rdOf ByteArray.empty (A ++ a :: (M ++ [b]) ++ B) ((A.length + M.length + 1 : Nat) : Int) = b := by
      unfold rdOf
      rw [Int.toNat_natCast, List.getD_eq_getElem?_getD, List.append_assoc, List.getElem?_append_right (by omega), show A.length + M.length + 1 - A.length = M.length + 1 by omega, List.cons_append, List.getElem?_cons_succ, List.append_assoc, List.getElem?_append_right (by omega), Nat.sub_self]
      rfl
    have s1 : ((A ++ a :: (M ++ [b]) ++ B).set A.length b).set (A.length + M.length + 1) a = (A ++ [b]) ++ M ++ ([a] ++ B) := by
      have h1 : (A ++ a :: (M ++ [b]) ++ B).set A.length b = A ++ b :: (M ++ [b]) ++ B := by
        rw [List.append_assoc, List.set_append_right _ _ (by omega), Nat.sub_self, List.append_assoc]; rfl
      rw [h1, List.append_assoc, List.set_append_right _ _ (by omega), show A.length + M.length + 1 - A.length = M.length + 1 by omega, List.cons_append, List.set_cons_succ, List.append_assoc, List.set_append_right _ _ (by omega), Nat.sub_self]
      simp
    have w1 : wrap64 ((A.length : Int) + 1) = (((A ++ [b]).length : Nat) : Int) := by rw [w64 (by omega)]; simp
    have w2 : wrap64 (((A.length + M.length + 1 : Nat) : Int) - 1) = (((A ++ [b]).length : Nat) : Int) + (M.length : Int) - 1 := by rw [w64 (by omega)]; simp; omega
    have ih := rev_loop n M (A ++ [b]) ([a] ++ B) (by simp at hn; omega) (by simp; omega) (by simp; omega)
    rw [e1]
    refine Ev.to (Ev.step (f := fun k => slices_Reverse_string_string.l0 k (A ++ [b] ++ M ++ ([a] ++ B)) (((A ++ [b]).length : Nat) : Int) ((((A ++ [b]).length : Nat) : Int) + (M.length : Int) - 1)) (fun k => ?_) ih) (by simp)
    simp only [slices_Reverse_string_string.l0]
    rw [if_pos (by omega), if_pos (by omega), if_pos (by rw [hall]; omega), if_pos (by omega), if_pos (by rw [hall]; omega), r1, r2, w1, w2, Int.toNat_natCast, Int.toNat_natCast, s1]
theorem rev_ev (l : List ByteArray) (h : l.length ≤ 1000000) : Ev (fun k => slices_Reverse_string_string.f k l) l.reverse := by
  have := rev_loop l.length l [] [] (Nat.le_refl _) rfl (by simpa using h)
  simp only [List.nil_append, List.append_nil, List.length_nil] at this
  unfold slices_Reverse_string_string.f
  rw [w64 (by omega)]
  simpa using this
structure FTab (s : ByteArray) (m f : List Int) (i : Nat) : Prop where
  lm : m.length = s.size + 1
  lf : f.length = s.size + 1
  le : ∀ j : Nat, j < i → Least ((L s).take j) (rd m j).toNat ∧ 0 ≤ rd m j ∧ rd m j ≤ j
  lk : ∀ j : Nat, 0 < j → j < i → ∃ q : Nat, q < j ∧ rd f j = q ∧ Pal (seg (L s) q j) ∧ rd m j = rd m q + 1
structure FIn (s : ByteArray) (m f : List Int) (i p : Nat) : Prop where
  tab : FTab s m f i
  cur : rd m i = (i : Int) + 1 ∨ ∃ q : Nat, q < p ∧ Pal (seg (L s) q i) ∧ rd m i = rd m q + 1 ∧ rd f i = q
  bnd : ∀ q : Nat, q < p → Pal (seg (L s) q i) → rd m i ≤ rd m q + 1
  top : rd m i ≤ (i : Int) + 1
theorem FIn.done {s : ByteArray} {m f : List Int} {i : Nat} (h : FIn s m f i i) (h0 : 0 < i) (hi : i ≤ s.size) : FTab s m f (i + 1) := by
  have hb := h.bnd (i - 1) (by omega) (pal_short (by omega))
  have hl := h.tab.le (i - 1) (by omega)
  have hc : ∃ q : Nat, q < i ∧ Pal (seg (L s) q i) ∧ rd m i = rd m q + 1 ∧ rd f i = q := by
    rcases h.cur with e | e
    · omega
    · exact e
  refine ⟨h.tab.lm, h.tab.lf, fun j hj => ?_, fun j hj0 hj => ?_⟩
  · rcases Nat.lt_or_eq_of_le (Nat.le_of_lt_succ hj) with c | rfl
    · exact h.tab.le j c
    · obtain ⟨q, hq, hp, hm, hf⟩ := hc
      have hq2 := h.tab.le q hq
      refine ⟨least_step (T := fun q => (rd m q).toNat) h0 (by rw [L_size]; exact hi) (fun q hq => (h.tab.le q hq).1) ⟨q, hq, hp, by omega⟩ (fun q hq hp => ?_), by omega, by omega⟩
      have := h.bnd q hq hp
      have := h.tab.le q hq
      omega
  · rcases Nat.lt_or_eq_of_le (Nat.le_of_lt_succ hj) with c | rfl
    · exact h.tab.lk j hj0 c
    · obtain ⟨q, hq, hp, hm, hf⟩ := hc
      exact ⟨q, hq, hf, hp, hm⟩
theorem few_l1 {s : ByteArray} (hs : s.size ≤ 1000) {i : Nat} (h0 : 0 < i) (hi : i ≤ s.size) (P : List ByteArray × Int → Prop) (hE : ∀ m f, FTab s m f (i + 1) → ∃ R, Ev (fun k => trim_Fewest.l0 k s m f ((i + 1 : Nat) : Int)) R ∧ P R) : ∀ (n p : Nat) (m f : List Int), p + n = i → FIn s m f i p → ∃ R, Ev (fun k => trim_Fewest.l1 k s m f i i p) R ∧ P R
  | 0, p, m, f, h, hI => by
    obtain rfl : p = i := by omega
    obtain ⟨R, h1, h2⟩ := hE m f (hI.done h0 hi)
    have hw : wrap64 ((p : Int) + 1) = ((p + 1 : Nat) : Int) := by rw [w64 (by omega)]; rfl
    refine ⟨R, Ev.step (f := fun k => trim_Fewest.l0 k s m f ((p + 1 : Nat) : Int)) (fun k => ?_) h1, h2⟩
    simp only [trim_Fewest.l1]
    rw [if_neg (by omega), hw]
  | n + 1, p, m, f, h, hI => by
    have hw : wrap64 ((p : Int) + 1) = ((p + 1 : Nat) : Int) := by rw [w64 (by omega)]; rfl
    have hlm := hI.tab.lm
    have hlf := hI.tab.lf
    have hpr := hI.tab.le p (by omega)
    have hw2 : wrap64 (rd m p + 1) = rd m p + 1 := w64 (by omega)
    have hp : trim_isPalindrome.f (s.extract (p : Int).toNat (i : Int).toNat) = some (decide (Pal (seg (L s) p i))) := by
      rw [isPal_ev (by rw [ByteArray.size_extract]; omega), Int.toNat_natCast, Int.toNat_natCast, L_extract]; rfl
    have g : ∀ k, trim_Fewest.l1 (k + 1) s m f i i p = if decide (Pal (seg (L s) p i)) = true then (if (rd m p + 1) < rd m i then trim_Fewest.l1 k s (m.set i (rd m p + 1)) (f.set i p) i i ((p + 1 : Nat) : Int) else trim_Fewest.l1 k s m f i i ((p + 1 : Nat) : Int)) else trim_Fewest.l1 k s m f i i ((p + 1 : Nat) : Int) := by
      intro k
      simp only [trim_Fewest.l1]
      rw [if_pos (by omega), if_pos (by omega), if_pos (by omega), if_pos (by omega), hp]
      simp only [Option.bind_some]
      rw [if_pos (by omega : (p : Int) < (m.length : Int)), if_pos (by omega : (0 : Int) ≤ (i : Int)), if_pos (by omega : (i : Int) < (m.length : Int)), if_pos (by omega : (i : Int) < (f.length : Int)), hw, hw2, Int.toNat_natCast]
    by_cases c : Pal (seg (L s) p i)
    · by_cases c2 : rd m p + 1 < rd m i
      · obtain ⟨R, h1, h2⟩ := few_l1 hs h0 hi P hE n (p + 1) (m.set i (rd m p + 1)) (f.set i p) (by omega) (by
          have key : ∀ j : Nat, j < i → rd (m.set i (rd m p + 1)) (j : Int) = rd m j := fun j hj => by rw [rd_set (by omega), if_neg (by omega)]
          have key2 : ∀ j : Nat, j < i → rd (f.set i p) (j : Int) = rd f j := fun j hj => by rw [rd_set (by omega), if_neg (by omega)]
          have ki : rd (m.set i (rd m p + 1)) (i : Int) = rd m p + 1 := by rw [rd_set (by omega), if_pos rfl]
          have ki2 : rd (f.set i p) (i : Int) = p := by rw [rd_set (by omega), if_pos rfl]
          refine ⟨⟨by rw [List.length_set]; exact hlm, by rw [List.length_set]; exact hlf, fun j hj => by rw [key j hj]; exact hI.tab.le j hj, fun j hj0 hj => ?_⟩, Or.inr ⟨p, by omega, c, by rw [ki, key p (by omega)], ki2⟩, fun q hq hqp => ?_, by rw [ki]; have := hI.top; omega⟩
          · obtain ⟨q, h1, h2, h3, h4⟩ := hI.tab.lk j hj0 hj
            exact ⟨q, h1, by rw [key2 j hj]; exact h2, h3, by rw [key j hj, key q (by omega)]; exact h4⟩
          · rw [ki, key q (by omega)]
            rcases Nat.lt_or_eq_of_le (Nat.le_of_lt_succ hq) with c3 | rfl
            · have := hI.bnd q c3 hqp; omega
            · exact Int.le_refl _)
        refine ⟨R, Ev.step (f := fun k => trim_Fewest.l1 k s (m.set i (rd m p + 1)) (f.set i p) i i ((p + 1 : Nat) : Int)) (fun k => ?_) h1, h2⟩
        rw [g, if_pos (decide_eq_true c), if_pos c2]
      · obtain ⟨R, h1, h2⟩ := few_l1 hs h0 hi P hE n (p + 1) m f (by omega) ⟨hI.tab, by
          rcases hI.cur with e | ⟨q, h1, h2⟩
          · exact Or.inl e
          · exact Or.inr ⟨q, by omega, h2⟩, fun q hq hqp => by
          rcases Nat.lt_or_eq_of_le (Nat.le_of_lt_succ hq) with c3 | rfl
          · exact hI.bnd q c3 hqp
          · omega, hI.top⟩
        refine ⟨R, Ev.step (f := fun k => trim_Fewest.l1 k s m f i i ((p + 1 : Nat) : Int)) (fun k => ?_) h1, h2⟩
        rw [g, if_pos (decide_eq_true c), if_neg c2]
    · obtain ⟨R, h1, h2⟩ := few_l1 hs h0 hi P hE n (p + 1) m f (by omega) ⟨hI.tab, by
        rcases hI.cur with e | ⟨q, h1, h2⟩
        · exact Or.inl e
        · exact Or.inr ⟨q, by omega, h2⟩, fun q hq hqp => by
        rcases Nat.lt_or_eq_of_le (Nat.le_of_lt_succ hq) with c3 | rfl
        · exact hI.bnd q c3 hqp
        · exact absurd hqp c, hI.top⟩
      refine ⟨R, Ev.step (f := fun k => trim_Fewest.l1 k s m f i i ((p + 1 : Nat) : Int)) (fun k => ?_) h1, h2⟩
      rw [g, if_neg (by rw [decide_eq_true_iff]; exact c)]
/-- What Fewest answers. -/
def FewAns (s : ByteArray) (R : List ByteArray × Int) : Prop := R.2 = 0 ∧ PartsOf (L s) (R.1.map L) ∧ Least (L s) R.1.length ∧ R.1.length ≤ s.size
theorem few_l2 {s : ByteArray} (hs : s.size ≤ 1000) {m f : List Int} (hT : FTab s m f (s.size + 1)) : ∀ (n i : Nat) (acc : List ByteArray), i ≤ n → i ≤ s.size → PartsOf ((L s).drop i) (acc.map L).reverse → rd m i + acc.length = rd m s.size → ∃ R, Ev (fun k => trim_Fewest.l2 k s f acc i) R ∧ FewAns s R
  | n, 0, acc, _, _, hp, hc => by
    have h0 := hT.le 0 (by omega)
    have hz := hT.le s.size (by omega)
    have hlen : acc.length = (rd m s.size).toNat := by omega
    have hr := rev_ev acc (by omega)
    refine ⟨(acc.reverse, 0), Ev.step (f := fun k => (slices_Reverse_string_string.f k acc).bind fun t => some (t, 0)) (fun k => ?_) (Ev.bind hr (Ev.now _)), rfl, ?_, ?_, ?_⟩
    · simp only [trim_Fewest.l2]
      rw [if_neg (by omega)]
    · rw [List.map_reverse]; simpa using hp
    · rw [List.length_reverse, hlen]
      have := hz.1
      rwa [List.take_of_length_le (by rw [L_size]; exact Nat.le_refl _)] at this
    · rw [List.length_reverse]; omega
  | 0, i + 1, _, h, _, _, _ => absurd h (by omega)
  | n + 1, i + 1, acc, hn, hi, hp, hc => by
    obtain ⟨q, hq, hf, hpal, hm⟩ := hT.lk (i + 1) (by omega) (by omega)
    have hz := hT.le s.size (by omega)
    have hi2 := hT.le (i + 1) (by omega)
    have hlf := hT.lf
    have hseg : L (s.extract q (i + 1)) = seg (L s) q (i + 1) := L_extract s q (i + 1)
    obtain ⟨R, h1, h2⟩ := few_l2 hs hT n q (acc ++ [s.extract q (i + 1)]) (by omega) (by omega) (by
      rw [List.map_append, List.reverse_append]
      have e : (L s).drop q = seg (L s) q (i + 1) ++ (L s).drop (i + 1) := by
        have := (List.take_append_drop (i + 1 - q) ((L s).drop q)).symm
        rw [List.drop_drop, show q + (i + 1 - q) = i + 1 by omega] at this
        exact this
      rw [e]
      refine parts_append ⟨fun p hp => ?_, by simp [hseg]⟩ hp
      simp only [List.map_cons, List.map_nil, List.reverse_cons, List.reverse_nil, List.nil_append, List.mem_singleton] at hp
      rw [hp, hseg]
      refine ⟨fun e0 => ?_, hpal⟩
      have := seg_len (l := L s) (i := q) (e := i + 1) (by rw [L_size]; exact hi)
      rw [e0] at this
      simp at this; omega) (by rw [List.length_append]; simp only [List.length_cons, List.length_nil]; omega)
    refine ⟨R, Ev.step (f := fun k => trim_Fewest.l2 k s f (acc ++ [s.extract q (i + 1)]) q) (fun k => ?_) h1, h2⟩
    simp only [trim_Fewest.l2]
    rw [hf, if_pos (by omega), if_pos (by omega), if_pos (by omega), if_pos (by omega), if_pos (by omega), if_pos (by omega), if_pos (by omega), Int.toNat_natCast, Int.toNat_natCast]
theorem few_l0 {s : ByteArray} (hs : s.size ≤ 1000) : ∀ (n i : Nat) (m f : List Int), i + n = s.size + 1 → 0 < i → FTab s m f i → ∃ R, Ev (fun k => trim_Fewest.l0 k s m f i) R ∧ FewAns s R
  | 0, i, m, f, h, h0, hT => by
    obtain rfl : i = s.size + 1 := by omega
    obtain ⟨R, h1, h2⟩ := few_l2 hs hT s.size s.size [] (Nat.le_refl _) (Nat.le_refl _) ⟨by simp, by rw [List.drop_of_length_le (by rw [L_size]; exact Nat.le_refl _)]; rfl⟩ (by simp)
    refine ⟨R, Ev.step (f := fun k => trim_Fewest.l2 k s f [] s.size) (fun k => ?_) h1, h2⟩
    simp only [trim_Fewest.l0]
    rw [if_neg (by omega)]
  | n + 1, i, m, f, h, h0, hT => by
    have hw : wrap64 ((i : Int) + 1) = (i : Int) + 1 := w64 (by omega)
    have hlm := hT.lm
    obtain ⟨R, h1, h2⟩ := few_l1 hs h0 (by omega) (FewAns s) (fun m f hT => few_l0 hs n (i + 1) m f (by omega) (by omega) hT) i 0 (m.set i ((i : Int) + 1)) f (by omega) (by
      have key : ∀ j : Nat, j < i → rd (m.set i ((i : Int) + 1)) (j : Int) = rd m j := fun j hj => by rw [rd_set (by omega), if_neg (by omega)]
      have ki : rd (m.set i ((i : Int) + 1)) (i : Int) = (i : Int) + 1 := by rw [rd_set (by omega), if_pos rfl]
      refine ⟨⟨by rw [List.length_set]; exact hlm, hT.lf, fun j hj => by rw [key j hj]; exact hT.le j hj, fun j hj0 hj => ?_⟩, Or.inl ki, fun q hq _ => absurd hq (by omega), by rw [ki]; exact Int.le_refl _⟩
      obtain ⟨q, h1, h2, h3, h4⟩ := hT.lk j hj0 hj
      exact ⟨q, h1, h2, h3, by rw [key j hj, key q (by omega)]; exact h4⟩)
    refine ⟨R, Ev.step (f := fun k => trim_Fewest.l1 k s (m.set i ((i : Int) + 1)) f i i ((0 : Nat) : Int)) (fun k => ?_) h1, h2⟩
    simp only [trim_Fewest.l0]
    rw [if_pos (by omega), if_pos (by omega), if_pos (by omega), hw, Int.toNat_natCast]
    rfl
theorem Fewest_ev {s : ByteArray} (h : Word s) : ∃ R, Ev (fun k => trim_Fewest.f k s) R ∧ FewAns s R := by
  have hs := h.1
  have hw : wrap64 ((s.size : Int) + 1) = ((s.size + 1 : Nat) : Int) := by rw [w64 (by omega)]; rfl
  obtain ⟨R, h1, h2⟩ := few_l0 (s := s) (by omega) s.size 1 (List.replicate (s.size + 1) 0) (List.replicate (s.size + 1) 0) (by omega) (by omega) ⟨by simp, by simp, fun j hj => by
    obtain rfl : j = 0 := by omega
    rw [rd_rep]
    exact ⟨least_nil, Int.le_refl _, Int.le_refl _⟩, fun j h0 hj => absurd hj (by omega)⟩
  obtain ⟨n, hn⟩ : ∃ n, n = s.size + 1 := ⟨_, rfl⟩
  rw [← hn] at h1 hw
  have hn2 : n ≤ 101 := by omega
  refine ⟨R, Ev.congr (fun k => ?_) h1, h2⟩
  unfold trim_Fewest.f
  rw [isWord_yes h, hw]
  simp only [Option.bind_some, Int.toNat_natCast]
  rw [if_pos trivial, if_pos (Int.natCast_nonneg n), if_pos (Nat.le_trans hn2 (by decide))]
  rfl
/-- A count, not more than one above the bound. -/
def clip (x : Nat) : Int := if x ≤ 1152921504606846976 then (x : Int) else 1152921504606846977
theorem clip_range (x : Nat) : 0 ≤ clip x ∧ clip x ≤ 1152921504606846977 := by unfold clip; split <;> omega
theorem clip_le {x : Nat} : clip x ≤ 1152921504606846976 ↔ x ≤ 1152921504606846976 := by unfold clip; split <;> omega
theorem clip_add (x y : Nat) : mn 1152921504606846977 (wrap64 (clip x + clip y)) = clip (x + y) := by
  have := clip_range x
  have := clip_range y
  rw [w64 (by omega)]
  unfold mn clip
  split <;> split <;> (try split) <;> (try split) <;> omega
/-- The table: the counts of the first letters, zero behind i; at i what the parts beginning before p give. -/
structure WTab (s : ByteArray) (m : List Int) (i : Nat) (x : Nat) : Prop where
  lm : m.length = s.size + 1
  le : ∀ j : Nat, j < i → rd m j = clip (wv (L s) j)
  cur : rd m i = clip x
  zero : ∀ j : Nat, i < j → j ≤ s.size → rd m j = 0
def part (l : List UInt8) (i p : Nat) : Nat := sumTo p (fun q => E l q i * wv l q)
theorem part_succ (l : List UInt8) (i p : Nat) : part l i (p + 1) = part l i p + E l p i * wv l p := rfl
theorem WTab.done {s : ByteArray} {m : List Int} {i : Nat} (h : WTab s m (i + 1) (part (L s) (i + 1) (i + 1))) : WTab s m (i + 2) 0 ∨ i + 1 = s.size ∧ rd m (s.size : Int) = clip (wv (L s) s.size) ∨ s.size < i + 1 := by
  have hc : rd m ((i + 1 : Nat) : Int) = clip (wv (L s) (i + 1)) := by rw [h.cur, wv_succ]; rfl
  rcases Nat.lt_trichotomy (i + 1) s.size with c | c | c
  · refine Or.inl ⟨h.lm, fun j hj => ?_, by rw [h.zero (i + 2) (by omega) (by omega)]; rfl, fun j hj hz => h.zero j (by omega) hz⟩
    rcases Nat.lt_or_eq_of_le (Nat.le_of_lt_succ hj) with c2 | rfl
    · exact h.le j c2
    · exact hc
  · exact Or.inr (Or.inl ⟨c, by rw [← c]; exact hc⟩)
  · exact Or.inr (Or.inr c)
theorem WTab.put {s : ByteArray} {m : List Int} {i p : Nat} (h : WTab s m i (part (L s) i p)) (hi : i ≤ s.size) (hp : p < i) (hpal : Pal (seg (L s) p i)) {v : Int} (hv : v = clip (part (L s) i p + wv (L s) p)) : WTab s (m.set i v) i (part (L s) i (p + 1)) := by
  have hlm := h.lm
  have e : E (L s) p i = 1 := if_pos ⟨hp, hpal⟩
  refine ⟨by rw [List.length_set]; exact hlm, fun j hj => ?_, ?_, fun j hj hz => ?_⟩
  · rw [rd_set (by omega), if_neg (by omega)]; exact h.le j hj
  · rw [rd_set (by omega), if_pos rfl, hv, part_succ, e, Nat.one_mul]
  · rw [rd_set (by omega), if_neg (by omega)]; exact h.zero j hj hz
theorem WTab.skip {s : ByteArray} {m : List Int} {i p : Nat} (h : WTab s m i (part (L s) i p)) (hpal : ¬ Pal (seg (L s) p i)) : WTab s m i (part (L s) i (p + 1)) := by
  have e : E (L s) p i = 0 := if_neg (fun h => hpal h.2)
  have : part (L s) i (p + 1) = part (L s) i p := by rw [part_succ, e, Nat.zero_mul, Nat.add_zero]
  rw [this]; exact h
theorem wtab_start {s : ByteArray} {x : List Int} (hx : x = List.replicate (s.size + 1) 0) : rd (x.set 0 1) 0 = 1 ∧ (0 < s.size → WTab s (x.set 0 1) 1 0) := by
  subst hx
  have h0 := rd_set (x := List.replicate (s.size + 1) 0) (i := 0) (j := 0) (v := 1) (by simp)
  rw [if_pos rfl] at h0
  refine ⟨h0, fun hz => ⟨by simp, fun j hj => ?_, ?_, fun j hj hz => ?_⟩⟩
  · obtain rfl : j = 0 := by omega
    rw [h0]; rfl
  · rw [rd_set (by simp), if_neg (by omega), rd_rep]; rfl
  · rw [rd_set (by simp), if_neg (by omega), rd_rep]
/-- What Ways answers. -/
def waysA (s : ByteArray) : Int × Int := if wv (L s) s.size ≤ 1152921504606846976 then ((wv (L s) s.size : Int), 0) else (0, 5)
theorem ways_end {s : ByteArray} {m : List Int} {x17 x18 : Int} (hx : ¬ x18 < x17) (hlm : m.length = s.size + 1) (hv : rd m (s.size : Int) = clip (wv (L s) s.size)) : Ev (fun k => trim_Ways.l0 k s m x17 x18) (waysA s) := by
  refine Ev.step (f := fun _ => some (waysA s)) (fun k => ?_) (Ev.now _)
  simp only [trim_Ways.l0]
  rw [if_neg hx, if_pos (by omega), if_pos (by omega), hv]
  unfold waysA
  by_cases c : wv (L s) s.size ≤ 1152921504606846976
  · have := clip_le.2 c
    rw [if_neg (by omega), if_pos c]
    unfold clip; rw [if_pos c]
  · have h : ¬ clip (wv (L s) s.size) ≤ 1152921504606846976 := fun e => c (clip_le.1 e)
    rw [if_pos (by omega), if_neg c]
theorem ways_l1 {s : ByteArray} (hs : s.size ≤ 1000) {i : Nat} (hi : i + 1 ≤ s.size) (hE : ∀ m, WTab s m (i + 1) (part (L s) (i + 1) (i + 1)) → Ev (fun k => trim_Ways.l0 k s m s.size ((i + 1 : Nat) : Int)) (waysA s)) : ∀ (n p : Nat) (m : List Int), p + n = i + 1 → WTab s m (i + 1) (part (L s) (i + 1) p) → Ev (fun k => trim_Ways.l1 k s m i s.size i ((i + 1 : Nat) : Int) p) (waysA s)
  | 0, p, m, h, hT => by
    obtain rfl : p = i + 1 := by omega
    have hw : wrap64 ((i : Int) + 1) = ((i + 1 : Nat) : Int) := by rw [w64 (by omega)]; rfl
    refine Ev.step (f := fun k => trim_Ways.l0 k s m s.size ((i + 1 : Nat) : Int)) (fun k => ?_) (hE m hT)
    simp only [trim_Ways.l1]
    rw [if_neg (by omega), hw]
  | n + 1, p, m, h, hT => by
    have hw : wrap64 ((p : Int) + 1) = ((p + 1 : Nat) : Int) := by rw [w64 (by omega)]; rfl
    have hwi : wrap64 ((i : Int) + 1) = ((i + 1 : Nat) : Int) := by rw [w64 (by omega)]; rfl
    have hlm := hT.lm
    have hp : trim_isPalindrome.f (s.extract (p : Int).toNat ((i + 1 : Nat) : Int).toNat) = some (decide (Pal (seg (L s) p (i + 1)))) := by
      rw [isPal_ev (by rw [ByteArray.size_extract]; omega), Int.toNat_natCast, Int.toNat_natCast, L_extract]; rfl
    have hv : mn 1152921504606846977 (wrap64 (rd m ((i + 1 : Nat) : Int) + rd m p)) = clip (part (L s) (i + 1) p + wv (L s) p) := by
      rw [hT.cur, hT.le p (by omega), clip_add]
    have g : ∀ k, trim_Ways.l1 (k + 1) s m i s.size i ((i + 1 : Nat) : Int) p = if decide (Pal (seg (L s) p (i + 1))) = true then trim_Ways.l1 k s (m.set (i + 1) (clip (part (L s) (i + 1) p + wv (L s) p))) i s.size i ((i + 1 : Nat) : Int) ((p + 1 : Nat) : Int) else trim_Ways.l1 k s m i s.size i ((i + 1 : Nat) : Int) ((p + 1 : Nat) : Int) := by
      intro k
      simp only [trim_Ways.l1]
      rw [hwi, if_pos (by omega), if_pos (by omega), if_pos (by omega), if_pos (by omega), hp]
      simp only [Option.bind_some]
      rw [if_pos (by omega : (0 : Int) ≤ ((i + 1 : Nat) : Int)), if_pos (by omega : ((i + 1 : Nat) : Int) < (m.length : Int)), if_pos (by omega : (p : Int) < (m.length : Int)), hw, hv, Int.toNat_natCast]
    by_cases c : Pal (seg (L s) p (i + 1))
    · refine Ev.step (f := fun k => trim_Ways.l1 k s (m.set (i + 1) (clip (part (L s) (i + 1) p + wv (L s) p))) i s.size i ((i + 1 : Nat) : Int) ((p + 1 : Nat) : Int)) (fun k => ?_) (ways_l1 hs hi hE n (p + 1) _ (by omega) (hT.put hi (by omega) c rfl))
      rw [g, if_pos (decide_eq_true c)]
    · refine Ev.step (f := fun k => trim_Ways.l1 k s m i s.size i ((i + 1 : Nat) : Int) ((p + 1 : Nat) : Int)) (fun k => ?_) (ways_l1 hs hi hE n (p + 1) m (by omega) (hT.skip c))
      rw [g, if_neg (by rw [decide_eq_true_iff]; exact c)]
theorem ways_l0 {s : ByteArray} (hs : s.size ≤ 1000) : ∀ (n i : Nat) (m : List Int), i + (n + 1) = s.size → WTab s m (i + 1) 0 → Ev (fun k => trim_Ways.l0 k s m s.size i) (waysA s)
  | n, i, m, h, hT => by
    have hwi : wrap64 ((i : Int) + 1) = ((i + 1 : Nat) : Int) := by rw [w64 (by omega)]; rfl
    refine Ev.step (f := fun k => trim_Ways.l1 k s m i s.size i ((i + 1 : Nat) : Int) ((0 : Nat) : Int)) (fun k => ?_) (ways_l1 hs (by omega) (fun m' hT' => ?_) (i + 1) 0 m (by omega) hT)
    · simp only [trim_Ways.l0]
      rw [if_pos (by omega), hwi]; rfl
    · rcases hT'.done with c | c | c
      · cases n with
        | zero =>
          have := c.lm
          have hv : rd m' (s.size : Int) = clip (wv (L s) s.size) := c.le s.size (by omega)
          exact ways_end (by omega) hT'.lm hv
        | succ n => exact ways_l0 hs n (i + 1) m' (by omega) c
      · exact ways_end (by omega) hT'.lm c.2
      · omega
theorem Ways_ev {s : ByteArray} (h : Word s) : Ev (fun k => trim_Ways.f k s) (waysA s) := by
  have hs := h.1
  have hw : wrap64 ((s.size : Int) + 1) = ((s.size + 1 : Nat) : Int) := by rw [w64 (by omega)]; rfl
  obtain ⟨h0, h1⟩ := wtab_start (s := s) rfl
  obtain ⟨n, hn⟩ : ∃ n, n = s.size + 1 := ⟨_, rfl⟩
  rw [← hn] at hw
  have hn2 : n ≤ 101 := by omega
  have hlen : (0 : Int) < ((List.replicate n (0 : Int)).length : Int) := by rw [List.length_replicate]; omega
  have e : ∀ k, trim_Ways.f k s = trim_Ways.l0 k s ((List.replicate n 0).set 0 1) (s.size : Int) 0 := by
    intro k
    unfold trim_Ways.f
    rw [isWord_yes h, hw]
    simp only [Option.bind_some, Int.toNat_natCast]
    rw [if_pos trivial, if_pos (Int.natCast_nonneg n), if_pos (Nat.le_trans hn2 (by decide)), if_pos hlen]
    rfl
  refine Ev.congr e ?_
  rw [hn]
  by_cases c : s.size = 0
  · refine ways_end (by omega) (by simp) ?_
    rw [c] at h0 ⊢
    exact h0
  · exact ways_l0 (by omega) (s.size - 1) 0 _ (by omega) (h1 (by omega))
theorem pal_wrap {z : List UInt8} {a b : UInt8} (h : Pal (a :: (z ++ [b]))) : a = b ∧ Pal z := by
  have h1 : (a :: (z ++ [b])).reverse = a :: (z ++ [b]) := h
  rw [List.reverse_cons, List.reverse_append, List.reverse_singleton, List.singleton_append, List.cons_append] at h1
  have h2 := (List.cons.inj h1).1
  subst h2
  exact ⟨rfl, pal_cons_snoc.1 h⟩
theorem pal_form {y : List UInt8} (h : Pal y) (hl : 2 ≤ y.length) : ∃ c z, y = c :: (z ++ [c]) ∧ Pal z := by
  match y, hl with
  | a :: t, hl =>
    rcases List.eq_nil_or_concat t with rfl | ⟨z, b, rfl⟩
    · simp at hl
    · rw [List.concat_eq_append] at h ⊢
      obtain ⟨rfl, hz⟩ := pal_wrap h
      exact ⟨a, z, rfl, hz⟩
theorem pal_sub_ends {a b : UInt8} {m y : List UInt8} (hy : Pal y) (h : y.Sublist (a :: (m ++ [b]))) : y.Sublist (m ++ [b]) ∨ y.Sublist (a :: m) ∨ (a = b ∧ ∃ z, y = a :: (z ++ [a]) ∧ Pal z ∧ z.Sublist m) := by
  rcases List.sublist_cons_iff.1 h with h | ⟨y', rfl, h3⟩
  · exact Or.inl h
  · obtain ⟨z1, z2, rfl, h1, h2⟩ := List.sublist_append_iff.1 h3
    rcases List.sublist_cons_iff.1 h2 with h2 | ⟨r, rfl, h4⟩
    · rw [List.sublist_nil.1 h2, List.append_nil]
      exact Or.inr (Or.inl (h1.cons_cons a))
    · rw [List.sublist_nil.1 h4] at hy ⊢
      obtain ⟨rfl, hz⟩ := pal_wrap hy
      exact Or.inr (Or.inr ⟨rfl, z1, rfl, hz, h1⟩)
/-- Behind the first c. -/
theorem sub_first {c : UInt8} {A R t : List UInt8} (hA : c ∉ A) (h : (c :: t).Sublist (A ++ c :: R)) : t.Sublist R := by
  induction A with
  | nil =>
    rcases List.sublist_cons_iff.1 h with h | ⟨r, e, h⟩
    · exact (List.sublist_cons_self c t).trans h
    · rw [(List.cons.inj e).2]; exact h
  | cons x A ih =>
    rw [List.mem_cons] at hA
    rcases List.sublist_cons_iff.1 h with h | ⟨r, e, h⟩
    · exact ih (fun hc => hA (Or.inr hc)) h
    · exact absurd (Or.inl (List.cons.inj e).1) hA
theorem sub_between {c : UInt8} {A M B z : List UInt8} (hA : c ∉ A) (hB : c ∉ B) (h : (c :: (z ++ [c])).Sublist (A ++ c :: (M ++ c :: B))) : z.Sublist M := by
  have h1 := (sub_first hA h).reverse
  simp only [List.reverse_append, List.reverse_cons, List.reverse_nil, List.nil_append, List.append_assoc, List.cons_append] at h1
  have := sub_first (by simpa using hB) h1
  exact List.reverse_sublist.1 this
theorem lt_snoc {c : UInt8} : ∀ {x y : List UInt8}, x.length = y.length → x ++ [c] < y ++ [c] → x < y
  | [], [], _, h => absurd h (List.lt_irrefl _)
  | [], _ :: _, e, _ => by simp at e
  | _ :: _, [], e, _ => by simp at e
  | a :: x, b :: y, e, h => by
    rw [List.cons_append, List.cons_append, List.cons_lt_cons_iff] at h
    rw [List.cons_lt_cons_iff]
    rcases h with h | ⟨h1, h2⟩
    · exact Or.inl h
    · exact Or.inr ⟨h1, lt_snoc (by simpa using e) h2⟩
theorem lt_total {x y : List UInt8} (h1 : ¬ x < y) (h2 : ¬ y < x) : x = y := List.le_antisymm (List.not_lt.1 h2) (List.not_lt.1 h1)
/-- The first one of the longest palindromes that are subsequences. -/
structure Best (l y : List UInt8) : Prop where
  pal : Pal y
  sub : y.Sublist l
  long : ∀ z, Pal z → z.Sublist l → z.length ≤ y.length
  least : ∀ z, Pal z → z.Sublist l → z.length = y.length → ¬ z < y
theorem best_eq2 {l y z : List UInt8} (h : Best l y) (h' : Best l z) : y = z := by
  have h1 := h.long z h'.pal h'.sub
  have h2 := h'.long y h.pal h.sub
  exact lt_total (h'.least y h.pal h.sub (by omega)) (h.least z h'.pal h'.sub (by omega))
theorem best_rev {l y : List UInt8} (h : Best l y) : Best l.reverse y := by
  have key : ∀ {z m : List UInt8}, Pal z → z.Sublist m.reverse → z.Sublist m := by
    intro z m hz hs
    have := hs.reverse
    rw [List.reverse_reverse, show z.reverse = z from hz] at this
    exact this
  refine ⟨h.pal, ?_, fun z hz hs => h.long z hz (key hz hs), fun z hz hs hl => h.least z hz (key hz hs) hl⟩
  have := h.sub.reverse
  rw [show y.reverse = y from h.pal] at this
  exact this
theorem best_pal {l : List UInt8} (h : Pal l) : Best l l := by
  refine ⟨h, List.Sublist.refl l, fun z _ hs => hs.length_le, fun z _ hs hl => ?_⟩
  rw [hs.eq_of_length hl]
  exact List.lt_irrefl _
theorem best_nil : Best [] [] := best_pal rfl
/-- The word around the first and the last c. -/
structure Around (S A M B : List UInt8) (c : UInt8) : Prop where
  eq : S = A ++ c :: (M ++ c :: B)
  nA : c ∉ A
  nB : c ∉ B
theorem around_sub {S A M B : List UInt8} {c : UInt8} (h : Around S A M B c) {z : List UInt8} (hz : z.Sublist M) : (c :: (z ++ [c])).Sublist S := by
  rw [h.eq]
  refine List.Sublist.trans ?_ (List.sublist_append_right A _)
  refine List.Sublist.cons_cons c ?_
  exact List.Sublist.append hz (List.Sublist.cons_cons c (List.nil_sublist B))
theorem around_of {S A M B z : List UInt8} {c : UInt8} (h : Around S A M B c) (hs : (c :: (z ++ [c])).Sublist S) : z.Sublist M := by
  rw [h.eq] at hs
  exact sub_between h.nA h.nB hs
/-- One step inwards at the least letter that fits. -/
theorem best_around {S A M B y : List UInt8} {c : UInt8} (h : Around S A M B c) (hy : Best M y) (n : Nat) (hn : n = y.length + 2) (hmax : ∀ z, Pal z → z.Sublist S → z.length ≤ n)
    (hmin : ∀ c' A' M' B', c' < c → Around S A' M' B' c' → ∀ z, Pal z → z.Sublist M' → z.length + 2 < n) : Best S (c :: (y ++ [c])) := by
  have hl : (c :: (y ++ [c])).length = n := by simp [hn]
  refine ⟨pal_cons_snoc.2 hy.pal, around_sub h hy.sub, fun z hz hs => by rw [hl]; exact hmax z hz hs, fun z hz hs hzl hlt => ?_⟩
  obtain ⟨c', z', rfl, hz'⟩ := pal_form hz (by rw [hzl, hl]; omega)
  rw [List.cons_lt_cons_iff] at hlt
  rcases hlt with hc | ⟨rfl, hlt⟩
  · -- a smaller letter would fit
    have hmem : c' ∈ S := hs.subset (List.mem_cons_self ..)
    obtain ⟨A', R, hS, hA'⟩ : ∃ A' R, S = A' ++ c' :: R ∧ c' ∉ A' := by
      obtain ⟨A', R, h1, h2⟩ := List.append_of_mem hmem |> fun ⟨s, t, e⟩ => (⟨s, t, e, trivial⟩ : ∃ s t, S = s ++ c' :: t ∧ True)
      exact List.eq_append_cons_of_mem hmem |> fun ⟨a, b, e, hn⟩ => ⟨a, b, e, hn⟩
    have h1 : (z' ++ [c']).Sublist R := by rw [hS] at hs; exact sub_first hA' hs
    have hm2 : c' ∈ R.reverse := by rw [List.mem_reverse]; exact h1.subset (by simp)
    obtain ⟨B', M', hR, hB'⟩ := List.eq_append_cons_of_mem hm2
    have hR2 : R = M'.reverse ++ c' :: B'.reverse := by
      have := congrArg List.reverse hR
      rw [List.reverse_reverse, List.reverse_append, List.reverse_cons, List.append_assoc, List.singleton_append] at this
      exact this
    have har : Around S A' M'.reverse B'.reverse c' := ⟨by rw [hS, hR2], hA', by simpa using hB'⟩
    have := hmin c' _ _ _ hc har z' hz' (around_of har hs)
    simp at hzl
    omega
  · have h1 := around_of h hs
    simp at hzl
    exact hy.least z' hz' h1 hzl (lt_snoc hzl hlt)
def lqq (l : List UInt8) : Nat → Nat → Nat
  | 0, _ => 0
  | 1, _ => 1
  | d + 2, i => max (max (lqq l (d + 1) (i + 1)) (lqq l (d + 1) i)) (if l[i]? = l[i + d + 1]? then 2 + lqq l d (i + 1) else 0)
theorem seg_cons {l : List UInt8} {i e : Nat} (h : i < e) (he : e ≤ l.length) : seg l i e = l[i]'(by omega) :: seg l (i + 1) e := by
  unfold seg
  rw [List.drop_eq_getElem_cons (by omega), show e - i = (e - (i + 1)) + 1 by omega, List.take_succ_cons]
theorem lqq_best {l : List UInt8} : ∀ d i, i + d ≤ l.length → (∃ y, Pal y ∧ y.Sublist (seg l i (i + d)) ∧ y.length = lqq l d i) ∧ ∀ y, Pal y → y.Sublist (seg l i (i + d)) → y.length ≤ lqq l d i
  | 0, i, h => ⟨⟨[], rfl, List.nil_sublist _, rfl⟩, fun y _ hs => by
      have := hs.length_le
      rw [seg_len h] at this
      omega⟩
  | 1, i, h => ⟨⟨[l[i]], rfl, by rw [seg_cons (by omega) h]; exact List.Sublist.cons_cons _ (List.nil_sublist _), rfl⟩, fun y _ hs => by
      have := hs.length_le
      rw [seg_len h] at this
      show y.length ≤ 1
      omega⟩
  | d + 2, i, h => by
    obtain ⟨⟨y1, p1, s1, l1⟩, b1⟩ := lqq_best (l := l) (d + 1) (i + 1) (by omega)
    obtain ⟨⟨y2, p2, s2, l2⟩, b2⟩ := lqq_best (l := l) (d + 1) i (by omega)
    obtain ⟨⟨y3, p3, s3, l3⟩, b3⟩ := lqq_best (l := l) d (i + 1) (by omega)
    have hS : seg l i (i + (d + 2)) = l[i]'(by omega) :: (seg l (i + 1) (i + 1 + d) ++ [l[i + d + 1]'(by omega)]) := by
      have := seg_ends (l := l) (i := i) (e := i + (d + 2)) (by omega) h
      rw [this]
      simp only [show i + (d + 2) - 1 = i + d + 1 by omega, show i + 1 + d = i + d + 1 by omega]
    have hA : seg l (i + 1) (i + 1 + (d + 1)) = seg l (i + 1) (i + 1 + d) ++ [l[i + d + 1]'(by omega)] := by
      have h1 := seg_cons (l := l) (i := i) (e := i + (d + 2)) (by omega) h
      rw [hS] at h1
      have := (List.cons.inj h1).2
      rw [show i + 1 + (d + 1) = i + (d + 2) by omega]
      exact this.symm
    have hB : seg l i (i + (d + 1)) = l[i]'(by omega) :: seg l (i + 1) (i + 1 + d) := by
      rw [show i + (d + 1) = i + 1 + d by omega]
      exact seg_cons (by omega) (by omega)
    have g1 : l[i]? = some l[i] := List.getElem?_eq_getElem (by omega)
    have g2 : l[i + d + 1]? = some l[i + d + 1] := List.getElem?_eq_getElem (by omega)
    rw [hA] at s1 b1
    rw [hB] at s2 b2
    rw [hS]
    have hdef : lqq l (d + 2) i = max (max (lqq l (d + 1) (i + 1)) (lqq l (d + 1) i)) (if l[i]? = l[i + d + 1]? then 2 + lqq l d (i + 1) else 0) := rfl
    constructor
    · rw [hdef]
      by_cases c : l[i]? = l[i + d + 1]?
      · rw [if_pos c]
        have hc : l[i] = l[i + d + 1] := by rw [g1, g2] at c; exact Option.some.inj c
        rcases Nat.le_total (2 + lqq l d (i + 1)) (max (lqq l (d + 1) (i + 1)) (lqq l (d + 1) i)) with c1 | c1
        · rw [Nat.max_eq_left c1]
          rcases Nat.le_total (lqq l (d + 1) i) (lqq l (d + 1) (i + 1)) with c2 | c2
          · rw [Nat.max_eq_left c2]; exact ⟨y1, p1, s1.cons _, l1⟩
          · rw [Nat.max_eq_right c2]; exact ⟨y2, p2, s2.trans (List.Sublist.cons_cons _ (List.sublist_append_left _ _)), l2⟩
        · rw [Nat.max_eq_right c1]
          refine ⟨l[i] :: (y3 ++ [l[i]]), pal_cons_snoc.2 p3, List.Sublist.cons_cons _ ?_, by simp; omega⟩
          rw [hc]
          exact s3.append (List.Sublist.refl _)
      · rw [if_neg c, Nat.max_eq_left (Nat.zero_le _)]
        rcases Nat.le_total (lqq l (d + 1) i) (lqq l (d + 1) (i + 1)) with c2 | c2
        · rw [Nat.max_eq_left c2]; exact ⟨y1, p1, s1.cons _, l1⟩
        · rw [Nat.max_eq_right c2]; exact ⟨y2, p2, s2.trans (List.Sublist.cons_cons _ (List.sublist_append_left _ _)), l2⟩
    · intro y hy hs
      rw [hdef]
      rcases pal_sub_ends hy hs with h1 | h1 | ⟨h1, z, rfl, hz, h2⟩
      · have := b1 y hy h1; omega
      · have := b2 y hy h1; omega
      · have := b3 z hz h2
        rw [if_pos (by rw [g1, g2, h1])]
        simp
        omega
/-- The length of the longest palindrome that is a subsequence. -/
def mxl (l : List UInt8) : Nat := lqq l l.length 0
theorem seg_all (l : List UInt8) : seg l 0 (0 + l.length) = l := by unfold seg; simp
theorem mxl_ex (l : List UInt8) : ∃ y, Pal y ∧ y.Sublist l ∧ y.length = mxl l := by
  have := (lqq_best (l := l) l.length 0 (by omega)).1
  rwa [seg_all] at this
theorem mxl_le {l y : List UInt8} (h : Pal y) (hs : y.Sublist l) : y.length ≤ mxl l := by
  have := (lqq_best (l := l) l.length 0 (by omega)).2 y h
  rw [seg_all] at this
  exact this hs
theorem lqq_mxl {l : List UInt8} {d i : Nat} (h : i + d ≤ l.length) : lqq l d i = mxl (seg l i (i + d)) := by
  obtain ⟨⟨y, h1, h2, h3⟩, h4⟩ := lqq_best d i h
  obtain ⟨z, z1, z2, z3⟩ := mxl_ex (seg l i (i + d))
  have := mxl_le h1 h2
  have := h4 z z1 z2
  omega
theorem best_len {l y : List UInt8} (h : Best l y) : y.length = mxl l := by
  obtain ⟨z, z1, z2, z3⟩ := mxl_ex l
  have := h.long z z1 z2
  have := mxl_le h.pal h.sub
  omega
theorem mxl_pos {l : List UInt8} : mxl l = 0 ↔ l = [] := by
  constructor
  · intro h
    match l with
    | [] => rfl
    | a :: l =>
      have := mxl_le (l := a :: l) (y := [a]) rfl (List.Sublist.cons_cons _ (List.nil_sublist _))
      simp at this; omega
  · rintro rfl; rfl
theorem around_ex {S z : List UInt8} {c : UInt8} (h : (c :: (z ++ [c])).Sublist S) : ∃ A M B, Around S A M B c := by
  have hmem : c ∈ S := h.subset (List.mem_cons_self ..)
  obtain ⟨A, R, hS, hA⟩ := List.eq_append_cons_of_mem hmem
  have h1 : (z ++ [c]).Sublist R := by rw [hS] at h; exact sub_first hA h
  have hm2 : c ∈ R.reverse := by rw [List.mem_reverse]; exact h1.subset (by simp)
  obtain ⟨B, M, hR, hB⟩ := List.eq_append_cons_of_mem hm2
  refine ⟨A, M.reverse, B.reverse, ?_, hA, by simpa using hB⟩
  have := congrArg List.reverse hR
  rw [List.reverse_reverse, List.reverse_append, List.reverse_cons, List.append_assoc, List.singleton_append] at this
  rw [hS, this]
theorem around_eq {S A M B A' M' B' : List UInt8} {c : UInt8} (h : Around S A M B c) (h' : Around S A' M' B' c) : M = M' := by
  have h1 := around_of h' (around_sub h (List.Sublist.refl M))
  have h2 := around_of h (around_sub h' (List.Sublist.refl M'))
  exact h1.eq_of_length (Nat.le_antisymm h1.length_le h2.length_le)
theorem seg_seg {l : List UInt8} {i j a b : Nat} (h : i + b ≤ j) : seg (seg l i j) a b = seg l (i + a) (i + b) := by
  unfold seg
  rw [List.drop_take, List.drop_drop, List.take_take]
  congr 1
  omega
/-- A letter's first and last place. -/
theorem letter {e : ByteArray} {S : List UInt8} (hS : L e = S) (c : UInt8) :
    (0 ≤ Lib.indexByte S c ↔ c ∈ S) ∧
    ((Lib.indexByte S c < Lib.lastIndexByte e (c.toNat : Int)) ↔ ∃ A M B, Around S A M B c) ∧
    (∀ A M B, Around S A M B c → Lib.indexByte S c = A.length ∧ Lib.lastIndexByte e (c.toNat : Int) = ((A.length + 1 + M.length : Nat) : Int)) := by
  have hsz : e.size = S.length := by rw [← hS, L_size]
  have hget : ∀ j, j < S.length → ((e.data[j]!).toNat : Int) = ((S[j]!).toNat : Int) := by
    intro j hj
    subst hS
    rw [getElem!_pos e.data j (by have := hj; rw [L_size] at this; exact this), getElem!_pos (L e) j hj]
    rfl
  have hcc : ∀ j, j < S.length → (((e.data[j]!).toNat : Int) = (c.toNat : Int) ↔ S[j]? = some c) := by
    intro j hj
    rw [hget j hj, getElem!_pos S j hj, List.getElem?_eq_getElem hj]
    constructor
    · intro h; rw [UInt8.toNat_inj.1 (Int.ofNat.inj h)]
    · intro h; rw [Option.some.inj h]
  have hge := Lib.indexByte_ge S c
  -- the first place
  have hfirst : (Lib.indexByte S c = -1 ∧ c ∉ S) ∨ ∃ p : Nat, Lib.indexByte S c = p ∧ S[p]? = some c ∧ ∀ k, k < p → S[k]? ≠ some c := by
    rcases Int.lt_or_le (Lib.indexByte S c) 0 with h | h
    · left
      have h1 : Lib.indexByte S c = -1 := by omega
      refine ⟨h1, fun hm => ?_⟩
      obtain ⟨k, hk⟩ := List.getElem?_of_mem hm
      exact Lib.indexByte_none h1 k hk
    · right
      obtain ⟨p, hp⟩ := Int.eq_ofNat_of_zero_le h
      exact ⟨p, hp, Lib.indexByte_some hp⟩
  have hlast := Lib.lastIndexByte_spec e (c.toNat : Int)
  rw [hsz] at hlast
  have hAr : ∀ A M B, Around S A M B c → Lib.indexByte S c = A.length ∧ Lib.lastIndexByte e (c.toNat : Int) = ((A.length + 1 + M.length : Nat) : Int) := by
    intro A M B h
    have hA : S[A.length]? = some c := by rw [h.eq, List.getElem?_append_right (Nat.le_refl _), Nat.sub_self]; rfl
    have hB : S[A.length + 1 + M.length]? = some c := by
      rw [h.eq, List.getElem?_append_right (by omega), show A.length + 1 + M.length - A.length = M.length + 1 by omega, List.getElem?_cons_succ, List.getElem?_append_right (Nat.le_refl _), Nat.sub_self]
      rfl
    have hlen : S.length = A.length + 1 + M.length + 1 + B.length := by
      rw [h.eq]; simp; omega
    constructor
    · rcases hfirst with ⟨_, hn⟩ | ⟨p, hp, hpc, hpm⟩
      · exact absurd (List.mem_of_getElem? hA) hn
      · rw [hp]
        rcases Nat.lt_trichotomy p A.length with h1 | h1 | h1
        · exfalso
          rw [h.eq, List.getElem?_append_left h1] at hpc
          exact h.nA (List.mem_of_getElem? hpc)
        · rw [h1]
        · exact absurd hA (hpm _ h1)
    · rcases hlast with ⟨_, hn⟩ | ⟨q, hq, he, hqc, hqm⟩
      · exact absurd ((hcc _ (by omega)).2 hA) (hn _ (by omega))
      · rw [he]
        rcases Nat.lt_trichotomy q (A.length + 1 + M.length) with h1 | h1 | h1
        · exact absurd ((hcc _ (by omega)).2 hB) (hqm _ h1 (by omega))
        · rw [h1]
        · exfalso
          have := (hcc q hq).1 hqc
          rw [h.eq, List.getElem?_append_right (by omega), show q - A.length = (q - A.length - 1) + 1 by omega, List.getElem?_cons_succ, List.getElem?_append_right (by omega), show q - A.length - 1 - M.length = (q - A.length - 1 - M.length - 1) + 1 by omega, List.getElem?_cons_succ] at this
          exact h.nB (List.mem_of_getElem? this)
  refine ⟨?_, ?_, hAr⟩
  · rcases hfirst with ⟨h1, h2⟩ | ⟨p, h1, h2, _⟩
    · rw [h1]; exact ⟨fun h => absurd h (by decide), fun h => absurd h h2⟩
    · rw [h1]; exact ⟨fun _ => List.mem_of_getElem? h2, fun _ => by omega⟩
  · constructor
    · intro h
      rcases hlast with ⟨h1, _⟩ | ⟨q, hq, he, hqc, hqm⟩
      · omega
      · rcases hfirst with ⟨h1, h2⟩ | ⟨p, h1, h2, h3⟩
        · exact absurd (List.mem_of_getElem? ((hcc q hq).1 hqc)) h2
        · have hpq : p < q := by omega
          have hq2 := (hcc q hq).1 hqc
          have hp : p < S.length := by omega
          have e1 : S = S.take p ++ c :: S.drop (p + 1) := by
            conv => lhs; rw [← List.take_append_drop p S, List.drop_eq_getElem_cons hp]
            rw [List.getElem?_eq_getElem hp] at h2
            rw [Option.some.inj h2]
          have e2 : S.drop (p + 1) = (S.drop (p + 1)).take (q - p - 1) ++ c :: S.drop (q + 1) := by
            conv => lhs; rw [← List.take_append_drop (q - p - 1) (S.drop (p + 1)), List.drop_drop, show p + 1 + (q - p - 1) = q by omega, List.drop_eq_getElem_cons hq]
            rw [List.getElem?_eq_getElem hq] at hq2
            rw [Option.some.inj hq2]
          refine ⟨S.take p, (S.drop (p + 1)).take (q - p - 1), S.drop (q + 1), by rw [← e2]; exact e1, fun hm => ?_, fun hm => ?_⟩
          · obtain ⟨k, hk⟩ := List.getElem?_of_mem hm
            have hkl : k < p := by
              rcases Nat.lt_or_ge k p with h | h
              · exact h
              · rw [List.getElem?_eq_none (by rw [List.length_take]; omega)] at hk
                cases hk
            rw [List.getElem?_take_of_lt hkl] at hk
            exact h3 k hkl hk
          · obtain ⟨k, hk⟩ := List.getElem?_of_mem hm
            rw [List.getElem?_drop] at hk
            have hkl : q + 1 + k < S.length := by
              rcases Nat.lt_or_ge (q + 1 + k) S.length with h | h
              · exact h
              · rw [List.getElem?_eq_none h] at hk; cases hk
            exact hqm _ (by omega) hkl ((hcc _ hkl).2 hk)
    · rintro ⟨A, M, B, h⟩
      obtain ⟨h1, h2⟩ := hAr A M B h
      omega
theorem bt_get {s : ByteArray} {i : Nat} (h : i < s.size) : bt s i = (((L s)[i]'(by rw [L_size]; exact h)).toNat : Int) := bt_L (by rw [L_size]; exact h)
theorem lq_lqq (s : ByteArray) : ∀ d i, i + d ≤ s.size → lq s d i = lqq (L s) d i
  | 0, _, _ => rfl
  | 1, _, _ => rfl
  | d + 2, i, h => by
    have h1 := lq_lqq s (d + 1) (i + 1) (by omega)
    have h2 := lq_lqq s (d + 1) i (by omega)
    have h3 := lq_lqq s d (i + 1) (by omega)
    have e : (bt s i = bt s ((i + d + 1 : Nat) : Int)) ↔ (L s)[i]? = (L s)[i + d + 1]? := by
      rw [bt_get (by omega), bt_get (by omega), List.getElem?_eq_getElem (by rw [L_size]; omega), List.getElem?_eq_getElem (by rw [L_size]; omega)]
      constructor
      · intro h; rw [UInt8.toNat_inj.1 (Int.ofNat.inj h)]
      · intro h; rw [Option.some.inj h]
    unfold lq lqq
    rw [h1, h2, h3]
    by_cases c : (L s)[i]? = (L s)[i + d + 1]?
    · rw [if_pos c, if_pos (e.2 c)]
    · rw [if_neg c, if_neg (fun h => c (e.1 h))]
theorem lqI_mxl (s : ByteArray) {i j : Nat} (h : i ≤ j) (hj : j ≤ s.size) : lqI s (i : Int) (j : Int) = (mxl (seg (L s) i j) : Int) := by
  unfold lqI
  by_cases c : (i : Int) < (j : Int)
  · rw [if_pos c, show ((j : Int) - i).toNat = j - i by omega, Int.toNat_natCast, lq_lqq s _ _ (by omega), lqq_mxl (by rw [L_size]; omega), show i + (j - i) = j by omega]
  · obtain rfl : i = j := by omega
    have : seg (L s) i i = [] := by unfold seg; simp
    rw [if_neg c, this]; rfl
/-- A letter that fits. -/
def Fit (S : List UInt8) (n : Nat) (c : UInt8) : Prop := ∃ A M B, Around S A M B c ∧ mxl M + 2 = n
theorem fit_ex {S : List UInt8} (h : 2 ≤ mxl S) : ∃ c, c ∈ S ∧ Fit S (mxl S) c := by
  obtain ⟨y, h1, h2, h3⟩ := mxl_ex S
  obtain ⟨c, z, rfl, hz⟩ := pal_form h1 (by omega)
  obtain ⟨A, M, B, hA⟩ := around_ex h2
  refine ⟨c, h2.subset (List.mem_cons_self ..), A, M, B, hA, ?_⟩
  have h4 := mxl_le hz (around_of hA h2)
  obtain ⟨w, w1, w2, w3⟩ := mxl_ex M
  have h5 := mxl_le (pal_cons_snoc.2 w1 : Pal (c :: (w ++ [c]))) (around_sub hA w2)
  simp at h3 h5
  omega
theorem toU8 {c : Nat} (h : c < 256) : (c : Int).toNat.toUInt8 = UInt8.ofNat c := by rw [Int.toNat_natCast]
theorem ofNat_toNat {c : Nat} (h : c < 256) : (UInt8.ofNat c).toNat = c := by
  rw [UInt8.toNat_ofNat']; exact Nat.mod_eq_of_lt h
/-- The search for the least letter that fits. -/
theorem inner_l1 {s : ByteArray} {i j : Nat} (hij : i ≤ j) (hj : j ≤ s.size) {S : List UInt8} (hS : seg (L s) i j = S) (hc : ∀ x ∈ S, 97 ≤ x.toNat ∧ x.toNat ≤ 100) {n : Nat} (hn : mxl S = n) (h2 : 2 ≤ n) : ∀ (f c : Nat), c + f = 101 → (∀ x : UInt8, x.toNat < c → ¬ Fit S n x) →
    ∃ (x : UInt8) (A M B : List UInt8), Around S A M B x ∧ mxl M + 2 = n ∧ (∀ y : UInt8, y < x → ¬ Fit S n y) ∧ x ∈ S ∧ Ev (fun k => trim_Inner.l1 k s i j n c) ((x.toNat : Int), ((i + A.length + 1 : Nat) : Int), ((i + A.length + 1 + M.length : Nat) : Int), false)
  | 0, c, h, hno => by
    exfalso
    obtain ⟨x, hx, hf⟩ := fit_ex (S := S) (by omega)
    rw [hn] at hf
    exact hno x (by have := hc x hx; omega) hf
  | f + 1, c, h, hno => by
    have hx : (UInt8.ofNat c).toNat = c := ofNat_toNat (by omega)
    obtain ⟨l1, l2, l3⟩ := letter (e := s.extract i j) (S := S) (by rw [L_extract]; exact hS) (UInt8.ofNat c)
    rw [hx] at l2 l3
    have hd : (s.extract i j).data.toList = S := by rw [← hS]; exact L_extract s i j
    have g : ∀ k, trim_Inner.l1 (k + 1) s i j n c = if (Lib.indexByte S (UInt8.ofNat c) < Lib.lastIndexByte (s.extract i j) c ∧ 2 + lqI s (i + Lib.indexByte S (UInt8.ofNat c) + 1) (i + Lib.lastIndexByte (s.extract i j) c) = n) then some ((c : Int), i + Lib.indexByte S (UInt8.ofNat c) + 1, i + Lib.lastIndexByte (s.extract i j) c, false) else trim_Inner.l1 k s i j n ((c + 1 : Nat) : Int) := by
      intro k
      simp only [trim_Inner.l1]
      rw [Int.toNat_natCast, Int.toNat_natCast, hd, toU8 (by omega), if_neg (by omega), show ((c : Int) + 1) % 256 = ((c + 1 : Nat) : Int) by omega]
    by_cases hA : ∃ A M B, Around S A M B (UInt8.ofNat c)
    · obtain ⟨A, M, B, hA⟩ := hA
      obtain ⟨p1, p2⟩ := l3 A M B hA
      have hlen : S.length = A.length + 1 + M.length + 1 + B.length := by rw [hA.eq]; simp; omega
      have hSl : S.length = j - i := by rw [← hS]; exact seg_len (by rw [L_size]; exact hj)
      have hM : seg (L s) (i + A.length + 1) (i + A.length + 1 + M.length) = M := by
        have := seg_seg (l := L s) (i := i) (j := j) (a := A.length + 1) (b := A.length + 1 + M.length) (by omega)
        rw [hS] at this
        rw [show i + A.length + 1 = i + (A.length + 1) by omega, show i + (A.length + 1) + M.length = i + (A.length + 1 + M.length) by omega, ← this, hA.eq]
        unfold seg
        rw [show A.length + 1 + M.length - (A.length + 1) = M.length by omega, List.drop_append, List.drop_of_length_le (by omega), show A.length + 1 - A.length = 1 by omega]
        simp
      have e1 : (i : Int) + Lib.indexByte S (UInt8.ofNat c) + 1 = ((i + A.length + 1 : Nat) : Int) := by rw [p1]; omega
      have e2 : (i : Int) + Lib.lastIndexByte (s.extract i j) c = ((i + A.length + 1 + M.length : Nat) : Int) := by rw [p2]; omega
      have hlq := lqI_mxl s (i := i + A.length + 1) (j := i + A.length + 1 + M.length) (by omega) (by omega)
      rw [hM] at hlq
      by_cases hf : mxl M + 2 = n
      · refine ⟨UInt8.ofNat c, A, M, B, hA, hf, fun y hy hfy => hno y (by rw [UInt8.lt_iff_toNat_lt, hx] at hy; exact hy) hfy, by rw [hA.eq]; simp, ?_⟩
        refine Ev.step (f := fun _ => some (((UInt8.ofNat c).toNat : Int), ((i + A.length + 1 : Nat) : Int), ((i + A.length + 1 + M.length : Nat) : Int), false)) (fun k => ?_) (Ev.now _)
        rw [g, e1, e2, hlq, if_pos ⟨by omega, by omega⟩, hx]
      · obtain ⟨x, A', M', B', r1, r2, r3, r4, r5⟩ := inner_l1 hij hj hS hc hn h2 f (c + 1) (by omega) (fun y hy hfy => by
          rcases Nat.lt_or_eq_of_le (Nat.le_of_lt_succ hy) with c1 | c1
          · exact hno y c1 hfy
          · have : y = UInt8.ofNat c := UInt8.toNat_inj.1 (by rw [hx]; exact c1)
            subst this
            obtain ⟨A2, M2, B2, h3, h4⟩ := hfy
            rw [around_eq h3 hA] at h4
            exact hf h4)
        refine ⟨x, A', M', B', r1, r2, r3, r4, Ev.step (f := fun k => trim_Inner.l1 k s i j n ((c + 1 : Nat) : Int)) (fun k => ?_) r5⟩
        rw [g, e1, e2, hlq, if_neg (fun h => hf (by omega))]
    · obtain ⟨x, A', M', B', r1, r2, r3, r4, r5⟩ := inner_l1 hij hj hS hc hn h2 f (c + 1) (by omega) (fun y hy hfy => by
        rcases Nat.lt_or_eq_of_le (Nat.le_of_lt_succ hy) with c1 | c1
        · exact hno y c1 hfy
        · have : y = UInt8.ofNat c := UInt8.toNat_inj.1 (by rw [hx]; exact c1)
          subst this
          obtain ⟨A2, M2, B2, h3, h4⟩ := hfy
          exact hA ⟨A2, M2, B2, h3⟩)
      refine ⟨x, A', M', B', r1, r2, r3, r4, Ev.step (f := fun k => trim_Inner.l1 k s i j n ((c + 1 : Nat) : Int)) (fun k => ?_) r5⟩
      rw [g, if_neg (fun h => hA (l2.1 h.1))]
/-- The search for the least letter, when one is left. -/
theorem inner_m1 {s : ByteArray} {i j : Nat} {S : List UInt8} (hS : seg (L s) i j = S) (hc : ∀ x ∈ S, 97 ≤ x.toNat ∧ x.toNat ≤ 100) (hne : S ≠ []) : ∀ (f c : Nat), c + f = 101 → (∀ x ∈ S, ¬ x.toNat < c) →
    ∃ x ∈ S, (∀ y ∈ S, ¬ y < x) ∧ Ev (fun k => trim_Inner.l1 k s i j 1 c) ((x.toNat : Int), (j : Int), (j : Int), true)
  | 0, c, h, hno => by
    exfalso
    match S, hne with
    | x :: t, _ => exact hno x (List.mem_cons_self ..) (by have := hc x (List.mem_cons_self ..); omega)
  | f + 1, c, h, hno => by
    have hx : (UInt8.ofNat c).toNat = c := ofNat_toNat (by omega)
    obtain ⟨l1, l2, l3⟩ := letter (e := s.extract i j) (S := S) (by rw [L_extract]; exact hS) (UInt8.ofNat c)
    rw [hx] at l2 l3
    have hd : (s.extract i j).data.toList = S := by rw [← hS]; exact L_extract s i j
    by_cases hm : UInt8.ofNat c ∈ S
    · refine ⟨UInt8.ofNat c, hm, fun y hy hlt => hno y hy (by rw [UInt8.lt_iff_toNat_lt, hx] at hlt; exact hlt), ?_⟩
      refine Ev.step (f := fun _ => some (((UInt8.ofNat c).toNat : Int), (j : Int), (j : Int), true)) (fun k => ?_) (Ev.now _)
      simp only [trim_Inner.l1]
      rw [Int.toNat_natCast, Int.toNat_natCast, hd, toU8 (by omega), if_pos ⟨trivial, l1.2 hm⟩, hx]
    · obtain ⟨x, r1, r2, r3⟩ := inner_m1 hS hc hne f (c + 1) (by omega) (fun y hy hlt => by
        rcases Nat.lt_or_eq_of_le (Nat.le_of_lt_succ hlt) with c1 | c1
        · exact hno y hy c1
        · have : y = UInt8.ofNat c := UInt8.toNat_inj.1 (by rw [hx]; exact c1)
          exact hm (this ▸ hy))
      refine ⟨x, r1, r2, Ev.step (f := fun k => trim_Inner.l1 k s i j 1 ((c + 1 : Nat) : Int)) (fun k => ?_) r3⟩
      simp only [trim_Inner.l1]
      have h1 : ¬ (0 ≤ Lib.indexByte S (UInt8.ofNat c)) := fun h => hm (l1.1 h)
      have h2 : ¬ (Lib.indexByte S (UInt8.ofNat c) < Lib.lastIndexByte (s.extract i j) c) := fun h => by
        obtain ⟨A, M, B, hA⟩ := l2.1 h
        exact hm (by rw [hA.eq]; simp)
      rw [Int.toNat_natCast, Int.toNat_natCast, hd, toU8 (by omega), if_neg (fun h => h1 h.2), if_neg (fun h => h2 h.1), show ((c : Int) + 1) % 256 = ((c + 1 : Nat) : Int) by omega]
/-- Numbers as bytes. -/
def bs8 (h : List Int) : List UInt8 := L (strOfNums h)
theorem bs8_append (a b : List Int) : bs8 (a ++ b) = bs8 a ++ bs8 b := by
  unfold bs8 L
  rw [strOfNums_data, strOfNums_data, strOfNums_data, List.map_append]
theorem bs8_one (x : UInt8) : bs8 [(x.toNat : Int)] = [x] := by
  unfold bs8 L
  rw [strOfNums_data]
  simp
theorem bs8_cons (x : UInt8) (h : List Int) : bs8 ((x.toNat : Int) :: h) = x :: bs8 h := by
  have := bs8_append [(x.toNat : Int)] h
  rw [bs8_one] at this
  exact this
theorem seg_chars {s : ByteArray} (hw : Word s) {i j : Nat} : ∀ x ∈ seg (L s) i j, 97 ≤ x.toNat ∧ x.toNat ≤ 100 := by
  intro x hx
  unfold seg at hx
  exact hw.2 x (List.mem_of_mem_drop (List.mem_of_mem_take hx))
theorem inner_l0 {s : ByteArray} (hw : Word s) : ∀ (N d i : Nat) (half : List Int), d ≤ N → i + d ≤ s.size → half.length + d ≤ 150 →
    ∃ h m, Ev (fun k => trim_Inner.l0 k s i ((i + d : Nat) : Int) half ⟨#[]⟩) (half ++ h, m) ∧ Best (seg (L s) i (i + d)) (bs8 h ++ L m ++ (bs8 h).reverse) ∧ h.length ≤ d ∧ m.size ≤ 1
  | N, d, i, half, hN, hz, hh => by
    have hI := lqI_mxl s (i := i) (j := i + d) (by omega) hz
    have hlen : (seg (L s) i (i + d)).length = d := by rw [seg_len (by rw [L_size]; exact hz)]; omega
    have hch := seg_chars hw (i := i) (j := i + d)
    generalize hS : seg (L s) i (i + d) = S at hI hlen hch
    rcases Nat.lt_trichotomy (mxl S) 1 with c | c | c
    · -- nothing is left
      have h0 : mxl S = 0 := by omega
      obtain rfl := mxl_pos.1 h0
      refine ⟨[], ⟨#[]⟩, Ev.step (f := fun _ => some (half, ⟨#[]⟩)) (fun k => ?_) (by rw [List.append_nil]; exact Ev.now _), best_nil, by simp, by simp [ByteArray.size]⟩
      simp only [trim_Inner.l0]
      rw [hI, if_neg (by omega)]
    · -- one letter
      have hne : S ≠ [] := fun e => by rw [e] at c; exact absurd c (by decide)
      obtain ⟨x, hx, hmin, hE⟩ := inner_m1 hS hch hne 4 97 rfl (fun x hx hlt => by have := hch x hx; omega)
      have hxr := hch x hx
      refine ⟨[], strOfNums [(x.toNat : Int)], Ev.step (f := fun k => (trim_Inner.l1 k s i ((i + d : Nat) : Int) 1 97).bind fun r => if r.2.2.2 = true then (if r.1 < 128 then trim_Inner.l0 k s r.2.1 r.2.2.1 half (strOfNums [r.1]) else none) else if half.length < 200 then trim_Inner.l0 k s r.2.1 r.2.2.1 (half ++ [r.1]) ⟨#[]⟩ else none) (fun k => ?_) (Ev.bind hE (Ev.ite_true rfl (Ev.ite_true (by simp only; omega) (Ev.step (f := fun _ => some (half, strOfNums [(x.toNat : Int)])) (fun k => ?_) (by rw [List.append_nil]; exact Ev.now _))))), ?_, by simp, by rw [strOfNums_size]; exact Nat.le_refl _⟩
      · simp only [trim_Inner.l0]
        rw [hI, if_pos (by omega), c]
        rfl
      · simp only [trim_Inner.l0]
        rw [if_neg (by unfold lqI; rw [if_neg (by omega)]; omega)]
      · have e : bs8 [] ++ L (strOfNums [(x.toNat : Int)]) ++ (bs8 []).reverse = [x] := by
          have h1 : bs8 [] = [] := rfl
          have h2 : L (strOfNums [(x.toNat : Int)]) = [x] := bs8_one x
          rw [h1, h2]; rfl
        rw [e]
        refine ⟨rfl, List.singleton_sublist.2 hx, fun z hz hs => by have := mxl_le hz hs; simp; omega, fun z hz hs hl hlt => ?_⟩
        obtain ⟨y, rfl⟩ := List.length_eq_one_iff.1 (by simpa using hl : z.length = 1)
        rw [List.cons_lt_cons_iff] at hlt
        rcases hlt with h1 | ⟨_, h1⟩
        · exact hmin y (List.singleton_sublist.1 hs) h1
        · exact absurd h1 (List.lt_irrefl _)
    · -- a letter at both ends
      obtain ⟨x, A, M, B, hA, hM, hmin, hx, hE⟩ := inner_l1 (s := s) (i := i) (j := i + d) (by omega) hz hS hch rfl (by omega) 4 97 rfl (fun y hy hf => by
        obtain ⟨A, M, B, hA, _⟩ := hf
        have := hch y (by rw [hA.eq]; simp)
        omega)
      have hlA : S.length = A.length + 1 + M.length + 1 + B.length := by rw [hA.eq]; simp; omega
      cases N with
      | zero => omega
      | succ N =>
        obtain ⟨h, m, r1, r2, r3, r4⟩ := inner_l0 hw N M.length (i + A.length + 1) (half ++ [(x.toNat : Int)]) (by omega) (by omega) (by simp; omega)
        have hMs : seg (L s) (i + A.length + 1) (i + A.length + 1 + M.length) = M := by
          have := seg_seg (l := L s) (i := i) (j := i + d) (a := A.length + 1) (b := A.length + 1 + M.length) (by omega)
          rw [hS] at this
          rw [show i + A.length + 1 = i + (A.length + 1) by omega, show i + (A.length + 1) + M.length = i + (A.length + 1 + M.length) by omega, ← this, hA.eq]
          unfold seg
          rw [show A.length + 1 + M.length - (A.length + 1) = M.length by omega, List.drop_append, List.drop_of_length_le (by omega), show A.length + 1 - A.length = 1 by omega]
          simp
        rw [hMs] at r2
        refine ⟨(x.toNat : Int) :: h, m, Ev.step (f := fun k => (trim_Inner.l1 k s i ((i + d : Nat) : Int) (mxl S) 97).bind fun r => if r.2.2.2 = true then (if r.1 < 128 then trim_Inner.l0 k s r.2.1 r.2.2.1 half (strOfNums [r.1]) else none) else if half.length < 200 then trim_Inner.l0 k s r.2.1 r.2.2.1 (half ++ [r.1]) ⟨#[]⟩ else none) (fun k => ?_) (Ev.bind hE (Ev.ite_false (by simp) (Ev.ite_true (by omega) ?_))), ?_, by simp; omega, r4⟩
        · simp only [trim_Inner.l0]
          rw [hI, if_pos (by omega)]
        · rw [List.append_assoc] at r1
          exact r1
        · have e : bs8 ((x.toNat : Int) :: h) ++ L m ++ (bs8 ((x.toNat : Int) :: h)).reverse = x :: ((bs8 h ++ L m ++ (bs8 h).reverse) ++ [x]) := by
            rw [bs8_cons]; simp
          rw [e]
          refine best_around hA r2 (mxl S) (by rw [best_len r2]; omega) (fun z hz hs => mxl_le hz hs) (fun c' A' M' B' hlt hA' z hz hs => ?_)
          have h1 := mxl_le hz hs
          obtain ⟨w, w1, w2, w3⟩ := mxl_ex M'
          have h5 := mxl_le (pal_cons_snoc.2 w1 : Pal (c' :: (w ++ [c']))) (around_sub hA' w2)
          simp at h5
          rcases Nat.lt_or_ge (z.length + 2) (mxl S) with h6 | h6
          · exact h6
          · exact absurd ⟨A', M', B', hA', by omega⟩ (hmin c' hlt)
theorem turned_bs {half : List Int} (h : half.length ≤ 1000) : trim_turned.f (strOfNums half) = some (mkS (bs8 half).reverse) := turned_ev (by rw [strOfNums_size]; omega)
theorem Inner_ev {s : ByteArray} (hw : Word s) : ∃ r, Ev (fun k => trim_Inner.f k s) (r, 0) ∧ Best (L s) (L r) ∧ r.size ≤ s.size := by
  obtain ⟨h, m, h1, h2, h3, h4⟩ := inner_l0 hw s.size s.size 0 [] (Nat.le_refl _) (by omega) (by have := hw.1; simp; omega)
  have hseg : seg (L s) 0 (0 + s.size) = L s := by
    have := seg_all (L s)
    rwa [L_size] at this
  rw [hseg] at h2
  have hL : L (strOfNums h ++ m ++ mkS (bs8 h).reverse) = bs8 h ++ L m ++ (bs8 h).reverse := by
    rw [L_append, L_append, L_mk]; rfl
  refine ⟨strOfNums h ++ m ++ mkS (bs8 h).reverse, ?_, by rw [hL]; exact h2, ?_⟩
  · unfold trim_Inner.f
    rw [isWord_yes hw]
    simp only [Option.bind_some]
    refine Ev.ite_true trivial (Ev.bind (a := (h, m)) (by simpa using h1) ?_)
    simp only [turned_bs (half := h) (by have := hw.1; omega), Option.bind_some]
    exact Ev.now _
  · rw [← L_size, hL, ← L_size]
    exact h2.sub.length_le
theorem nums_mk (l : List UInt8) : strOfNums (l.map fun b => (b.toNat : Int)) = mkS l := by
  refine L_inj ?_
  rw [L_mk]
  show (strOfNums _).data.toList = l
  rw [strOfNums_data, List.map_map]
  conv => rhs; rw [← List.map_id l]
  refine List.map_congr_left (fun b _ => ?_)
  simp
theorem rrev_loop {s : ByteArray} (hs : s.size ≤ 1000000) : ∀ (n : Nat) (x3 : List Int), n ≤ s.size → x3.length + n = s.size → Ev (fun k => galloonref01_Reversed.l0 k s x3 ((n : Int) - 1)) (strOfNums (x3 ++ (((L s).take n).reverse.map fun b => (b.toNat : Int))))
  | 0, x3, h, hl => by
    refine Ev.step (f := fun _ => some (strOfNums x3)) (fun k => ?_) (Ev.to (Ev.now _) (by simp))
    simp only [galloonref01_Reversed.l0]
    rw [if_neg (by omega)]
  | n + 1, x3, h, hl => by
    have hi : n < (L s).length := by rw [L_size]; omega
    have hb := bt_L hi
    have hx : ((n + 1 : Nat) : Int) - 1 = (n : Int) := by omega
    have hw : wrap64 ((n : Int) - 1) = (n : Int) - 1 := w64 (by omega)
    refine Ev.step (f := fun k => galloonref01_Reversed.l0 k s (x3 ++ [bt s n]) ((n : Int) - 1)) (fun k => ?_) (Ev.to (rrev_loop hs n (x3 ++ [bt s n]) (by omega) (by simp; omega)) ?_)
    · rw [hx]
      simp only [galloonref01_Reversed.l0]
      rw [if_pos (by omega), if_pos (by omega), if_pos (by omega), if_pos (by omega), hw]
    · rw [take_snoc (L s) n hi, List.reverse_append, hb]
      simp
theorem rrev_ev {s : ByteArray} (hs : s.size ≤ 1000000) : Ev (fun k => galloonref01_Reversed.f k s) (mkS (L s).reverse) := by
  have h := rrev_loop hs s.size [] (Nat.le_refl _) (by simp)
  have hw : wrap64 ((s.size : Int) - 1) = (s.size : Int) - 1 := w64 (by omega)
  have ht : (L s).take s.size = L s := List.take_of_length_le (by rw [L_size]; omega)
  rw [ht, List.nil_append, nums_mk] at h
  unfold galloonref01_Reversed.f
  rw [hw]
  exact h
theorem seg_reverse {l : List UInt8} {i j : Nat} (h : i ≤ j) (hj : j ≤ l.length) : seg l.reverse i j = (seg l (l.length - j) (l.length - i)).reverse := by
  unfold seg
  rw [← List.drop_take, List.take_reverse, List.drop_reverse]
  congr 1
  rw [List.length_drop, show l.length - (l.length - j) - i = l.length - i - (l.length - j) by omega]
theorem pal_reverse {l : List UInt8} {i j : Nat} (h : i ≤ j) (hj : j ≤ l.length) : Pal (seg l.reverse i j) ↔ Pal (seg l (l.length - j) (l.length - i)) := by
  rw [seg_reverse h hj]
  unfold Pal
  rw [List.reverse_reverse]
  exact eq_comm
theorem pals_sub {s s' : ByteArray} (h : L s' = (L s).reverse) (hs : s.size ≤ 100) (y : ByteArray) (hy : y ∈ palSpec s) : y ∈ palSpec s' := by
  have hsz : s'.size = s.size := by rw [← L_size, h, List.length_reverse, L_size]
  obtain ⟨a, b, ⟨h1, h2, h3⟩, rfl⟩ := (palSpec_iff hs y).1 hy
  refine (palSpec_iff (by omega) _).2 ⟨s.size - b, s.size - a, ⟨by omega, by omega, ?_⟩, ?_⟩
  · rw [h, pal_reverse (by omega) (by rw [L_size]; omega), L_size, show s.size - (s.size - a) = a by omega, show s.size - (s.size - b) = b by omega]
    exact h3
  · refine L_inj ?_
    rw [seg_L, seg_L, h, seg_reverse (by omega) (by rw [L_size]; omega), L_size, show s.size - (s.size - a) = a by omega, show s.size - (s.size - b) = b by omega]
    exact h3.symm
theorem pals_rev {s s' : ByteArray} (h : L s' = (L s).reverse) (hs : s.size ≤ 100) : palSpec s = palSpec s' := by
  have hsz : s'.size = s.size := by rw [← L_size, h, List.length_reverse, L_size]
  have h' : L s = (L s').reverse := by rw [h, List.reverse_reverse]
  exact sorted_eq _ _ (palSpec_sorted s) (palSpec_sorted s') (fun y => ⟨pals_sub h hs y, pals_sub h' (by omega) y⟩)
theorem cen_rev {s s' : ByteArray} (h : L s' = (L s).reverse) (hs : s.size ≤ 100) {c : Nat} (hc : c + 1 < 2 * s.size) : cen s' ((2 * s.size - 2 - c : Nat) : Int).toNat = cen s c := by
  have hsz : s'.size = s.size := by rw [← L_size, h, List.length_reverse, L_size]
  rw [Int.toNat_natCast]
  obtain ⟨i0, e0, q1, q2, q3, q4, q5, q6⟩ := cen_spec hs (c := c) hc
  obtain ⟨i1, e1, r1, r2, r3, r4, r5, r6⟩ := cen_spec (s := s') (by omega) (c := 2 * s.size - 2 - c) (by omega)
  have hc1 : cen s c = (e0 : Int) - i0 := by unfold cen; rw [q1]; rfl
  have hc2 : cen s' (2 * s.size - 2 - c : Nat) = (e1 : Int) - i1 := by unfold cen; rw [r1]; rfl
  rw [hc1, hc2]
  have hp1 : Pal (seg (L s) (s.size - e1) (s.size - i1)) := by
    rw [h, pal_reverse r3 (by rw [L_size]; omega), L_size] at r5
    exact r5
  rcases Nat.lt_trichotomy (s.size - e1) i0 with c1 | c1 | c1
  · exact absurd hp1 (q6 _ _ (by omega) c1 (by omega))
  · omega
  · refine absurd ?_ (r6 (s.size - e0) (s.size - i0) (by omega) (by omega) (by omega))
    rw [h, pal_reverse (by omega) (by rw [L_size]; omega), L_size, show s.size - (s.size - i0) = i0 by omega, show s.size - (s.size - e0) = e0 by omega]
    exact q5
theorem rev_l0 {C D : List Int} {N : Nat} (hN : N ≤ 1000) (hC : C.length = N) (hD : D.length = N) (hv : ∀ i : Nat, i < N → rd C i = rd D ((N - 1 - i : Nat) : Int)) : ∀ n i : Nat, i + n = N → Ev (fun k => galloonlaw01_TrimReversed.l0 k C D i) true
  | 0, i, hi => by
    refine Ev.step (f := fun k => (galloonlaw01_awake.f k).bind fun t => some t) (fun k => ?_) (Ev.bind awake_ev (Ev.now _))
    simp only [galloonlaw01_TrimReversed.l0]
    rw [if_neg (by omega)]
  | n + 1, i, hi => by
    have hw1 : wrap64 ((D.length : Int) - 1) = ((N - 1 : Nat) : Int) := by rw [w64 (by omega)]; omega
    have hw2 : wrap64 (((N - 1 : Nat) : Int) - i) = ((N - 1 - i : Nat) : Int) := by rw [w64 (by omega)]; omega
    have hw3 : wrap64 ((i : Int) + 1) = ((i + 1 : Nat) : Int) := by rw [w64 (by omega)]; rfl
    have q1 : (i : Int) < (C.length : Int) := by omega
    have q2 : (0 : Int) ≤ (i : Int) := by omega
    have q3 : (0 : Int) ≤ ((N - 1 - i : Nat) : Int) := by omega
    have q4 : ((N - 1 - i : Nat) : Int) < (D.length : Int) := by omega
    refine Ev.step (f := fun k => galloonlaw01_TrimReversed.l0 k C D ((i + 1 : Nat) : Int)) (fun k => ?_) (rev_l0 hN hC hD hv n (i + 1) (by omega))
    simp only [galloonlaw01_TrimReversed.l0]
    rw [if_pos q1, if_pos q2, hw1, hw2, if_pos q3, if_pos q4, if_pos (hv i (by omega)), hw3]
theorem map_range_get {f : Nat → Int} {n i : Nat} (h : i < n) : ((List.range n).map f)[i]? = some (f i) := by simp [h]
theorem rd_of_get {l : List Int} {i : Nat} {v : Int} (h : l[i]? = some v) : rd l i = v := by
  unfold rd
  rw [Int.toNat_natCast, List.getD_eq_getElem?_getD, h]
  rfl
theorem rd_cen {s : ByteArray} {i N : Nat} (hN : N = 2 * s.size - 1) (h : i < N) : rd (cenL s) i = cen s i := by
  refine rd_of_get ?_
  unfold cenL
  rw [← hN]
  exact map_range_get (f := fun c => cen s c) h
theorem rev_cens {s s' : ByteArray} (h : L s' = (L s).reverse) (hs : s.size ≤ 100) : Ev (fun k => galloonlaw01_TrimReversed.l0 k (cenL s) (cenL s') ((0 : Nat) : Int)) true := by
  have hsz : s'.size = s.size := by rw [← L_size, h, List.length_reverse, L_size]
  obtain ⟨N, hN⟩ : ∃ N, N = 2 * s.size - 1 := ⟨_, rfl⟩
  have l1 : (cenL s).length = N := by rw [cenL_len, hN]
  have l2 : (cenL s').length = N := by rw [cenL_len, hN, hsz]
  refine rev_l0 (N := N) (by omega) l1 l2 (fun i hi => ?_) N 0 (Nat.zero_add _)
  have hc := cen_rev h hs (c := i) (by omega)
  obtain ⟨j, hj⟩ : ∃ j, j = 2 * s.size - 2 - i := ⟨_, rfl⟩
  rw [Int.toNat_natCast, ← hj] at hc
  have e : N - 1 - i = j := by omega
  rw [e, rd_cen hN hi, rd_cen (N := N) (by omega) (by omega)]
  exact hc.symm
theorem TrimReversed : galloonlaw01_TrimReversed.Pure := by
  intro a0 ha
  obtain ⟨t, ht, hw, hts⟩ := tame_ev (a := a0) (m := 60) (by decide) ha
  obtain ⟨u, hu⟩ : ∃ u, u = mkS (L t).reverse := ⟨_, rfl⟩
  have hLu : L u = (L t).reverse := by rw [hu, L_mk]
  have hz : u.size = t.size := by rw [← L_size, hLu, List.length_reverse, L_size]
  have hwu : Word u := ⟨by have := hw.1; omega, fun c hc => by rw [hLu, List.mem_reverse] at hc; exact hw.2 c hc⟩
  have hr := rrev_ev (s := t) (by omega)
  rw [← hu] at hr
  obtain ⟨⟨x, xe⟩, e1, x1, x2, x3, x4⟩ := Fewest_ev hw
  obtain ⟨⟨y, ye⟩, e2, y1, y2, y3, y4⟩ := Fewest_ev hwu
  simp only at x1 x2 x3 x4 y1 y2 y3 y4
  subst x1 y1
  have hxy : x.length = y.length := by
    have := least_rev x3
    rw [← hLu] at this
    exact least_eq this y3
  have hways : waysA u = waysA t := by
    unfold waysA
    have := wv_rev (L t)
    rw [← hLu, L_size] at this
    rw [hz, this]
  have v1 := Ways_ev hw
  have v2 := Ways_ev hwu
  rw [hways] at v2
  obtain ⟨p, p1, p2, _⟩ := Inner_ev hw
  obtain ⟨q, q1, q2, _⟩ := Inner_ev hwu
  have hpq : p = q := by
    have := best_rev p2
    rw [← hLu] at this
    exact L_inj (best_eq2 this q2)
  subst hpq
  have hpal := pals_rev hLu hw.1
  have hlt := palSpec_len u (by omega)
  have hl1 := cenL_len t
  have hl2 := cenL_len u
  have hne : (p.toList != p.toList) = false := by rw [bne_self_eq_false]
  have hj : Ev (fun k => galloonlaw01_TrimReversed.j0 k (cenL t) (cenL u) (p.toList != p.toList)) true := by
    rw [hne]
    refine Ev.step (f := fun k => galloonlaw01_TrimReversed.l0 k (cenL t) (cenL u) ((0 : Nat) : Int)) (fun k => ?_) (rev_cens hLu hw.1)
    simp only [galloonlaw01_TrimReversed.j0]
    rw [if_neg (by decide)]
    rfl
  refine Ev.rounds (g := fun k => galloonlaw01_TrimReversed.f k a0) ?_
  unfold galloonlaw01_TrimReversed.f
  refine Ev.bind ht (Ev.bind hr ?_)
  rw [Palindromes_yes hw, Palindromes_yes hwu]
  simp only [Option.bind_some]
  refine Ev.bind (Centers_ev hw) (Ev.bind (Centers_ev hwu) (Ev.bind e1 (Ev.bind e2 (Ev.bind v1 (Ev.bind v2 (Ev.bind p1 (Ev.bind q1 ?_)))))))
  refine Ev.ite_true trivial (Ev.ite_true trivial (Ev.ite_true rfl (Ev.ite_true rfl (Ev.ite_true rfl (Ev.ite_true rfl (Ev.ite_true rfl (Ev.ite_true rfl (Ev.ite_true rfl (Ev.bind (a := true) ?_ (Ev.ite_true rfl (Ev.ite_true (by simp only; omega) (Ev.ite_true (by simp only; omega) (Ev.ite_true rfl hj)))))))))))))
  rw [hpal]
  exact texts_ev (by omega)
end Go.Proofs.Ytbdlhgdfnnbjiaa.Pure
