/- The order of Palindromes: it is whole, and the spec's list is in it. -/
import Derived.Test.YtbdlhgdfnnbjiaaGCmp
import Derived.Shelf.SlSortCmp.NoneTotal
namespace Go.Proofs.Ytbdlhgdfnnbjiaa.PY
open Go.RowKit Go.Shelf Go.Sort Go.Proofs.YtbdlhgdfnnbjiaaW.PrintWords Go.Proofs.YtbdlhgdfnnbjiaaW.PrintLast Go.Proofs.YtbdlhgdfnnbjiaaW.PrintMore
set_option linter.unusedVariables false
set_option linter.unusedSimpArgs false
def ltL (x y : List UInt8) : Prop := x.length < y.length ∨ (x.length = y.length ∧ x < y)
theorem cmpI_neg {a b : Int} : cmpI a b < 0 ↔ a < b := by unfold cmpI; split <;> (try split) <;> omega
theorem cmpI_zero {a b : Int} : cmpI a b = 0 ↔ a = b := by unfold cmpI; split <;> (try split) <;> omega
theorem cmpS_neg {x y : List UInt8} : cmpS x y < 0 ↔ x < y := by
  unfold cmpS
  by_cases h1 : x < y
  · simp [h1]
  · by_cases h2 : y < x <;> simp [h1, h2]
theorem cmpP_neg {x y : List UInt8} : cmpP x y < 0 ↔ ltL x y := by
  unfold cmpP ltL
  by_cases h : cmpI x.length y.length = 0
  · rw [h, orI_0, cmpS_neg]
    have e : x.length = y.length := by have := cmpI_zero.1 h; omega
    constructor
    · intro h3; exact .inr ⟨e, h3⟩
    · rintro (h3 | h3)
      · omega
      · exact h3.2
  · rw [orI_ne _ h, cmpI_neg]
    have h2 : ¬ (x.length : Int) = y.length := fun e => h (cmpI_zero.2 e)
    constructor
    · intro h3; left; omega
    · rintro (h3 | h3)
      · omega
      · exact absurd (by rw [h3.1]) h2
theorem ltOf_iff {x y : List UInt8} : ltOf cmpP x y = true ↔ ltL x y := by unfold ltOf; rw [decide_eq_true_iff, cmpP_neg]
theorem ltOf_no {x y : List UInt8} : ltOf cmpP x y = false ↔ ¬ ltL x y := by rw [← ltOf_iff]; simp
theorem ltL_irrefl (x : List UInt8) : ¬ ltL x x := fun h => by
  rcases h with h | ⟨_, h⟩
  · omega
  · exact List.lt_irrefl x h
theorem ltL_trans {x y z : List UInt8} (h1 : ltL x y) (h2 : ltL y z) : ltL x z := by
  rcases h1 with h1 | ⟨e1, h1⟩ <;> rcases h2 with h2 | ⟨e2, h2⟩
  · exact .inl (by omega)
  · exact .inl (by omega)
  · exact .inl (by omega)
  · exact .inr ⟨by omega, List.lt_trans h1 h2⟩
theorem ltL_tri {x y : List UInt8} (h1 : ¬ ltL x y) (h2 : ¬ ltL y x) : x = y := by
  have hl : x.length = y.length := by
    rcases Nat.lt_trichotomy x.length y.length with h | h | h
    · exact absurd (.inl h) h1
    · exact h
    · exact absurd (.inl h) h2
  exact lt_tri (fun h => h1 (.inr ⟨hl, h⟩)) (fun h => h2 (.inr ⟨hl.symm, h⟩))
theorem swoP : SWO (ltOf cmpP) where
  irrefl x := ltOf_no.2 (ltL_irrefl x)
  trans x y z h1 h2 := ltOf_iff.2 (ltL_trans (ltOf_iff.1 h1) (ltOf_iff.1 h2))
  ntrans x y z h1 h2 := ltOf_no.2 fun h => by
    have h1 := ltOf_no.1 h1
    have h2 := ltOf_no.1 h2
    by_cases c : ltL y x
    · exact h2 (ltL_trans c h)
    · have := ltL_tri h1 c
      subst this
      exact h2 h
theorem totP (x y : List UInt8) (h1 : ltOf cmpP x y = false) (h2 : ltOf cmpP y x = false) : x = y := ltL_tri (ltOf_no.1 h1) (ltOf_no.1 h2)
/-! ### the list of the spec -/
theorem ltP_iff {x y : ByteArray} : ltP x y = true ↔ ltL x.data.toList y.data.toList := by
  have hx : x.data.toList.length = x.size := by simp
  have hy : y.data.toList.length = y.size := by simp
  unfold ltP ltL
  rw [hx, hy]
  simp
theorem bytes_inj {x y : ByteArray} (h : x.data.toList = y.data.toList) : x = y := by
  obtain ⟨⟨a⟩⟩ := x
  obtain ⟨⟨b⟩⟩ := y
  simpa using h
theorem ltP_tri {x y : ByteArray} (h1 : ¬ ltP x y = true) (h2 : ¬ ltP y x = true) : x = y := bytes_inj (ltL_tri (fun h => h1 (ltP_iff.2 h)) (fun h => h2 (ltP_iff.2 h)))
theorem ltP_trans {x y z : ByteArray} (h1 : ltP x y = true) (h2 : ltP y z = true) : ltP x z = true := ltP_iff.2 (ltL_trans (ltP_iff.1 h1) (ltP_iff.1 h2))
theorem insP_mem (x y : ByteArray) : ∀ l, y ∈ insP x l ↔ y = x ∨ y ∈ l
  | [] => by simp [insP]
  | z :: l => by
    unfold insP
    by_cases h1 : ltP x z = true
    · rw [if_pos h1]; simp
    · rw [if_neg h1]
      by_cases h2 : ltP z x = true
      · rw [if_pos h2, List.mem_cons, insP_mem x y l, List.mem_cons]
        constructor
        · rintro (h | h | h)
          · exact .inr (.inl h)
          · exact .inl h
          · exact .inr (.inr h)
        · rintro (h | h | h)
          · exact .inr (.inl h)
          · exact .inl h
          · exact .inr (.inr h)
      · rw [if_neg h2, ltP_tri h1 h2]
        simp
theorem insP_sorted (x : ByteArray) : ∀ l, l.Pairwise (fun a b => ltP a b = true) → (insP x l).Pairwise (fun a b => ltP a b = true)
  | [], _ => by simp [insP]
  | z :: l, h => by
    obtain ⟨h3, h4⟩ := List.pairwise_cons.1 h
    unfold insP
    by_cases h1 : ltP x z = true
    · rw [if_pos h1]
      refine List.pairwise_cons.2 ⟨fun b hb => ?_, h⟩
      rcases List.mem_cons.1 hb with rfl | hb
      · exact h1
      · exact ltP_trans h1 (h3 b hb)
    · rw [if_neg h1]
      by_cases h2 : ltP z x = true
      · rw [if_pos h2]
        refine List.pairwise_cons.2 ⟨fun b hb => ?_, insP_sorted x l h4⟩
        rcases (insP_mem x b l).1 hb with rfl | hb
        · exact h2
        · exact h3 b hb
      · rw [if_neg h2]; exact h
def insAll (ts : List (Int × ByteArray)) (l : List ByteArray) : List ByteArray := ts.foldl (fun l x => insP x.2 l) l
theorem insAll_mem (y : ByteArray) : ∀ ts l, y ∈ insAll ts l ↔ (∃ t ∈ ts, t.2 = y) ∨ y ∈ l
  | [], l => by simp [insAll]
  | t :: ts, l => by
    have := insAll_mem y ts (insP t.2 l)
    simp only [insAll, List.foldl_cons] at this ⊢
    rw [this, insP_mem]
    constructor
    · rintro (⟨u, hu, e⟩ | h | h)
      · exact .inl ⟨u, List.mem_cons_of_mem _ hu, e⟩
      · exact .inl ⟨t, List.mem_cons_self, h.symm⟩
      · exact .inr h
    · rintro (⟨u, hu, e⟩ | h)
      · rcases List.mem_cons.1 hu with rfl | hu
        · exact .inr (.inl e.symm)
        · exact .inl ⟨u, hu, e⟩
      · exact .inr (.inr h)
theorem insAll_sorted : ∀ ts l, l.Pairwise (fun a b => ltP a b = true) → (insAll ts l).Pairwise (fun a b => ltP a b = true)
  | [], l, h => h
  | t :: ts, l, h => insAll_sorted ts (insP t.2 l) (insP_sorted t.2 l h)
theorem palSpec_mem (s y : ByteArray) : y ∈ palSpec s ↔ ∃ t ∈ partsL s, t.2 = y := by
  have := insAll_mem y (partsL s) []
  simp only [List.not_mem_nil, or_false] at this
  exact this
theorem palSpec_sorted (s : ByteArray) : (palSpec s).Pairwise (fun a b => ltP a b = true) := insAll_sorted (partsL s) [] List.Pairwise.nil
theorem palSpec_nodup (s : ByteArray) : ((palSpec s).map fun y => y.data.toList).Nodup := by
  rw [List.Nodup, List.pairwise_map]
  refine (palSpec_sorted s).imp fun {a b} h e => ?_
  have := ltP_iff.1 h
  rw [e] at this
  exact ltL_irrefl _ this
/-- Sorted, any list of the same strings is the spec's. -/
theorem sort_eq {s : ByteArray} {ss : List (List UInt8)} (h : ss.Perm ((palSpec s).map fun y => y.data.toList)) : ss.mergeSort (fun x y => !(ltOf cmpP) y x) = (palSpec s).map fun y => y.data.toList := by
  have tr : ∀ a b c : List UInt8, (!(ltOf cmpP) b a) = true → (!(ltOf cmpP) c b) = true → (!(ltOf cmpP) c a) = true := fun a b c h1 h2 => by
    simp only [Bool.not_eq_true'] at *
    exact swoP.ntrans _ _ _ h2 h1
  have tot : ∀ a b : List UInt8, ((!(ltOf cmpP) b a) || (!(ltOf cmpP) a b)) = true := fun a b => by
    by_cases c : ltL a b
    · have : ltOf cmpP b a = false := ltOf_no.2 fun h => ltL_irrefl _ (ltL_trans c h)
      simp [this]
    · have : ltOf cmpP a b = false := ltOf_no.2 c
      simp [this]
  refine List.Perm.eq_of_pairwise (le := fun a b => (!(ltOf cmpP) b a) = true) (fun a b _ _ h1 h2 => ?_) (List.pairwise_mergeSort tr tot ss) ?_ ((List.mergeSort_perm ss _).trans h)
  · simp only [Bool.not_eq_true'] at h1 h2
    exact totP _ _ h2 h1
  · rw [List.pairwise_map]
    refine (palSpec_sorted s).imp fun {a b} h => ?_
    have : ltOf cmpP b.data.toList a.data.toList = false := ltOf_no.2 fun h2 => ltL_irrefl _ (ltL_trans (ltP_iff.1 h) h2)
    simp [this]
end Go.Proofs.Ytbdlhgdfnnbjiaa.PY
