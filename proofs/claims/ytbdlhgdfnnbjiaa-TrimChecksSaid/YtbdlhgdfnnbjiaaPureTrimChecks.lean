import Derived.Test.YtbdlhgdfnnbjiaaPYx29
import Derived.Test.YtbdlhgdfnnbjiaaBRef
/-! TrimChecks: the plain law. -/
namespace Go.Proofs.Ytbdlhgdfnnbjiaa.Pure
open Go.Proofs.Ytbdlhgdfnnbjiaa.PY Go.RowKit Go.Proofs.YtbdlhgdfnnbjiaaW.PrintWords Go.Proofs.YtbdlhgdfnnbjiaaW.PrintLast Go.Proofs.Ytbdlhgdfnnbjiaa.Pal
/-- Nonempty palindromes that make up the word. -/
def partsOk (w : List UInt8) : List ByteArray → Bool
  | [] => decide (w = [])
  | p :: ps => decide (p.size ≠ 0 ∧ w.take p.size = L p ∧ Pal (L p)) && partsOk (w.drop p.size) ps
theorem few_loop {l : List ByteArray} : ∀ (n i : Nat) (x3 : List ByteArray), i + n = min l.length 101 → x3.length = i → (∀ p ∈ x3, p.size ≤ 101) → ∃ r, Ev (fun k => galloonlaw01_few.l0 k l x3 i) r ∧ r.length ≤ 101 ∧ ∀ p ∈ r, p.size ≤ 101
  | 0, i, x3, h, hl, hp => by
    refine ⟨x3, ?_, by omega, hp⟩
    refine Ev.step (f := fun _ => some x3) (fun k => ?_) (Ev.now _)
    simp only [galloonlaw01_few.l0]
    by_cases c : (i : Int) < (l.length : Int)
    · rw [if_pos c, if_neg (by omega)]
    · rw [if_neg c]
  | n + 1, i, x3, h, hl, hp => by
    obtain ⟨t, ht, hts⟩ := short_ev (rdOf ByteArray.empty l i)
    have hw : wrap64 ((i : Int) + 1) = ((i + 1 : Nat) : Int) := by rw [w64 (by omega)]; rfl
    obtain ⟨r, h1, h2, h3⟩ := few_loop (l := l) n (i + 1) (x3 ++ [t]) (by omega) (by simp [hl]) (by
      intro p hp2
      rcases List.mem_append.1 hp2 with hp2 | hp2
      · exact hp p hp2
      · rw [List.mem_singleton.1 hp2]; exact hts)
    refine ⟨r, Ev.step (f := fun k => galloonlaw01_few.l0 k l (x3 ++ [t]) ((i + 1 : Nat) : Int)) (fun k => ?_) h1, h2, h3⟩
    simp only [galloonlaw01_few.l0]
    rw [if_pos (by omega), if_pos (by omega), if_pos (by omega), ht, hw]
    simp only [Option.bind_some]
    rw [if_pos (by omega)]
theorem few_ev (l : List ByteArray) : ∃ r, Ev (fun k => galloonlaw01_few.f k l) r ∧ r.length ≤ 101 ∧ ∀ p ∈ r, p.size ≤ 101 :=
  few_loop (min l.length 101) 0 [] (by omega) rfl (by simp)
theorem cut_ev (a p : ByteArray) : strings_CutPrefix.f a p = some (if (L a).take p.size = L p then (mkS ((L a).drop p.size), true) else (a, false)) := by
  unfold strings_CutPrefix.f stringslite_CutPrefix.f stringslite_HasPrefix.f
  by_cases c : (a.size : Int) ≥ (p.size : Int)
  · rw [if_pos c, if_pos (by omega), if_pos (by omega)]
    have he : (a.extract 0 ((p.size : Int)).toNat).toList = (L a).take p.size := by rw [toList_L, Int.toNat_natCast, L_to]
    rw [he, toList_L]
    simp only [Option.bind_some]
    by_cases d : (L a).take p.size = L p
    · rw [if_pos d, if_pos (by simpa using d), if_pos (by omega), if_pos (by omega)]
      simp only [Option.bind_some]
      have : a.extract ((p.size : Int)).toNat a.size = mkS ((L a).drop p.size) := L_inj (by rw [Int.toNat_natCast, L_from, L_mk])
      rw [this]
    · rw [if_neg d, if_neg (by simpa using d)]
      rfl
  · rw [if_neg c]
    have : ¬ (L a).take p.size = L p := by
      intro e
      have := congrArg List.length e
      rw [List.length_take, L_size, L_size] at this
      omega
    rw [if_neg this]
    rfl
theorem rdOf_drop {l : List ByteArray} {i : Nat} (h : i < l.length) : l.drop i = rdOf ByteArray.empty l i :: l.drop (i + 1) := by
  rw [List.drop_eq_getElem_cons h]
  congr 1
  simp [rdOf, h]
theorem check_loop {ps : List ByteArray} (hl : ps.length ≤ 101) (hp : ∀ p ∈ ps, p.size ≤ 101) : ∀ (n i : Nat) (w : List UInt8), i + n = ps.length → Ev (fun k => trim_Check.l0 k (mkS w) ps ps.length i) (if partsOk w (ps.drop i) = true then 0 else 10)
  | 0, i, w, h => by
    have hd : ps.drop i = [] := List.drop_of_length_le (by omega)
    rw [hd]
    by_cases c : w = []
    · refine Ev.step (f := fun _ => some 0) (fun k => ?_) (Ev.to (Ev.now _) (by simp [partsOk, c]))
      simp only [trim_Check.l0]
      rw [if_neg (by omega), if_pos (by rw [toList_L, L_mk]; exact c)]
    · refine Ev.step (f := fun _ => some 10) (fun k => ?_) (Ev.to (Ev.now _) (by simp [partsOk, c]))
      simp only [trim_Check.l0]
      rw [if_neg (by omega), if_neg (by rw [toList_L, L_mk]; exact c)]
  | n + 1, i, w, h => by
    have hi : i < ps.length := by omega
    obtain ⟨p, hpe⟩ : ∃ p, p = rdOf ByteArray.empty ps i := ⟨_, rfl⟩
    have hd := rdOf_drop hi
    rw [← hpe] at hd
    have hps : p.size ≤ 101 := hp p (List.mem_of_mem_drop (i := i) (by rw [hd]; exact List.mem_cons_self ..))
    have hw : wrap64 ((i : Int) + 1) = ((i + 1 : Nat) : Int) := by rw [w64 (by omega)]; rfl
    have hcut := cut_ev (mkS w) p
    rw [L_mk] at hcut
    have hpal := isPal_ev (a := p) (by omega)
    have hz : p.toList = [] ↔ p.size = 0 := by
      rw [toList_L, ← L_size]
      exact ⟨fun e => by rw [e]; rfl, fun e => List.eq_nil_of_length_eq_zero e⟩
    rw [hd]
    simp only [partsOk]
    by_cases c1 : w.take p.size = L p
    · rw [if_pos c1] at hcut
      by_cases c2 : p.size = 0
      · refine Ev.step (f := fun _ => some 10) (fun k => ?_) (Ev.to (Ev.now _) (by simp [c2]))
        simp only [trim_Check.l0]
        rw [if_pos (by omega), if_pos (by omega), if_pos (by omega), ← hpe, hcut]
        simp only [Option.bind_some]
        rw [if_pos trivial, if_pos (hz.2 c2)]
      · by_cases c3 : Pal (L p)
        · refine Ev.step (f := fun k => trim_Check.l0 k (mkS (w.drop p.size)) ps ps.length ((i + 1 : Nat) : Int)) (fun k => ?_) (Ev.to (check_loop hl hp n (i + 1) (w.drop p.size) (by omega)) (by simp [c1, c2, c3]))
          simp only [trim_Check.l0]
          rw [if_pos (by omega), if_pos (by omega), if_pos (by omega), ← hpe, hcut]
          simp only [Option.bind_some]
          rw [if_pos trivial, if_neg (fun e => c2 (hz.1 e)), hpal]
          simp only [Option.bind_some]
          rw [if_pos (by simpa using c3), hw]
        · refine Ev.step (f := fun _ => some 10) (fun k => ?_) (Ev.to (Ev.now _) (by simp [c3]))
          simp only [trim_Check.l0]
          rw [if_pos (by omega), if_pos (by omega), if_pos (by omega), ← hpe, hcut]
          simp only [Option.bind_some]
          rw [if_pos trivial, if_neg (fun e => c2 (hz.1 e)), hpal]
          simp only [Option.bind_some]
          rw [if_neg (by simpa using c3)]
    · rw [if_neg c1] at hcut
      refine Ev.step (f := fun _ => some 10) (fun k => ?_) (Ev.to (Ev.now _) (by simp [c1]))
      simp only [trim_Check.l0]
      rw [if_pos (by omega), if_pos (by omega), if_pos (by omega), ← hpe, hcut]
      simp only [Option.bind_some]
      rw [if_neg (by simp)]
theorem rparts_loop {s : ByteArray} (hs : s.size ≤ 1000) {ps : List ByteArray} (hl : ps.length ≤ 101) (hp : ∀ p ∈ ps, p.size ≤ 101) : ∀ (n i x : Nat), i + n = ps.length → x ≤ s.size → Ev (fun k => galloonref01_Parts.l0 k s ps x i) (partsOk ((L s).drop x) (ps.drop i))
  | 0, i, x, h, hx => by
    have hd : ps.drop i = [] := List.drop_of_length_le (by omega)
    rw [hd]
    refine Ev.step (f := fun _ => some ((x : Int) == (s.size : Int))) (fun k => ?_) (Ev.to (Ev.now _) ?_)
    · simp only [galloonref01_Parts.l0]
      rw [if_neg (by omega)]
    · simp only [partsOk]
      rw [Bool.eq_iff_iff, beq_iff_eq, decide_eq_true_iff, List.drop_eq_nil_iff, L_size]
      omega
  | n + 1, i, x, h, hx => by
    have hi : i < ps.length := by omega
    obtain ⟨p, hpe⟩ : ∃ p, p = rdOf ByteArray.empty ps i := ⟨_, rfl⟩
    have hd := rdOf_drop hi
    rw [← hpe] at hd
    have hps : p.size ≤ 101 := hp p (List.mem_of_mem_drop (i := i) (by rw [hd]; exact List.mem_cons_self ..))
    have hw : wrap64 ((i : Int) + 1) = ((i + 1 : Nat) : Int) := by rw [w64 (by omega)]; rfl
    have hw2 : wrap64 ((s.size : Int) - x) = ((s.size - x : Nat) : Int) := by rw [w64 (by omega)]; omega
    have hw3 : wrap64 ((x : Int) + (p.size : Int)) = ((x + p.size : Nat) : Int) := by rw [w64 (by omega)]; rfl
    have hpal := rpal_ev (s := p) (by omega)
    have he : (s.extract (x : Int).toNat (((x + p.size : Nat) : Int)).toNat).toList = ((L s).drop x).take p.size := by
      rw [toList_L, L_extract, Int.toNat_natCast, Int.toNat_natCast, Nat.add_sub_cancel_left]
    rw [hd]
    simp only [partsOk]
    by_cases c2 : p.size = 0
    · refine Ev.step (f := fun _ => some false) (fun k => ?_) (Ev.to (Ev.now _) (by simp [c2]))
      simp only [galloonref01_Parts.l0]
      rw [if_pos (by omega), if_pos (by omega), ← hpe, if_pos (by omega)]
    · by_cases c4 : p.size ≤ s.size - x
      · by_cases c1 : ((L s).drop x).take p.size = L p
        · refine Ev.step (f := fun k => (galloonref01_Palindrome.f k p).bind fun t => if t = true then galloonref01_Parts.l0 k s ps ((x + p.size : Nat) : Int) ((i + 1 : Nat) : Int) else some false) (fun k => ?_) (Ev.bind hpal ?_)
          · simp only [galloonref01_Parts.l0]
            rw [if_pos (by omega), if_pos (by omega), ← hpe, if_neg (by omega), hw2, if_neg (by omega), if_pos (by omega), hw3, if_pos (by omega), if_pos (by omega), he, toList_L, if_pos c1, hw]
          · by_cases c3 : Pal (L p)
            · refine Ev.ite_true (decide_eq_true c3) (Ev.to (rparts_loop hs hl hp n (i + 1) (x + p.size) (by omega) (by omega)) ?_)
              simp [c1, c2, c3]
            · refine Ev.ite_false (by simpa using c3) (Ev.to (Ev.now _) ?_)
              simp [c3]
        · refine Ev.step (f := fun _ => some false) (fun k => ?_) (Ev.to (Ev.now _) (by simp [c1]))
          simp only [galloonref01_Parts.l0]
          rw [if_pos (by omega), if_pos (by omega), ← hpe, if_neg (by omega), hw2, if_neg (by omega), if_pos (by omega), hw3, if_pos (by omega), if_pos (by omega), he, toList_L, if_neg c1]
      · have c1 : ¬ ((L s).drop x).take p.size = L p := by
          intro e
          have := congrArg List.length e
          rw [List.length_take, List.length_drop, L_size, L_size] at this
          omega
        refine Ev.step (f := fun _ => some false) (fun k => ?_) (Ev.to (Ev.now _) (by simp [c1]))
        simp only [galloonref01_Parts.l0]
        rw [if_pos (by omega), if_pos (by omega), ← hpe, if_neg (by omega), hw2, if_pos (by omega)]
theorem TrimChecks : galloonlaw01_TrimChecks.Pure := by
  intro a0 l1 _
  obtain ⟨t, ht, hts⟩ := short_ev a0
  obtain ⟨ps, hf, hl, hp⟩ := few_ev l1
  have hw := rword_ev (s := t) (by omega)
  have hi := isWord_iff t
  have hP := rparts_loop (s := t) (by omega) hl hp ps.length 0 0 (by omega) (by omega)
  rw [List.drop_zero, List.drop_zero] at hP
  refine Ev.rounds (g := fun k => galloonlaw01_TrimChecks.f k a0 l1) ?_
  unfold galloonlaw01_TrimChecks.f
  rw [ht]
  simp only [Option.bind_some]
  by_cases c : t.size ≤ 100 ∧ ∀ c ∈ L t, 97 ≤ c.toNat ∧ c.toNat ≤ 100
  · have hC : Ev (fun k => trim_Check.f k t ps) (if partsOk (L t) ps = true then 0 else 10) := by
      have := check_loop hl hp ps.length 0 (L t) (by omega)
      rw [mk_L, List.drop_zero] at this
      unfold trim_Check.f
      rw [hi]
      simp only [Option.bind_some]
      exact Ev.ite_true (by simpa using c) this
    refine Ev.bind hf (Ev.bind hC (Ev.bind hw (Ev.ite_true (decide_eq_true c) (Ev.bind hP ?_))))
    by_cases d : partsOk (L t) ps = true
    · rw [if_pos d]
      exact Ev.ite_true d (Ev.ite_true rfl (Ev.bind awake_ev (Ev.now _)))
    · rw [if_neg d]
      exact Ev.ite_false d (Ev.ite_true rfl (Ev.bind awake_ev (Ev.now _)))
  · have hC : Ev (fun k => trim_Check.f k t ps) 2 := by
      unfold trim_Check.f
      rw [hi]
      simp only [Option.bind_some]
      exact Ev.ite_false (by simpa using c) (Ev.now _)
    exact Ev.bind hf (Ev.bind hC (Ev.bind hw (Ev.ite_false (by simpa using c) (Ev.ite_true rfl (Ev.bind awake_ev (Ev.now _))))))
end Go.Proofs.Ytbdlhgdfnnbjiaa.Pure
