import Derived.Test.YtbdlhgdfnnbjiaaPYx15
import Derived.Test.YtbdlhgdfnnbjiaaBBase
/-! TrimClosures: the plain law. -/
namespace Go.Proofs.Ytbdlhgdfnnbjiaa.Pure
open Go.Proofs.Ytbdlhgdfnnbjiaa.PY Go.RowKit Go.Proofs.YtbdlhgdfnnbjiaaW.PrintWords Go.Proofs.YtbdlhgdfnnbjiaaW.PrintLast Go.Proofs.Ytbdlhgdfnnbjiaa.Pal
theorem nums_mk (l : List UInt8) : strOfNums (l.map fun b => (b.toNat : Int)) = mkS l := by
  refine L_inj ?_
  rw [L_mk]
  show (strOfNums _).data.toList = l
  rw [strOfNums_data, List.map_map]
  conv => rhs; rw [← List.map_id l]
  refine List.map_congr_left (fun b _ => ?_)
  simp
theorem rrev_loop {s : ByteArray} (hs : s.size ≤ 1000000) : ∀ (n : Nat) (x3 : List Int), n ≤ s.size → x3.length + n = s.size → Ev (fun k => galloonref01_Reversed.l0 k s x3 ((n : Int) - 1)) (strOfNums (x3 ++ (((L s).take n).reverse.map fun b => (b.toNat : Int))))
  | 0, x3, h, hl => by
    refine Ev.step (f := fun _ => some (strOfNums x3)) (fun k => ?_) (Ev.to (Ev.now _) (by simp))
    simp only [galloonref01_Reversed.l0]
    rw [if_neg (by omega)]
  | n + 1, x3, h, hl => by
    have hi : n < (L s).length := by rw [L_size]; omega
    have hb := bt_L hi
    have hx : ((n + 1 : Nat) : Int) - 1 = (n : Int) := by omega
    have hw : wrap64 ((n : Int) - 1) = (n : Int) - 1 := w64 (by omega)
    refine Ev.step (f := fun k => galloonref01_Reversed.l0 k s (x3 ++ [bt s n]) ((n : Int) - 1)) (fun k => ?_) (Ev.to (rrev_loop hs n (x3 ++ [bt s n]) (by omega) (by simp; omega)) ?_)
    · rw [hx]
      simp only [galloonref01_Reversed.l0]
      rw [if_pos (by omega), if_pos (by omega), if_pos (by omega), if_pos (by omega), hw]
    · rw [take_snoc (L s) n hi, List.reverse_append, hb]
      simp
theorem rrev_ev {s : ByteArray} (hs : s.size ≤ 1000000) : Ev (fun k => galloonref01_Reversed.f k s) (mkS (L s).reverse) := by
  have h := rrev_loop hs s.size [] (Nat.le_refl _) (by simp)
  have hw : wrap64 ((s.size : Int) - 1) = (s.size : Int) - 1 := w64 (by omega)
  have ht : (L s).take s.size = L s := List.take_of_length_le (by rw [L_size]; omega)
  rw [ht, List.nil_append, nums_mk] at h
  unfold galloonref01_Reversed.f
  rw [hw]
  exact h
theorem rclo_loop {s : ByteArray} (hs : s.size ≤ 1000000) : ∀ n j : Nat, j + n = s.size → Ev (fun k => galloonref01_Closure.l0 k s j) (mkS (L s ++ ((L s).take (j + fp ((L s).drop j))).reverse))
  | n, j, h => by
    have hx1 : L (s.extract (j : Int).toNat s.size) = (L s).drop j := by rw [Int.toNat_natCast, L_from]
    have hx2 : L (s.extract 0 (j : Int).toNat) = (L s).take j := by rw [Int.toNat_natCast, L_to]
    have hp : Ev (fun k => galloonref01_Palindrome.f k (s.extract (j : Int).toNat s.size)) (decide (Pal ((L s).drop j))) := by
      rw [← hx1]; exact rpal_ev (by rw [ByteArray.size_extract]; omega)
    have hr : Ev (fun k => galloonref01_Reversed.f k (s.extract 0 (j : Int).toNat)) (mkS ((L s).take j).reverse) := by
      rw [← hx2]; exact rrev_ev (by rw [ByteArray.size_extract]; omega)
    have hw2 : wrap64 ((j : Int) + 1) = ((j + 1 : Nat) : Int) := by rw [w64 (by omega)]; rfl
    refine Ev.step (f := fun k => (galloonref01_Palindrome.f k (s.extract (j : Int).toNat s.size)).bind fun t => if t = true then ((galloonref01_Reversed.f k (s.extract 0 (j : Int).toNat)).bind fun t194 => (if s.size + t194.size ≤ 9223372036854775807 then (some (s ++ t194)) else (none))) else galloonref01_Closure.l0 k s ((j + 1 : Nat) : Int)) (fun k => ?_) (Ev.bind hp ?_)
    · simp only [galloonref01_Closure.l0]
      rw [if_pos (by omega), if_pos (by omega), hw2]
    · by_cases c : Pal ((L s).drop j)
      · have hf : fp ((L s).drop j) = 0 := Nat.le_zero.1 (fp_min _ 0 (by simpa using c))
        refine Ev.ite_true (by simpa using c) (Ev.bind hr (Ev.ite_true (by rw [mk_size, List.length_reverse, List.length_take]; omega) (Ev.to (Ev.now _) ?_)))
        rw [hf, Nat.add_zero]
        exact L_inj (by rw [L_append, L_mk, L_mk])
      · refine Ev.ite_false (by simpa using c) ?_
        cases n with
        | zero =>
          have : (L s).drop j = [] := List.drop_of_length_le (by rw [L_size]; omega)
          rw [this] at c
          exact absurd rfl c
        | succ n =>
          have hd : (L s).drop j = (L s)[j]'(by rw [L_size]; omega) :: (L s).drop (j + 1) := List.drop_eq_getElem_cons (by rw [L_size]; omega)
          have hf : fp ((L s).drop j) = fp ((L s).drop (j + 1)) + 1 := by
            rw [hd] at c ⊢
            conv => lhs; unfold fp
            rw [if_neg c]
          have ih := rclo_loop hs n (j + 1) (by omega)
          rw [hf, show j + (fp ((L s).drop (j + 1)) + 1) = j + 1 + fp ((L s).drop (j + 1)) by omega]
          exact ih
theorem rclo_ev {s : ByteArray} (hs : s.size ≤ 1000000) : Ev (fun k => galloonref01_Closure.f k s) (mkS (clo (L s))) := by
  have := rclo_loop hs s.size 0 (by omega)
  simpa [galloonref01_Closure.f, clo] using this
theorem rtower_loop {s : ByteArray} (hs : s.size ≤ 1000) : ∀ n i : Nat, s.size = i + n → (tow ((L s).take i)).length ≤ 100 →
    Ev (fun k => galloonref01_Tower.l0 k s (mkS (tow ((L s).take i))) i) (if (tow (L s)).length ≤ 100 then (mkS (tow (L s)), true) else (mkS [], false))
  | 0, i, h, hl => by
    have e : (L s).take i = L s := List.take_of_length_le (by rw [L_size]; omega)
    rw [e] at hl ⊢
    rw [if_pos hl]
    refine Ev.step (f := fun _ => some (mkS (tow (L s)), true)) (fun k => ?_) (Ev.now _)
    simp only [galloonref01_Tower.l0]
    rw [if_neg (by omega)]
  | n + 1, i, h, hl => by
    have hi : i < (L s).length := by rw [L_size]; omega
    have hw : wrap64 ((i : Int) + 1) = ((i + 1 : Nat) : Int) := by rw [w64 (by omega)]; rfl
    have hx : s.extract (i : Int).toNat (((i + 1 : Nat) : Int)).toNat = mkS [(L s)[i]] := L_inj (by
      rw [Int.toNat_natCast, Int.toNat_natCast, L_extract, L_mk, List.drop_eq_getElem_cons hi, Nat.add_sub_cancel_left]
      rfl)
    have hcat : mkS (tow ((L s).take i)) ++ mkS [(L s)[i]] = mkS (tow ((L s).take i) ++ [(L s)[i]]) := mk_append _ _
    have hc := rclo_ev (s := mkS (tow ((L s).take i) ++ [(L s)[i]])) (by rw [mk_size]; simp; omega)
    rw [L_mk, ← tow_snoc, ← take_snoc (L s) i hi] at hc
    refine Ev.step (f := fun k => (galloonref01_Closure.f k (mkS (tow ((L s).take i) ++ [(L s)[i]]))).bind fun t324 => (if (t324.size : Int) > 100 then (some ((⟨#[]⟩ : ByteArray), false)) else (galloonref01_Tower.l0 k s t324 (((i + 1 : Nat) : Int))))) (fun k => ?_) (Ev.bind hc ?_)
    · simp only [galloonref01_Tower.l0]
      rw [if_pos (by omega), if_pos (by omega), hw, if_pos (by omega), if_pos (by omega), hx, hcat, if_pos (by rw [mk_size, mk_size]; simp; omega)]
    · by_cases c : (tow ((L s).take (i + 1))).length ≤ 100
      · exact Ev.ite_false (by rw [mk_size]; omega) (rtower_loop hs n (i + 1) (by omega) c)
      · have := (tow_take_prefix (L s) (i + 1)).length_le
        rw [if_neg (by omega)]
        exact Ev.ite_true (by rw [mk_size]; omega) (Ev.now _)
theorem rtower_ev {s : ByteArray} (hs : s.size ≤ 1000) : Ev (fun k => galloonref01_Tower.f k s) (if (tow (L s)).length ≤ 100 then (mkS (tow (L s)), true) else (mkS [], false)) := by
  have := rtower_loop hs s.size 0 (by omega) (by simp [tow])
  simpa [galloonref01_Tower.f, tow, mkS] using this
/-- What the reference says of a base. -/
def rbaseR (s : ByteArray) : ByteArray × Bool := if tow (bs (L s) s.size) = L s then (mkS (bs (L s) s.size), true) else (mkS [], false)
theorem rbase_step {s : ByteArray} {w : List UInt8} (hp : tow w <+: L s) (hlt : (tow w).length < (L s).length) (ht : tow (bs (L s) s.size) = L s) : tow (w ++ [(L s)[(tow w).length]]) <+: L s := by
  obtain ⟨v, hv⟩ : ∃ v, v = bs (L s) s.size := ⟨_, rfl⟩
  rw [← hv] at ht
  obtain ⟨i, hi, hti⟩ := tow_pp v (tow w) (by rw [ht]; exact hp) (tow_pal w)
  have hiv : i < v.length := by
    rcases Nat.lt_or_ge i v.length with h | h
    · exact h
    · rw [List.take_of_length_le h, ht] at hti
      have := congrArg List.length hti
      omega
  have h1 := tow_take_step v i hiv
  rw [← hti, ht] at h1
  have hx : (L s)[(tow w).length] = v[i] := by
    obtain ⟨t, e⟩ := h1
    have e2 : (L s)[(tow w).length]? = some v[i] := by
      rw [← e, List.append_assoc, List.getElem?_append_right (Nat.le_refl _), Nat.sub_self]
      rfl
    rw [List.getElem?_eq_getElem hlt] at e2
    exact Option.some.inj e2
  rw [hx, tow_snoc, hti, ← tow_snoc, ← take_snoc v i hiv, ← ht]
  exact tow_take_prefix v (i + 1)
theorem rbase_loop {s : ByteArray} (hs : s.size ≤ 100) : ∀ (n : Nat) (w : List UInt8), tow w <+: L s → (tow w).length + n = s.size → Ev (fun k => galloonref01_Base.l0 k s (mkS w) (mkS (tow w))) (rbaseR s) := by
  intro n
  induction n using Nat.strongRecOn with
  | _ n ih =>
    intro w hp hn
    have hle := tow_len_ge w
    by_cases hlt : (tow w).length < (L s).length
    · have hxs : s.extract (((mkS (tow w)).size : Int) : Int).toNat ((((tow w).length + 1 : Nat) : Int)).toNat = mkS [(L s)[(tow w).length]] := L_inj (by
        rw [mk_size, Int.toNat_natCast, Int.toNat_natCast, L_extract, L_mk, List.drop_eq_getElem_cons hlt, Nat.add_sub_cancel_left]
        rfl)
      rw [L_size] at hlt
      have hw : wrap64 (((mkS (tow w)).size : Int) + 1) = (((tow w).length + 1 : Nat) : Int) := by rw [mk_size, w64 (by omega)]; rfl
      obtain ⟨x, hx⟩ : ∃ x, x = (L s)[(tow w).length]'(by rw [L_size]; exact hlt) := ⟨_, rfl⟩
      rw [← hx] at hxs
      have hcat : mkS (tow w) ++ mkS [x] = mkS (tow w ++ [x]) := mk_append _ _
      have hcat2 : mkS w ++ mkS [x] = mkS (w ++ [x]) := mk_append _ _
      have hc := rclo_ev (s := mkS (tow w ++ [x])) (by rw [mk_size]; simp; omega)
      rw [L_mk, ← tow_snoc] at hc
      refine Ev.step (f := fun k => (galloonref01_Closure.f k (mkS (tow w ++ [x]))).bind fun t196 => (if (t196.size : Int) > (s.size : Int) then (some ((⟨#[]⟩ : ByteArray), false)) else (if 0 ≤ (t196.size : Int) then (if (t196.size : Int) ≤ (s.size : Int) then (if t196.toList = (s.extract 0 ((t196.size : Int) : Int).toNat).toList then (galloonref01_Base.l0 k s (mkS (w ++ [x])) t196) else (some ((⟨#[]⟩ : ByteArray), false))) else (none)) else (none)))) (fun k => ?_) (Ev.bind hc ?_)
      · simp only [galloonref01_Base.l0]
        rw [hw, hxs, hcat, hcat2]
        rw [if_pos (by rw [mk_size]; omega), if_pos (by omega), if_pos (by rw [mk_size]; omega), if_pos (by omega), if_pos (by rw [mk_size, mk_size]; simp; omega), if_pos (by rw [mk_size, mk_size]; simp; omega)]
      · have hstep := rbase_step hp (by rw [L_size]; exact hlt)
        rw [← hx] at hstep
        have hno : ¬ tow (w ++ [x]) <+: L s → rbaseR s = (mkS [], false) := fun h => if_neg (fun e => h (hstep e))
        by_cases c1 : (tow (w ++ [x])).length ≤ s.size
        · refine Ev.ite_false (by rw [mk_size]; omega) (Ev.ite_true (by omega) (Ev.ite_true (by rw [mk_size]; omega) ?_))
          by_cases c2 : tow (w ++ [x]) = (L s).take (tow (w ++ [x])).length
          · have hp2 : tow (w ++ [x]) <+: L s := List.prefix_iff_eq_take.2 c2
            refine Ev.ite_true ?_ ?_
            · rw [toList_L, toList_L, mk_size, Int.toNat_natCast, L_to, L_mk]
              exact c2
            · have hl := tow_len_lt w x
              exact ih (s.size - (tow (w ++ [x])).length) (by omega) (w ++ [x]) hp2 (by omega)
          · rw [hno (fun h => c2 (List.prefix_iff_eq_take.1 h))]
            refine Ev.ite_false ?_ (Ev.now _)
            rw [toList_L, toList_L, mk_size, Int.toNat_natCast, L_to, L_mk]
            exact c2
        · rw [hno (fun h => c1 (by have := h.length_le; rw [L_size] at this; exact this))]
          exact Ev.ite_true (by rw [mk_size]; omega) (Ev.now _)
    · have he : L s = tow w := (List.IsPrefix.eq_of_length hp (by have := hp.length_le; omega)).symm
      have hb : bs (L s) s.size = w := by rw [← L_size, he]; exact bs_tow w
      have hR : rbaseR s = (mkS w, true) := by
        unfold rbaseR
        rw [hb, if_pos he.symm]
      rw [hR]
      refine Ev.step (f := fun _ => some (mkS w, true)) (fun k => ?_) (Ev.now _)
      simp only [galloonref01_Base.l0]
      rw [L_size] at hlt
      rw [if_neg (by rw [mk_size]; omega)]
theorem rbase_ev {s : ByteArray} (hs : s.size ≤ 100) : Ev (fun k => galloonref01_Base.f k s) (rbaseR s) := by
  have := rbase_loop hs s.size [] (List.nil_prefix) (by simp [tow])
  simpa [galloonref01_Base.f, tow, mkS] using this
theorem base_both {s : ByteArray} (hs : s.size ≤ 100) : (tow (bs (L s) s.size) = L s → baseR s = (mkS (bs (L s) s.size), 0)) ∧ (¬ tow (bs (L s) s.size) = L s → baseR s = (⟨#[]⟩, 6)) := by
  refine ⟨fun h => if_pos ?_, fun h => if_neg ?_⟩
  · rw [if_pos (by rw [h, L_size]; exact hs), h]
  · split
    · exact h
    · rename_i c
      intro e
      have h0 : s.size = 0 := by rw [← L_size, ← e]; rfl
      have := bs_len (L s) s.size
      have hb : bs (L s) s.size = [] := List.eq_nil_of_length_eq_zero (by omega)
      rw [hb] at c
      simp [tow] at c
theorem closures_j0 {s : ByteArray} (h : Word s) (T1 : ByteArray) (T2 : Int) (hT : (T1, T2) = (if (tow (L s)).length ≤ 100 then (mkS (tow (L s)), (0 : Int)) else (⟨#[]⟩, 5))) (B1 : ByteArray) (B2 : Int) (hB : (B1, B2) = baseR s) : Ev (fun k => galloonlaw01_TrimClosures.j0 k s T1 T2 B1 B2) true := by
  have h1 := rtower_ev (s := s) (by have := h.1; omega)
  have h2 := rbase_ev h.1
  obtain ⟨b1, b2⟩ := base_both h.1
  refine Ev.step (f := fun k => (galloonref01_Tower.f k s).bind fun bt207 => ((galloonref01_Base.f k s).bind fun bt209 => (if T1.toList = bt207.1.toList then (if bt207.2 = true then (if T2 = 0 then (if B1.toList = bt209.1.toList then (if bt209.2 = true then (if B2 = 0 then ((galloonlaw01_awake.f k).bind fun t211 => (some t211)) else (some false)) else (if B2 = 6 then ((galloonlaw01_awake.f k).bind fun t212 => (some t212)) else (some false))) else (some false)) else (some false)) else (if T2 = 5 then (if B1.toList = bt209.1.toList then (if bt209.2 = true then (if B2 = 0 then ((galloonlaw01_awake.f k).bind fun t213 => (some t213)) else (some false)) else (if B2 = 6 then ((galloonlaw01_awake.f k).bind fun t214 => (some t214)) else (some false))) else (some false)) else (some false))) else (some false)))) (fun k => rfl) (Ev.bind h1 (Ev.bind h2 ?_))
  by_cases c : tow (bs (L s) s.size) = L s
  · rw [b1 c] at hB
    simp only [Prod.mk.injEq] at hB
    obtain ⟨rfl, rfl⟩ := hB
    have hr : rbaseR s = (mkS (bs (L s) s.size), true) := if_pos c
    rw [hr]
    by_cases d : (tow (L s)).length ≤ 100
    · rw [if_pos d] at hT ⊢
      simp only [Prod.mk.injEq] at hT
      obtain ⟨rfl, rfl⟩ := hT
      exact Ev.ite_true rfl (Ev.ite_true rfl (Ev.ite_true rfl (Ev.ite_true rfl (Ev.ite_true rfl (Ev.ite_true rfl (Ev.bind awake_ev (Ev.now _)))))))
    · rw [if_neg d] at hT ⊢
      simp only [Prod.mk.injEq] at hT
      obtain ⟨rfl, rfl⟩ := hT
      exact Ev.ite_true rfl (Ev.ite_false (by simp) (Ev.ite_true rfl (Ev.ite_true rfl (Ev.ite_true rfl (Ev.ite_true rfl (Ev.bind awake_ev (Ev.now _)))))))
  · rw [b2 c] at hB
    simp only [Prod.mk.injEq] at hB
    obtain ⟨rfl, rfl⟩ := hB
    have hr : rbaseR s = (mkS [], false) := if_neg c
    rw [hr]
    by_cases d : (tow (L s)).length ≤ 100
    · rw [if_pos d] at hT ⊢
      simp only [Prod.mk.injEq] at hT
      obtain ⟨rfl, rfl⟩ := hT
      exact Ev.ite_true rfl (Ev.ite_true rfl (Ev.ite_true rfl (Ev.ite_true rfl (Ev.ite_false (by simp) (Ev.ite_true rfl (Ev.bind awake_ev (Ev.now _)))))))
    · rw [if_neg d] at hT ⊢
      simp only [Prod.mk.injEq] at hT
      obtain ⟨rfl, rfl⟩ := hT
      exact Ev.ite_true rfl (Ev.ite_false (by simp) (Ev.ite_true rfl (Ev.ite_true rfl (Ev.ite_false (by simp) (Ev.ite_true rfl (Ev.bind awake_ev (Ev.now _)))))))
theorem TrimClosures : galloonlaw01_TrimClosures.Pure := by
  intro a0 _
  obtain ⟨t, ht, hts⟩ := short_ev a0
  have hw := rword_ev (s := t) (by omega)
  refine Ev.rounds (g := fun k => galloonlaw01_TrimClosures.f k a0) ?_
  unfold galloonlaw01_TrimClosures.f
  rw [ht]
  simp only [Option.bind_some]
  by_cases c : Word t
  · have hc := closure_ev (s := t) (by omega)
    have hC : Ev (fun k => trim_Closure.f k t) (if (clo (L t)).length ≤ 100 then (mkS (clo (L t)), 0) else (⟨#[]⟩, 5)) := by
      unfold trim_Closure.f
      rw [isWord_yes c]
      simp only [Option.bind_some]
      refine Ev.ite_true trivial (Ev.bind hc ?_)
      by_cases d : (clo (L t)).length ≤ 100
      · rw [if_pos d]; exact Ev.ite_false (by rw [mk_size]; omega) (Ev.now _)
      · rw [if_neg d]; exact Ev.ite_true (by rw [mk_size]; omega) (Ev.now _)
    refine Ev.bind hC (Ev.bind (Tower_ev c) (Ev.bind (base_ev c) (Ev.bind hw (Ev.ite_true (decide_eq_true c) (Ev.bind (rclo_ev (by omega)) ?_)))))
    by_cases d : (clo (L t)).length ≤ 100
    · rw [if_pos d]
      exact Ev.ite_false (by rw [mk_size]; omega) (Ev.ite_true rfl (Ev.ite_true rfl (closures_j0 c _ _ rfl _ _ rfl)))
    · rw [if_neg d]
      exact Ev.ite_true (by rw [mk_size]; omega) (Ev.ite_true (by rw [toList_L]; rfl) (Ev.ite_true rfl (closures_j0 c _ _ rfl _ _ rfl)))
  · have hC : Ev (fun k => trim_Closure.f k t) (⟨#[]⟩, 2) := by
      unfold trim_Closure.f
      rw [isWord_no c]
      simp only [Option.bind_some]
      exact Ev.ite_false (by simp) (Ev.now _)
    have hT : Ev (fun k => trim_Tower.f k t) (⟨#[]⟩, 2) := by
      unfold trim_Tower.f
      rw [isWord_no c]
      simp only [Option.bind_some]
      exact Ev.ite_false (by simp) (Ev.now _)
    have hB : Ev (fun k => trim_Base.f k t) (⟨#[]⟩, 2) := by
      unfold trim_Base.f
      rw [isWord_no c]
      simp only [Option.bind_some]
      exact Ev.ite_false (by simp) (Ev.now _)
    exact Ev.bind hC (Ev.bind hT (Ev.bind hB (Ev.bind hw (Ev.ite_false (by rw [decide_eq_true_iff]; exact c) (Ev.ite_true (by rw [toList_L]; rfl) (Ev.ite_true rfl (Ev.ite_true (by rw [toList_L]; rfl) (Ev.ite_true rfl (Ev.ite_true (by rw [toList_L]; rfl) (Ev.ite_true rfl (Ev.bind awake_ev (Ev.now _))))))))))))
end Go.Proofs.Ytbdlhgdfnnbjiaa.Pure
