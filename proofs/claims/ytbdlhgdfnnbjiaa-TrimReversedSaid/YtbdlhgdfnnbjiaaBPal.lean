import Derived.Test.YtbdlhgdfnnbjiaaPYx6
import Derived.Test.YtbdlhgdfnnbjiaaBEv
import Derived.Test.YtbdlhgdfnnbjiaaPal
import Derived.Lib.Strings
/-! Words as lists of bytes; what turned, isPalindrome, end, closure and tower compute. -/
namespace Go.Proofs.Ytbdlhgdfnnbjiaa.PY
open Go.RowKit Go.Proofs.YtbdlhgdfnnbjiaaW.PrintWords Go.Proofs.YtbdlhgdfnnbjiaaW.PrintLast Go.Proofs.Ytbdlhgdfnnbjiaa.Pal

/-- A string's bytes, and back. -/
def L (s : ByteArray) : List UInt8 := s.data.toList
def mkS (l : List UInt8) : ByteArray := ⟨l.toArray⟩
theorem L_mk (l : List UInt8) : L (mkS l) = l := by simp [L, mkS]
theorem mk_L (s : ByteArray) : mkS (L s) = s := by simp [L, mkS]
theorem L_inj {s t : ByteArray} (h : L s = L t) : s = t := by rw [← mk_L s, ← mk_L t, h]
theorem L_size (s : ByteArray) : (L s).length = s.size := by simp [L]
theorem mk_size (l : List UInt8) : (mkS l).size = l.length := by simp [mkS, ByteArray.size]
theorem L_append (s t : ByteArray) : L (s ++ t) = L s ++ L t := by simp [L, ByteArray.data_append]
theorem mk_append (s t : List UInt8) : mkS s ++ mkS t = mkS (s ++ t) := L_inj (by rw [L_append, L_mk, L_mk, L_mk])
theorem L_extract (s : ByteArray) (a b : Nat) : L (s.extract a b) = ((L s).drop a).take (b - a) := Lib.extract_data s a b
theorem L_from (s : ByteArray) (a : Nat) : L (s.extract a s.size) = (L s).drop a := by
  rw [L_extract, List.take_of_length_le (by rw [List.length_drop, L_size]; omega)]
theorem L_to (s : ByteArray) (b : Nat) : L (s.extract 0 b) = (L s).take b := by rw [L_extract]; simp
theorem toList_L (s : ByteArray) : s.toList = L s := ByteArray.toList_eq s
theorem bt_L {s : ByteArray} {i : Nat} (h : i < (L s).length) : bt s i = (((L s)[i]).toNat : Int) := by
  have h' : i < s.size := by rw [← L_size]; exact h
  unfold bt
  rw [dif_pos (by simpa using h')]
  simp only [Int.toNat_natCast]
  rfl
theorem turned_ev {a : ByteArray} (h : a.size ≤ 1000000) : trim_turned.f a = some (mkS (L a).reverse) := by
  unfold trim_turned.f
  rw [if_pos h]
  congr 1
  refine L_inj ?_
  rw [L_mk]
  simp only [L, strOfNums, numsOf, ← List.map_reverse, List.map_map]
  conv => rhs; rw [← List.map_id (a.data.toList.reverse)]
  refine List.map_congr_left (fun b _ => ?_)
  simp
theorem isPal_ev {a : ByteArray} (h : a.size ≤ 1000000) : trim_isPalindrome.f a = some (decide (Pal (L a))) := by
  unfold trim_isPalindrome.f
  rw [turned_ev h]
  simp only [Option.bind_some, toList_L, L_mk, Option.some.injEq]
  rw [Bool.eq_iff_iff, beq_iff_eq, decide_eq_true_iff]
  exact ⟨fun h => h.symm, fun h => h.symm⟩
theorem end_loop {s : ByteArray} (hs : s.size ≤ 1000000) : ∀ n i : Nat, s.size = i + n → Ev (fun k => trim_end.l0 k s s.size i) ((n : Int) - fp ((L s).drop i))
  | 0, i, h => by
    refine Ev.step (f := fun _ => some 0) (fun k => ?_) ?_
    · simp only [trim_end.l0]; rw [if_neg (by omega)]
    · have : (L s).drop i = [] := List.drop_of_length_le (by rw [L_size]; omega)
      rw [this]; exact Ev.now _
  | n + 1, i, h => by
    have ih := end_loop hs n (i + 1) (by omega)
    have hx : (s.extract (i : Int).toNat s.size) = s.extract i s.size := by simp
    have hp : trim_isPalindrome.f (s.extract i s.size) = some (decide (Pal ((L s).drop i))) := by
      rw [isPal_ev (by rw [← L_size, L_from, List.length_drop, L_size]; omega), L_from]
    have hd : (L s).drop i = (L s)[i]'(by rw [L_size]; omega) :: (L s).drop (i + 1) := List.drop_eq_getElem_cons (by rw [L_size]; omega)
    have hw : wrap64 ((i : Int) + 1) = ((i + 1 : Nat) : Int) := by rw [w64 (by omega)]; rfl
    have hw2 : wrap64 ((s.size : Int) - i) = (n : Int) + 1 := by rw [w64 (by omega)]; omega
    by_cases c : Pal ((L s).drop i)
    · refine Ev.step (f := fun _ => some (((n + 1 : Nat) : Int) - fp ((L s).drop i))) (fun k => ?_) (Ev.now _)
      have hf : fp ((L s).drop i) = 0 := Nat.le_zero.1 (fp_min _ 0 (by simpa using c))
      simp only [trim_end.l0]
      rw [if_pos (by omega), if_pos (by omega), if_pos (by omega), hx, hp, hw2, hf]
      simp [c]
    · have hf : fp ((L s).drop i) = fp ((L s).drop (i + 1)) + 1 := by
        rw [hd] at c ⊢
        conv => lhs; unfold fp
        rw [if_neg c]
      rw [hf]
      refine Ev.step (f := fun k => trim_end.l0 k s s.size ((i + 1 : Nat) : Int)) (fun k => ?_) ?_
      · simp only [trim_end.l0]
        rw [if_pos (by omega), if_pos (by omega), if_pos (by omega), hx, hp, hw]
        simp [c]
      · have e : ((n + 1 : Nat) : Int) - ((fp ((L s).drop (i + 1)) + 1 : Nat) : Int) = (n : Int) - fp ((L s).drop (i + 1)) := by omega
        rw [e]; exact ih
theorem end_ev {s : ByteArray} (hs : s.size ≤ 1000000) : Ev (fun k => trim_end.f k s) ((s.size : Int) - fp (L s)) := by
  have := end_loop hs s.size 0 (by omega)
  simpa [trim_end.f] using this
theorem closure_ev {s : ByteArray} (hs : s.size ≤ 1000000) : Ev (fun k => trim_closure.f k s) (mkS (clo (L s))) := by
  have hf := fp_le (L s)
  rw [L_size] at hf
  have hw : wrap64 ((s.size : Int) - ((s.size : Int) - fp (L s))) = (fp (L s) : Int) := by rw [w64 (by omega)]; omega
  refine Ev.bind (end_ev hs) ?_
  simp only [hw]
  refine Ev.ite_true (by omega) (Ev.ite_true (by omega) ?_)
  have ht : trim_turned.f (s.extract 0 ((fp (L s) : Int)).toNat) = some (mkS ((L s).take (fp (L s))).reverse) := by
    rw [Int.toNat_natCast, turned_ev (by rw [← L_size, L_to, List.length_take, L_size]; omega), L_to]
  rw [ht]
  simp only [Option.bind_some]
  rw [if_pos (by rw [mk_size]; simp [L_size]; omega)]
  have : s ++ mkS ((L s).take (fp (L s))).reverse = mkS (clo (L s)) := L_inj (by rw [L_append, L_mk, L_mk]; rfl)
  rw [this]; exact Ev.now _
theorem tower_loop {s : ByteArray} (hs : s.size ≤ 1000) : ∀ n i : Nat, s.size = i + n → (tow ((L s).take i)).length ≤ 100 →
    Ev (fun k => trim_tower.l0 k s (mkS (tow ((L s).take i))) s.size i) (if (tow (L s)).length ≤ 100 then (mkS (tow (L s)), true) else (mkS [], false))
  | 0, i, h, hl => by
    have e : (L s).take i = L s := List.take_of_length_le (by rw [L_size]; omega)
    rw [e] at hl ⊢
    rw [if_pos hl]
    refine Ev.step (f := fun _ => some (mkS (tow (L s)), true)) (fun k => ?_) (Ev.now _)
    simp only [trim_tower.l0]
    rw [if_neg (by omega)]
  | n + 1, i, h, hl => by
    have hi : i < (L s).length := by rw [L_size]; omega
    have hw : wrap64 ((i : Int) + 1) = ((i + 1 : Nat) : Int) := by rw [w64 (by omega)]; rfl
    have hx : s.extract (i : Int).toNat (((i + 1 : Nat) : Int)).toNat = mkS [(L s)[i]] := L_inj (by
      rw [Int.toNat_natCast, Int.toNat_natCast, L_extract, L_mk, List.drop_eq_getElem_cons hi, Nat.add_sub_cancel_left]
      rfl)
    have hcat : mkS (tow ((L s).take i)) ++ mkS [(L s)[i]] = mkS (tow ((L s).take i) ++ [(L s)[i]]) := mk_append _ _
    have hc := closure_ev (s := mkS (tow ((L s).take i) ++ [(L s)[i]])) (by rw [mk_size]; simp; omega)
    rw [L_mk, ← tow_snoc, ← take_snoc (L s) i hi] at hc
    refine Ev.step (f := fun k => (trim_closure.f k (mkS (tow ((L s).take i) ++ [(L s)[i]]))).bind fun t324 => (if (t324.size : Int) > 100 then (some ((⟨#[]⟩ : ByteArray), false)) else (trim_tower.l0 k s t324 s.size (((i + 1 : Nat) : Int))))) (fun k => ?_) (Ev.bind hc ?_)
    · simp only [trim_tower.l0]
      rw [if_pos (by omega), if_pos (by omega), hw, if_pos (by omega), if_pos (by omega), hx, hcat, if_pos (by rw [mk_size, mk_size]; simp; omega)]
    · by_cases c : (tow ((L s).take (i + 1))).length ≤ 100
      · exact Ev.ite_false (by rw [mk_size]; omega) (tower_loop hs n (i + 1) (by omega) c)
      · have hle := (tow_take_prefix (L s) (i + 1)).length_le
        rw [if_neg (by omega)]
        exact Ev.ite_true (by rw [mk_size]; omega) (Ev.now _)
theorem tower_ev {s : ByteArray} (hs : s.size ≤ 1000) : Ev (fun k => trim_tower.f k s) (if (tow (L s)).length ≤ 100 then (mkS (tow (L s)), true) else (mkS [], false)) := by
  have := tower_loop hs s.size 0 (by omega) (by simp [tow])
  simpa [trim_tower.f, tow, mkS] using this
theorem isWord_iff (s : ByteArray) : trim_isWord.f s = some (decide (s.size ≤ 100 ∧ ∀ c ∈ L s, 97 ≤ c.toNat ∧ c.toNat ≤ 100)) := by
  unfold trim_isWord.f
  by_cases c : (s.size : Int) ≤ 100
  · rw [if_pos c]
    congr 1
    rw [Bool.eq_iff_iff, allBytes_iff, decide_eq_true_iff]
    have e : ∀ j, j < s.size → ∀ h : j < (L s).length, s.get! j = (L s)[j] := fun j hj h => by
      simp [ByteArray.get!, L, hj]
    constructor
    · intro h
      refine ⟨by omega, fun x hx => ?_⟩
      obtain ⟨j, hj, rfl⟩ := List.getElem_of_mem hx
      have hj' : j < s.size := by rw [← L_size]; exact hj
      rw [← e j hj' hj]
      exact h j hj'
    · rintro ⟨_, h⟩ j hj
      rw [e j hj (by rw [L_size]; exact hj)]
      exact h _ (List.getElem_mem _)
  · rw [if_neg c]
    congr 1
    symm
    rw [decide_eq_false_iff_not]
    omega
end Go.Proofs.Ytbdlhgdfnnbjiaa.PY
