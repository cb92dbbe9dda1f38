import Derived.Test.YtbdlhgdfnnbjiaaBRef
/-! What Base computes. -/
namespace Go.Proofs.Ytbdlhgdfnnbjiaa.PY
open Go.RowKit Go.Proofs.YtbdlhgdfnnbjiaaW.PrintWords Go.Proofs.YtbdlhgdfnnbjiaaW.PrintLast Go.Proofs.Ytbdlhgdfnnbjiaa.Pal
/-- The letters behind the palindromic prefixes shorter than i. -/
def bs (l : List UInt8) : Nat → List UInt8
  | 0 => []
  | i + 1 => if Pal (l.take i) then bs l i ++ (l.drop i).take 1 else bs l i
theorem bs_len (l : List UInt8) : ∀ i, (bs l i).length ≤ i
  | 0 => Nat.le_refl _
  | i + 1 => by
    have := bs_len l i
    unfold bs
    split
    · rw [List.length_append, List.length_take]; omega
    · omega
theorem bs_prefix {l l' : List UInt8} (h : l <+: l') : ∀ i, i ≤ l.length → bs l' i = bs l i
  | 0, _ => rfl
  | i + 1, hi => by
    obtain ⟨t, rfl⟩ := h
    have ih := bs_prefix (l := l) ⟨t, rfl⟩ i (by omega)
    have h1 : (l ++ t).take i = l.take i := List.take_append_of_le_length (by omega)
    have h2 : ((l ++ t).drop i).take 1 = (l.drop i).take 1 := by
      rw [List.drop_append_of_le_length (by omega), List.take_append_of_le_length (by rw [List.length_drop]; omega)]
    simp only [bs, h1, h2, ih]
theorem bs_const {l : List UInt8} {a : Nat} : ∀ n, (∀ i, a ≤ i → i < a + n → ¬ Pal (l.take i)) → bs l (a + n) = bs l a
  | 0, _ => rfl
  | n + 1, h => by
    rw [← Nat.add_assoc]
    conv => lhs; unfold bs
    rw [if_neg (h (a + n) (by omega) (by omega))]
    exact bs_const n (fun i h1 h2 => h i h1 (by omega))
theorem bs_tow : ∀ w : List UInt8, bs (tow w) (tow w).length = w := by
  refine snoc_ind rfl (fun w x ih => ?_)
  have hp : tow w ++ [x] <+: tow (w ++ [x]) := tow_step w x
  have hp2 : tow w <+: tow (w ++ [x]) := (List.prefix_append _ _).trans hp
  have hlt := tow_len_lt w x
  have h1 : bs (tow (w ++ [x])) (tow w).length = w := (bs_prefix hp2 _ (Nat.le_refl _)).trans ih
  have htk : (tow (w ++ [x])).take (tow w).length = tow w := (List.prefix_iff_eq_take.1 hp2).symm
  have hnx : ((tow (w ++ [x])).drop (tow w).length).take 1 = [x] := by
    obtain ⟨t, ht⟩ := hp
    rw [← ht, List.append_assoc, List.drop_left]
    rfl
  have h2 : bs (tow (w ++ [x])) ((tow w).length + 1) = w ++ [x] := by
    conv => lhs; unfold bs
    rw [if_pos (by rw [htk]; exact tow_pal w), h1, hnx]
  have h3 := bs_const (l := tow (w ++ [x])) (a := (tow w).length + 1) ((tow (w ++ [x])).length - ((tow w).length + 1)) (fun i hi1 hi2 hpal => by
    obtain ⟨j, hj, hjt⟩ := tow_pp (w ++ [x]) _ (List.take_prefix i _) hpal
    have hl := congrArg List.length hjt
    rw [List.length_take] at hl
    rcases Nat.lt_or_ge w.length j with hj1 | hj1
    · have : j = (w ++ [x]).length := by simp at hj ⊢; omega
      rw [this, List.take_length] at hl
      omega
    · rw [List.take_append_of_le_length hj1] at hl
      have := (tow_take_prefix w j).length_le
      omega)
  rw [show (tow w).length + 1 + ((tow (w ++ [x])).length - ((tow w).length + 1)) = (tow (w ++ [x])).length by omega] at h3
  rw [h3, h2]
/-- Base's answer for a word. -/
def baseR (s : ByteArray) : ByteArray × Int := if (if (tow (bs (L s) s.size)).length ≤ 100 then tow (bs (L s) s.size) else []) = L s then (mkS (bs (L s) s.size), 0) else (⟨#[]⟩, 6)
theorem base_loop {s : ByteArray} (hs : s.size ≤ 100) : ∀ n i : Nat, i + n = s.size → Ev (fun k => trim_Base.l0 k s (mkS (bs (L s) i)) s.size i) (baseR s)
  | 0, i, h => by
    obtain rfl : i = s.size := by omega
    have hbl := bs_len (L s) s.size
    have ht := tower_ev (s := mkS (bs (L s) s.size)) (by rw [mk_size]; omega)
    rw [L_mk] at ht
    refine Ev.step (f := fun k => (trim_tower.f k (mkS (bs (L s) s.size))).bind fun bt => if bt.1.toList = s.toList then some (mkS (bs (L s) s.size), 0) else some (⟨#[]⟩, 6)) (fun k => ?_) (Ev.bind ht ?_)
    · simp only [trim_Base.l0]; rw [if_neg (by omega)]
    · have e : (if (tow (bs (L s) s.size)).length ≤ 100 then (mkS (tow (bs (L s) s.size)), true) else (mkS [], false)).1.toList = (if (tow (bs (L s) s.size)).length ≤ 100 then tow (bs (L s) s.size) else []) := by
        split
        · rw [toList_L, L_mk]
        · rw [toList_L, L_mk]
      rw [e, toList_L s]
      unfold baseR
      by_cases c : (if (tow (bs (L s) s.size)).length ≤ 100 then tow (bs (L s) s.size) else []) = L s
      · exact Ev.to (Ev.ite_true c (Ev.now _)) (if_pos c).symm
      · exact Ev.to (Ev.ite_false c (Ev.now _)) (if_neg c).symm
  | n + 1, i, h => by
    have hi : i < (L s).length := by rw [L_size]; omega
    have hbl := bs_len (L s) i
    have hw : wrap64 ((i : Int) + 1) = ((i + 1 : Nat) : Int) := by rw [w64 (by omega)]; rfl
    have hp : trim_isPalindrome.f (s.extract 0 (i : Int).toNat) = some (decide (Pal ((L s).take i))) := by
      rw [isPal_ev (by rw [ByteArray.size_extract]; omega), Int.toNat_natCast, L_to]
    have hx : L (s.extract (i : Int).toNat ((i + 1 : Nat) : Int).toNat) = ((L s).drop i).take 1 := by
      rw [Int.toNat_natCast, Int.toNat_natCast, L_extract, Nat.add_sub_cancel_left]
    have hxs : (s.extract (i : Int).toNat ((i + 1 : Nat) : Int).toNat).size ≤ 1 := by rw [ByteArray.size_extract, Int.toNat_natCast, Int.toNat_natCast]; omega
    refine Ev.step (f := fun k => trim_Base.l0 k s (mkS (bs (L s) (i + 1))) s.size ((i + 1 : Nat) : Int)) (fun k => ?_) (base_loop hs n (i + 1) (by omega))
    simp only [trim_Base.l0]
    rw [if_pos (by omega), if_pos (by omega), if_pos (by omega), hp, hw]
    simp only [Option.bind_some]
    by_cases c : Pal ((L s).take i)
    · rw [if_pos (by simpa using c), if_pos (by omega), if_pos (by omega), if_pos (by rw [mk_size]; omega)]
      have : mkS (bs (L s) i) ++ s.extract (i : Int).toNat ((i + 1 : Nat) : Int).toNat = mkS (bs (L s) (i + 1)) := by
        refine L_inj ?_
        rw [L_append, L_mk, L_mk, hx]
        conv => rhs; unfold bs
        rw [if_pos c]
      rw [this]
    · rw [if_neg (by simpa using c)]
      have : bs (L s) (i + 1) = bs (L s) i := by
        conv => lhs; unfold bs
        rw [if_neg c]
      rw [this]
def Word (s : ByteArray) : Prop := s.size ≤ 100 ∧ ∀ c ∈ L s, 97 ≤ c.toNat ∧ c.toNat ≤ 100
theorem isWord_yes {s : ByteArray} (h : Word s) : trim_isWord.f s = some true := by rw [isWord_iff]; exact congrArg some (decide_eq_true h)
theorem isWord_no {s : ByteArray} (h : ¬ Word s) : trim_isWord.f s = some false := by rw [isWord_iff]; exact congrArg some (decide_eq_false h)
theorem base_ev {s : ByteArray} (h : Word s) : Ev (fun k => trim_Base.f k s) (baseR s) := by
  unfold trim_Base.f
  rw [isWord_yes h]
  simp only [Option.bind_some]
  exact Ev.ite_true trivial (base_loop h.1 s.size 0 (by omega))
theorem baseR_tow {s : ByteArray} {w : List UInt8} (hs : s.size ≤ 100) (h : L s = tow w) : baseR s = (mkS w, 0) := by
  have hl : (tow w).length = s.size := by rw [← h, L_size]
  have hb : bs (L s) s.size = w := by rw [h, ← hl]; exact bs_tow w
  have c : (tow w).length ≤ 100 := by omega
  unfold baseR
  rw [hb]
  exact if_pos (by rw [if_pos c]; exact h.symm)
theorem Tower_ev {s : ByteArray} (h : Word s) : Ev (fun k => trim_Tower.f k s) (if (tow (L s)).length ≤ 100 then (mkS (tow (L s)), 0) else (⟨#[]⟩, 5)) := by
  have ht := tower_ev (s := s) (by have := h.1; omega)
  unfold trim_Tower.f
  rw [isWord_yes h]
  simp only [Option.bind_some]
  refine Ev.ite_true trivial (Ev.bind ht ?_)
  by_cases c : (tow (L s)).length ≤ 100
  · rw [if_pos c, if_pos c]
    exact Ev.ite_true rfl (Ev.now _)
  · rw [if_neg c, if_neg c]
    exact Ev.ite_false (by simp) (Ev.now _)
theorem Rich_ev {s : ByteArray} (h : Word s) : Ev (fun k => trim_Rich.f k s) (richL (L s) s.size 0, 0) := by
  unfold trim_Rich.f
  rw [isWord_yes h]
  simp only [Option.bind_some]
  exact Ev.ite_true trivial (rich_loop (by have := h.1; omega) s.size 0 (by omega))
theorem Ends_ev {s : ByteArray} (h : Word s) : Ev (fun k => trim_Ends.f k s) (endsL (L s), 0) := by
  unfold trim_Ends.f
  rw [isWord_yes h]
  simp only [Option.bind_some]
  exact Ev.ite_true trivial (ends_loop (by have := h.1; omega) s.size 0 (by omega))
theorem richL_rich {l : List UInt8} (h : Rich l) : ∀ n i, i + n = l.length → richL l n i = -1
  | 0, _, _ => rfl
  | n + 1, i, hi => by
    unfold richL
    have hlt : i < l.length := by omega
    have := h (l.take i) (l[i]) (by rw [← take_snoc l i hlt]; exact List.take_prefix _ _)
    rw [← take_snoc l i hlt] at this
    rw [if_neg this]
    exact richL_rich h n (i + 1) (by omega)
theorem word_tow {s t : ByteArray} (h : Word s) (ht : L t = tow (L s)) (hl : (tow (L s)).length ≤ 100) : Word t := by
  refine ⟨by rw [← L_size, ht]; exact hl, fun c hc => ?_⟩
  rw [ht] at hc
  exact h.2 c (tow_mem _ _ hc)
end Go.Proofs.Ytbdlhgdfnnbjiaa.PY
