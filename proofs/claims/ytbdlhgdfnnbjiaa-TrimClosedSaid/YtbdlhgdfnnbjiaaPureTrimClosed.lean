import Derived.Test.YtbdlhgdfnnbjiaaPYx36
import Derived.Test.YtbdlhgdfnnbjiaaPYx16
import Derived.Test.YtbdlhgdfnnbjiaaBRef
/-! What Base computes. -/
namespace Go.Proofs.Ytbdlhgdfnnbjiaa.PY
open Go.RowKit Go.Proofs.YtbdlhgdfnnbjiaaW.PrintWords Go.Proofs.YtbdlhgdfnnbjiaaW.PrintLast Go.Proofs.Ytbdlhgdfnnbjiaa.Pal
/-- The letters behind the palindromic prefixes shorter than i. -/
def bs (l : List UInt8) : Nat → List UInt8
  | 0 => []
  | i + 1 => if Pal (l.take i) then bs l i ++ (l.drop i).take 1 else bs l i
theorem bs_len (l : List UInt8) : ∀ i, (bs l i).length ≤ i
  | 0 => Nat.le_refl _
  | i + 1 => by
    have := bs_len l i
    unfold bs
    split
    · rw [List.length_append, List.length_take]; omega
    · omega
theorem bs_prefix {l l' : List UInt8} (h : l <+: l') : ∀ i, i ≤ l.length → bs l' i = bs l i
  | 0, _ => rfl
  | i + 1, hi => by
    obtain ⟨t, rfl⟩ := h
    have ih := bs_prefix (l := l) ⟨t, rfl⟩ i (by omega)
    have h1 : (l ++ t).take i = l.take i := List.take_append_of_le_length (by omega)
    have h2 : ((l ++ t).drop i).take 1 = (l.drop i).take 1 := by
      rw [List.drop_append_of_le_length (by omega), List.take_append_of_le_length (by rw [List.length_drop]; omega)]
    simp only [bs, h1, h2, ih]
theorem bs_const {l : List UInt8} {a : Nat} : ∀ n, (∀ i, a ≤ i → i < a + n → ¬ Pal (l.take i)) → bs l (a + n) = bs l a
  | 0, _ => rfl
  | n + 1, h => by
    rw [← Nat.add_assoc]
    conv => lhs; unfold bs
    rw [if_neg (h (a + n) (by omega) (by omega))]
    exact bs_const n (fun i h1 h2 => h i h1 (by omega))
theorem bs_tow : ∀ w : List UInt8, bs (tow w) (tow w).length = w := by
  refine snoc_ind rfl (fun w x ih => ?_)
  have hp : tow w ++ [x] <+: tow (w ++ [x]) := tow_step w x
  have hp2 : tow w <+: tow (w ++ [x]) := (List.prefix_append _ _).trans hp
  have hlt := tow_len_lt w x
  have h1 : bs (tow (w ++ [x])) (tow w).length = w := (bs_prefix hp2 _ (Nat.le_refl _)).trans ih
  have htk : (tow (w ++ [x])).take (tow w).length = tow w := (List.prefix_iff_eq_take.1 hp2).symm
  have hnx : ((tow (w ++ [x])).drop (tow w).length).take 1 = [x] := by
    obtain ⟨t, ht⟩ := hp
    rw [← ht, List.append_assoc, List.drop_left]
    rfl
  have h2 : bs (tow (w ++ [x])) ((tow w).length + 1) = w ++ [x] := by
    conv => lhs; unfold bs
    rw [if_pos (by rw [htk]; exact tow_pal w), h1, hnx]
  have h3 := bs_const (l := tow (w ++ [x])) (a := (tow w).length + 1) ((tow (w ++ [x])).length - ((tow w).length + 1)) (fun i hi1 hi2 hpal => by
    obtain ⟨j, hj, hjt⟩ := tow_pp (w ++ [x]) _ (List.take_prefix i _) hpal
    have hl := congrArg List.length hjt
    rw [List.length_take] at hl
    rcases Nat.lt_or_ge w.length j with hj1 | hj1
    · have : j = (w ++ [x]).length := by simp at hj ⊢; omega
      rw [this, List.take_length] at hl
      omega
    · rw [List.take_append_of_le_length hj1] at hl
      have := (tow_take_prefix w j).length_le
      omega)
  rw [show (tow w).length + 1 + ((tow (w ++ [x])).length - ((tow w).length + 1)) = (tow (w ++ [x])).length by omega] at h3
  rw [h3, h2]
/-- Base's answer for a word. -/
def baseR (s : ByteArray) : ByteArray × Int := if (if (tow (bs (L s) s.size)).length ≤ 100 then tow (bs (L s) s.size) else []) = L s then (mkS (bs (L s) s.size), 0) else (⟨#[]⟩, 6)
theorem base_loop {s : ByteArray} (hs : s.size ≤ 100) : ∀ n i : Nat, i + n = s.size → Ev (fun k => trim_Base.l0 k s (mkS (bs (L s) i)) s.size i) (baseR s)
  | 0, i, h => by
    obtain rfl : i = s.size := by omega
    have hbl := bs_len (L s) s.size
    have ht := tower_ev (s := mkS (bs (L s) s.size)) (by rw [mk_size]; omega)
    rw [L_mk] at ht
    refine Ev.step (f := fun k => (trim_tower.f k (mkS (bs (L s) s.size))).bind fun bt => if bt.1.toList = s.toList then some (mkS (bs (L s) s.size), 0) else some (⟨#[]⟩, 6)) (fun k => ?_) (Ev.bind ht ?_)
    · simp only [trim_Base.l0]; rw [if_neg (by omega)]
    · have e : (if (tow (bs (L s) s.size)).length ≤ 100 then (mkS (tow (bs (L s) s.size)), true) else (mkS [], false)).1.toList = (if (tow (bs (L s) s.size)).length ≤ 100 then tow (bs (L s) s.size) else []) := by
        split
        · rw [toList_L, L_mk]
        · rw [toList_L, L_mk]
      rw [e, toList_L s]
      unfold baseR
      by_cases c : (if (tow (bs (L s) s.size)).length ≤ 100 then tow (bs (L s) s.size) else []) = L s
      · exact Ev.to (Ev.ite_true c (Ev.now _)) (if_pos c).symm
      · exact Ev.to (Ev.ite_false c (Ev.now _)) (if_neg c).symm
  | n + 1, i, h => by
    have hi : i < (L s).length := by rw [L_size]; omega
    have hbl := bs_len (L s) i
    have hw : wrap64 ((i : Int) + 1) = ((i + 1 : Nat) : Int) := by rw [w64 (by omega)]; rfl
    have hp : trim_isPalindrome.f (s.extract 0 (i : Int).toNat) = some (decide (Pal ((L s).take i))) := by
      rw [isPal_ev (by rw [ByteArray.size_extract]; omega), Int.toNat_natCast, L_to]
    have hx : L (s.extract (i : Int).toNat ((i + 1 : Nat) : Int).toNat) = ((L s).drop i).take 1 := by
      rw [Int.toNat_natCast, Int.toNat_natCast, L_extract, Nat.add_sub_cancel_left]
    have hxs : (s.extract (i : Int).toNat ((i + 1 : Nat) : Int).toNat).size ≤ 1 := by rw [ByteArray.size_extract, Int.toNat_natCast, Int.toNat_natCast]; omega
    refine Ev.step (f := fun k => trim_Base.l0 k s (mkS (bs (L s) (i + 1))) s.size ((i + 1 : Nat) : Int)) (fun k => ?_) (base_loop hs n (i + 1) (by omega))
    simp only [trim_Base.l0]
    rw [if_pos (by omega), if_pos (by omega), if_pos (by omega), hp, hw]
    simp only [Option.bind_some]
    by_cases c : Pal ((L s).take i)
    · rw [if_pos (by simpa using c), if_pos (by omega), if_pos (by omega), if_pos (by rw [mk_size]; omega)]
      have : mkS (bs (L s) i) ++ s.extract (i : Int).toNat ((i + 1 : Nat) : Int).toNat = mkS (bs (L s) (i + 1)) := by
        refine L_inj ?_
        rw [L_append, L_mk, L_mk, hx]
        conv => rhs; unfold bs
        rw [if_pos c]
      rw [this]
    · rw [if_neg (by simpa using c)]
      have : bs (L s) (i + 1) = bs (L s) i := by
        conv => lhs; unfold bs
        rw [if_neg c]
      rw [this]
def Word (s : ByteArray) : Prop := s.size ≤ 100 ∧ ∀ c ∈ L s, 97 ≤ c.toNat ∧ c.toNat ≤ 100
theorem isWord_yes {s : ByteArray} (h : Word s) : trim_isWord.f s = some true := by rw [isWord_iff]; exact congrArg some (decide_eq_true h)
theorem isWord_no {s : ByteArray} (h : ¬ Word s) : trim_isWord.f s = some false := by rw [isWord_iff]; exact congrArg some (decide_eq_false h)
theorem base_ev {s : ByteArray} (h : Word s) : Ev (fun k => trim_Base.f k s) (baseR s) := by
  unfold trim_Base.f
  rw [isWord_yes h]
  simp only [Option.bind_some]
  exact Ev.ite_true trivial (base_loop h.1 s.size 0 (by omega))
theorem baseR_tow {s : ByteArray} {w : List UInt8} (hs : s.size ≤ 100) (h : L s = tow w) : baseR s = (mkS w, 0) := by
  have hl : (tow w).length = s.size := by rw [← h, L_size]
  have hb : bs (L s) s.size = w := by rw [h, ← hl]; exact bs_tow w
  have c : (tow w).length ≤ 100 := by omega
  unfold baseR
  rw [hb]
  exact if_pos (by rw [if_pos c]; exact h.symm)
theorem Tower_ev {s : ByteArray} (h : Word s) : Ev (fun k => trim_Tower.f k s) (if (tow (L s)).length ≤ 100 then (mkS (tow (L s)), 0) else (⟨#[]⟩, 5)) := by
  have ht := tower_ev (s := s) (by have := h.1; omega)
  unfold trim_Tower.f
  rw [isWord_yes h]
  simp only [Option.bind_some]
  refine Ev.ite_true trivial (Ev.bind ht ?_)
  by_cases c : (tow (L s)).length ≤ 100
  · rw [if_pos c, if_pos c]
    exact Ev.ite_true rfl (Ev.now _)
  · rw [if_neg c, if_neg c]
    exact Ev.ite_false (by simp) (Ev.now _)
theorem Rich_ev {s : ByteArray} (h : Word s) : Ev (fun k => trim_Rich.f k s) (richL (L s) s.size 0, 0) := by
  unfold trim_Rich.f
  rw [isWord_yes h]
  simp only [Option.bind_some]
  exact Ev.ite_true trivial (rich_loop (by have := h.1; omega) s.size 0 (by omega))
theorem Ends_ev {s : ByteArray} (h : Word s) : Ev (fun k => trim_Ends.f k s) (endsL (L s), 0) := by
  unfold trim_Ends.f
  rw [isWord_yes h]
  simp only [Option.bind_some]
  exact Ev.ite_true trivial (ends_loop (by have := h.1; omega) s.size 0 (by omega))
theorem richL_rich {l : List UInt8} (h : Rich l) : ∀ n i, i + n = l.length → richL l n i = -1
  | 0, _, _ => rfl
  | n + 1, i, hi => by
    unfold richL
    have hlt : i < l.length := by omega
    have := h (l.take i) (l[i]) (by rw [← take_snoc l i hlt]; exact List.take_prefix _ _)
    rw [← take_snoc l i hlt] at this
    rw [if_neg this]
    exact richL_rich h n (i + 1) (by omega)
theorem word_tow {s t : ByteArray} (h : Word s) (ht : L t = tow (L s)) (hl : (tow (L s)).length ≤ 100) : Word t := by
  refine ⟨by rw [← L_size, ht]; exact hl, fun c hc => ?_⟩
  rw [ht] at hc
  exact h.2 c (tow_mem _ _ hc)
end Go.Proofs.Ytbdlhgdfnnbjiaa.PY
/-! What tame computes. -/
namespace Go.Proofs.Ytbdlhgdfnnbjiaa.PY
open Go.RowKit Go.Proofs.YtbdlhgdfnnbjiaaW.PrintWords Go.Proofs.YtbdlhgdfnnbjiaaW.PrintLast Go.Proofs.Ytbdlhgdfnnbjiaa.Pal
/-- A tamed string is a word. -/
theorem tame_loop {a : ByteArray} {m : Int} (hm : m ≤ 100) (ha : a.size ≤ 140737488351232) : ∀ (n i : Nat) (x5 : List Int), i + n = min a.size m.toNat → x5.length = i → (∀ c ∈ x5, 97 ≤ c ∧ c ≤ 100) → ∃ t, Ev (fun k => galloonlaw01_tame.l0 k a m x5 i) t ∧ Word t ∧ (t.size : Int) ≤ max 0 m
  | 0, i, x5, h, hl, hx => by
    refine ⟨strOfNums x5, ?_, ⟨by rw [strOfNums_size]; omega, ?_⟩, by rw [strOfNums_size]; omega⟩
    · by_cases c : (i : Int) < (a.size : Int)
      · refine Ev.step (f := fun _ => some (strOfNums x5)) (fun k => ?_) (Ev.now _)
        simp only [galloonlaw01_tame.l0]
        rw [if_pos c, if_neg (by omega)]
      · refine Ev.step (f := fun _ => some (strOfNums x5)) (fun k => ?_) (Ev.now _)
        simp only [galloonlaw01_tame.l0]
        rw [if_neg c]
    · intro c hc
      unfold L at hc
      rw [strOfNums_data] at hc
      obtain ⟨n, hn, rfl⟩ := List.mem_map.1 hc
      have := hx n hn
      rw [UInt8.toNat_ofNat', Nat.mod_eq_of_lt (by omega)]
      omega
  | n + 1, i, x5, h, hl, hx => by
    have hi : i < (L a).length := by rw [L_size]; omega
    have hb := bt_L hi
    have hw : wrap64 ((i : Int) + 1) = ((i + 1 : Nat) : Int) := by rw [w64 (by omega)]; rfl
    have hr : 0 ≤ Int.tmod (bt a i) 4 ∧ Int.tmod (bt a i) 4 ≤ 3 := by
      rw [Int.tmod_eq_emod_of_nonneg (by rw [hb]; omega)]; omega
    obtain ⟨t, h1, h2, h3⟩ := tame_loop hm ha n (i + 1) (x5 ++ [(97 + (Int.tmod (bt a i) 4)) % 256]) (by omega) (by simp [hl]) (by
      intro c hc
      rcases List.mem_append.1 hc with hc | hc
      · exact hx c hc
      · have := List.mem_singleton.1 hc
        omega)
    refine ⟨t, Ev.step (f := fun k => galloonlaw01_tame.l0 k a m (x5 ++ [(97 + (Int.tmod (bt a i) 4)) % 256]) ((i + 1 : Nat) : Int)) (fun k => ?_) h1, h2, h3⟩
    simp only [galloonlaw01_tame.l0]
    rw [if_pos (by omega), if_pos (by omega), if_pos (by omega), if_pos (by omega), hw]
theorem tame_ev {a : ByteArray} {m : Int} (hm : m ≤ 100) (ha : a.size ≤ 140737488351232) : ∃ t, Ev (fun k => galloonlaw01_tame.f k a m) t ∧ Word t ∧ (t.size : Int) ≤ max 0 m :=
  tame_loop hm ha (min a.size m.toNat) 0 [] (by omega) rfl (by simp)
end Go.Proofs.Ytbdlhgdfnnbjiaa.PY
/-! TrimClosed: the plain law. -/
namespace Go.Proofs.Ytbdlhgdfnnbjiaa.Pure
open Go.Proofs.Ytbdlhgdfnnbjiaa.PY Go.RowKit Go.Proofs.YtbdlhgdfnnbjiaaW.PrintWords Go.Proofs.YtbdlhgdfnnbjiaaW.PrintLast Go.Proofs.Ytbdlhgdfnnbjiaa.Pal
theorem lq_mono (s : ByteArray) : ∀ d i, lq s d (i + 1) ≤ lq s (d + 1) i ∧ lq s d i ≤ lq s (d + 1) i
  | 0, i => ⟨Nat.zero_le _, Nat.zero_le _⟩
  | d + 1, i => by
    simp only [lq]
    omega
theorem lq_two (s : ByteArray) : ∀ d i, lq s (d + 1) i ≤ lq s d (i + 1) + 2 ∧ lq s (d + 1) i ≤ lq s d i + 2
  | 0, i => ⟨by simp [lq], by simp [lq]⟩
  | d + 1, i => by
    have h1 := lq_two s d i
    have h2 := lq_two s d (i + 1)
    have m1 := lq_mono s d i
    have m2 := lq_mono s d (i + 1)
    have e : lq s (d + 2) i = max (max (lq s (d + 1) (i + 1)) (lq s (d + 1) i)) (if bt s i = bt s ((i + d + 1 : Nat) : Int) then 2 + lq s d (i + 1) else 0) := rfl
    rw [show d + 1 + 1 = d + 2 from rfl, e]
    split <;> omega
theorem lq_same {s : ByteArray} {d i : Nat} (h : bt s i = bt s ((i + d + 1 : Nat) : Int)) : lq s (d + 2) i = 2 + lq s d (i + 1) := by
  have h1 := lq_two s d i
  have h2 := lq_two s d (i + 1)
  simp only [lq]
  rw [if_pos h]
  omega
theorem lq_other {s : ByteArray} {d i : Nat} (h : ¬ bt s i = bt s ((i + d + 1 : Nat) : Int)) : lq s (d + 2) i = max (lq s (d + 1) (i + 1)) (lq s (d + 1) i) := by
  simp only [lq]
  rw [if_neg h]
  omega
theorem lq_pal (s : ByteArray) : ∀ d i, (∀ a, a < d → bt s ((i + a : Nat) : Int) = bt s ((i + d - 1 - a : Nat) : Int)) → lq s d i = d
  | 0, i, _ => rfl
  | 1, i, _ => rfl
  | d + 2, i, h => by
    have h0 := h 0 (by omega)
    rw [lq_same (by rw [show i + (d + 2) - 1 - 0 = i + d + 1 by omega] at h0; exact h0), lq_pal s d (i + 1) (fun a ha => by
      have := h (a + 1) (by omega)
      rw [show i + (a + 1) = i + 1 + a by omega, show i + (d + 2) - 1 - (a + 1) = i + 1 + d - 1 - a by omega] at this
      exact this)]
    omega
theorem lq_tail (s : ByteArray) : ∀ f d i, lq s d (i + f) ≤ lq s (d + f) i
  | 0, d, i => Nat.le_refl _
  | f + 1, d, i => by
    have h1 := lq_tail s f d (i + 1)
    have h2 := (lq_mono s (d + f) i).1
    rw [show i + (f + 1) = i + 1 + f by omega, show d + (f + 1) = d + f + 1 by omega]
    omega
theorem lq_fp (s : ByteArray) : s.size - fp (L s) ≤ lq s s.size 0 := by
  have hf := fp_le (L s)
  rw [L_size] at hf
  have h1 := lq_tail s (fp (L s)) (s.size - fp (L s)) 0
  rw [show s.size - fp (L s) + fp (L s) = s.size by omega, Nat.zero_add] at h1
  refine Nat.le_trans (Nat.le_of_eq ?_) h1
  refine (lq_pal s _ _ (fun a ha => ?_)).symm
  have hp : Pal ((L s).drop (fp (L s))) := fp_pal (L s)
  have hr : ((L s).drop (fp (L s))).reverse = (L s).drop (fp (L s)) := hp
  have hlen : ((L s).drop (fp (L s))).length = s.size - fp (L s) := by rw [List.length_drop, L_size]
  have h2 : ((L s).drop (fp (L s))).reverse[a]? = ((L s).drop (fp (L s)))[s.size - fp (L s) - 1 - a]? := by rw [← hlen]; exact List.getElem?_reverse (by omega)
  rw [hr, List.getElem?_drop, List.getElem?_drop] at h2
  have i1 : fp (L s) + a < (L s).length := by rw [L_size]; omega
  have i2 : fp (L s) + (s.size - fp (L s)) - 1 - a < (L s).length := by rw [L_size]; omega
  rw [show fp (L s) + (s.size - fp (L s) - 1 - a) = fp (L s) + (s.size - fp (L s)) - 1 - a by omega, List.getElem?_eq_getElem i1, List.getElem?_eq_getElem i2] at h2
  rw [bt_L i1, bt_L i2, Option.some.inj h2]
theorem lqI_nat (s : ByteArray) (i d : Nat) : lqI s (i : Int) ((i + d : Nat) : Int) = (lq s d i : Int) := by
  unfold lqI
  by_cases c : (i : Int) < ((i + d : Nat) : Int)
  · rw [if_pos c, show (((i + d : Nat) : Int) - i).toNat = d by omega, Int.toNat_natCast]
  · rw [if_neg c, show d = 0 by omega]; rfl
theorem outer_loop (s : ByteArray) : ∀ (d i : Nat) (half : List Int), half.length + d ≤ 150 → i + d ≤ s.size → ∃ h' m', Ev (fun k => trim_Outer.l0 k s i ((i + d : Nat) : Int) half ⟨#[]⟩) (h', m') ∧ 2 * h'.length + m'.size + lq s d i = 2 * half.length + 2 * d ∧ h'.length ≤ 150
  | 0, i, half, hh, hz => by
    refine ⟨half, ⟨#[]⟩, Ev.step (f := fun _ => some (half, ⟨#[]⟩)) (fun k => ?_) (Ev.now _), by simp [lq, ByteArray.size], by omega⟩
    simp only [trim_Outer.l0]
    rw [if_neg (by omega)]
  | 1, i, half, hh, hz => by
    have e1 : (i : Int) + 1 = ((i + 1 : Nat) : Int) := rfl
    refine ⟨half, s.extract (i : Int).toNat ((i + 1 : Nat) : Int).toNat, Ev.step (f := fun k => trim_Outer.l0 k s ((i + 1 : Nat) : Int) ((i + 1 : Nat) : Int) half (s.extract (i : Int).toNat ((i + 1 : Nat) : Int).toNat)) (fun k => ?_) (Ev.step (f := fun _ => some (half, s.extract (i : Int).toNat ((i + 1 : Nat) : Int).toNat)) (fun k => ?_) (Ev.now _)), ?_, by omega⟩
    · simp only [trim_Outer.l0]
      rw [if_pos (by omega), if_pos (by omega), if_pos e1, e1]
    · simp only [trim_Outer.l0]
      rw [if_neg (by omega)]
    · rw [ByteArray.size_extract, Int.toNat_natCast, Int.toNat_natCast]
      simp only [lq]
      omega
  | d + 2, i, half, hh, hz => by
    have hlt : (i : Int) < ((i + (d + 2) : Nat) : Int) := by omega
    have hne : ¬ (i : Int) + 1 = ((i + (d + 2) : Nat) : Int) := by omega
    have e1 : (i : Int) + 1 = ((i + 1 : Nat) : Int) := rfl
    have e2 : ((i + (d + 2) : Nat) : Int) - 1 = ((i + d + 1 : Nat) : Int) := by omega
    by_cases c : bt s i = bt s ((i + d + 1 : Nat) : Int)
    · obtain ⟨h', m', h1, h2, h3⟩ := outer_loop s d (i + 1) (half ++ [bt s i]) (by rw [List.length_append]; simp; omega) (by omega)
      refine ⟨h', m', Ev.step (f := fun k => trim_Outer.l0 k s ((i + 1 : Nat) : Int) ((i + 1 + d : Nat) : Int) (half ++ [bt s i]) ⟨#[]⟩) (fun k => ?_) h1, ?_, h3⟩
      · simp only [trim_Outer.l0]
        rw [if_pos hlt, if_pos (by omega), if_neg hne, e1, e2, if_pos c, show i + 1 + d = i + d + 1 by omega]
      · rw [lq_same c]
        rw [List.length_append] at h2
        simp at h2
        omega
    · by_cases c2 : lq s (d + 1) i ≤ lq s (d + 1) (i + 1)
      · obtain ⟨h', m', h1, h2, h3⟩ := outer_loop s (d + 1) (i + 1) (half ++ [bt s i]) (by rw [List.length_append]; simp; omega) (by omega)
        refine ⟨h', m', Ev.step (f := fun k => trim_Outer.l0 k s ((i + 1 : Nat) : Int) ((i + 1 + (d + 1) : Nat) : Int) (half ++ [bt s i]) ⟨#[]⟩) (fun k => ?_) h1, ?_, h3⟩
        · have q1 := lqI_nat s i (d + 1)
          have q2 := lqI_nat s (i + 1) (d + 1)
          rw [show i + (d + 1) = i + d + 1 by omega] at q1
          rw [show i + 1 + (d + 1) = i + (d + 2) by omega] at q2
          simp only [trim_Outer.l0]
          rw [if_pos hlt, if_pos (by omega), if_neg hne, e1, e2, if_neg c, q1, q2, if_pos (by omega), show i + 1 + (d + 1) = i + (d + 2) by omega]
        · rw [lq_other c]
          rw [List.length_append] at h2
          simp at h2
          omega
      · obtain ⟨h', m', h1, h2, h3⟩ := outer_loop s (d + 1) i (half ++ [bt s ((i + d + 1 : Nat) : Int)]) (by rw [List.length_append]; simp; omega) (by omega)
        refine ⟨h', m', Ev.step (f := fun k => trim_Outer.l0 k s (i : Int) ((i + (d + 1) : Nat) : Int) (half ++ [bt s ((i + d + 1 : Nat) : Int)]) ⟨#[]⟩) (fun k => ?_) h1, ?_, h3⟩
        · have q1 := lqI_nat s i (d + 1)
          have q2 := lqI_nat s (i + 1) (d + 1)
          rw [show i + (d + 1) = i + d + 1 by omega] at q1
          rw [show i + 1 + (d + 1) = i + (d + 2) by omega] at q2
          simp only [trim_Outer.l0]
          rw [if_pos hlt, if_pos (by omega), if_neg hne, e1, e2, if_neg c, q1, q2, if_neg (by omega), show i + (d + 1) = i + d + 1 by omega]
        · rw [lq_other c]
          rw [List.length_append] at h2
          simp at h2
          omega
theorem turned_size {half : List Int} (h : half.length ≤ 1000) : ∃ u, trim_turned.f (strOfNums half) = some u ∧ u.size = half.length := by
  rw [turned_ev (by rw [strOfNums_size]; omega)]
  exact ⟨_, rfl, by rw [mk_size, List.length_reverse, L_size, strOfNums_size]⟩
theorem Outer_ev {s : ByteArray} (h : Word s) : ∃ r, Ev (fun k => trim_Outer.f k s) (r, 0) ∧ r.size + lq s s.size 0 = 2 * s.size := by
  obtain ⟨h', m', h1, h2, h3⟩ := outer_loop s s.size 0 [] (by have := h.1; simp; omega) (by omega)
  obtain ⟨u, hu, hus⟩ := turned_size (half := h') (by omega)
  refine ⟨strOfNums h' ++ m' ++ u, ?_, ?_⟩
  · unfold trim_Outer.f
    rw [isWord_yes h]
    simp only [Option.bind_some]
    refine Ev.ite_true trivial (Ev.bind (a := (h', m')) (by simpa using h1) ?_)
    simp only [hu, Option.bind_some]
    exact Ev.now _
  · rw [ByteArray.size_append, ByteArray.size_append, strOfNums_size, hus]
    simp at h2
    omega
theorem TrimClosed : galloonlaw01_TrimClosed.Pure := by
  intro a0 ha
  obtain ⟨t, ht, hw, hts⟩ := tame_ev (a := a0) (m := 50) (by decide) ha
  obtain ⟨r, hr, hrs⟩ := Outer_ev hw
  have hlq := lq_fp t
  have hfl := fp_le (L t)
  have hcl := clo_length (L t)
  rw [L_size] at hfl hcl
  have hfz : t.size = 0 ∨ fp (L t) < t.size := by
    rcases hL : L t with _ | ⟨x, l⟩
    · left; rw [← L_size, hL]; rfl
    · right
      have := fp_lt x l
      rw [← L_size, hL, List.length_cons]
      omega
  have hC : Ev (fun k => trim_Closure.f k t) (mkS (clo (L t)), 0) := by
    have hc := closure_ev (s := t) (by have := hw.1; omega)
    unfold trim_Closure.f
    rw [isWord_yes hw]
    simp only [Option.bind_some]
    exact Ev.ite_true trivial (Ev.bind hc (Ev.ite_false (by rw [mk_size]; omega) (Ev.now _)))
  have hP := rpal_ev (s := mkS (clo (L t))) (by rw [mk_size]; omega)
  rw [L_mk, decide_eq_true (clo_pal _)] at hP
  have hel : (endsL (L t)).length = t.size := by simp [endsL, L_size]
  refine Ev.rounds (g := fun k => galloonlaw01_TrimClosed.f k a0) ?_
  unfold galloonlaw01_TrimClosed.f
  refine Ev.bind ht (Ev.bind hC (Ev.bind hr (Ev.bind (Ends_ev hw) (Ev.ite_true rfl (Ev.ite_true rfl (Ev.ite_true rfl (Ev.ite_false (by rw [mk_size]; omega) (Ev.ite_true (by omega) (Ev.ite_true (by rw [mk_size]; omega) (Ev.ite_true ?_ (Ev.bind hP (Ev.ite_true rfl (Ev.ite_false (by show ¬ ((mkS (clo (L t))).size : Int) < (r.size : Int); rw [mk_size]; omega) (Ev.ite_true (by rw [hel]) ?_))))))))))))))
  · rw [toList_L, toList_L, Int.toNat_natCast, L_to, L_mk, ← L_size]
    exact (List.prefix_iff_eq_take.1 (clo_prefix (L t))).symm
  · by_cases c : t.size = 0
    · have hn : L t = [] := List.eq_nil_of_length_eq_zero (by rw [L_size]; exact c)
      refine Ev.ite_true (by rw [toList_L]; exact hn) (Ev.ite_true (by rw [toList_L, L_mk, hn]; rfl) (Ev.bind awake_ev (Ev.now _)))
    · have hn : ¬ t.toList = [] := by
        rw [toList_L]
        intro e
        have := congrArg List.length e
        rw [L_size] at this
        exact c this
      have hlast : wrap64 (((endsL (L t)).length : Int) - 1) = ((t.size - 1 : Nat) : Int) := by rw [hel, w64 (by omega)]; omega
      have hrd : rd (endsL (L t)) ((t.size - 1 : Nat) : Int) = (t.size : Int) - fp (L t) := by
        have hi : t.size - 1 < (endsL (L t)).length := by omega
        simp [rd, hi]
        simp [endsL]
        rw [show t.size - 1 + 1 = t.size by omega, List.take_of_length_le (by rw [L_size]; omega)]
        omega
      refine Ev.ite_false hn ?_
      simp only [hlast, hrd]
      refine Ev.ite_true (by omega) (Ev.ite_true (by rw [hel]; omega) (Ev.ite_true ?_ (Ev.bind awake_ev (Ev.now _))))
      rw [mk_size, hcl, w64 (n := 2 * (t.size : Int)) (by omega), w64 (by omega)]
      omega
end Go.Proofs.Ytbdlhgdfnnbjiaa.Pure
