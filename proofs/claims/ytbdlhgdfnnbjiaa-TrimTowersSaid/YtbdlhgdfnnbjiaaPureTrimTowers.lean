import Derived.Test.YtbdlhgdfnnbjiaaPYx17
import Derived.Test.YtbdlhgdfnnbjiaaPYx16
import Derived.Test.YtbdlhgdfnnbjiaaBBase
/-! What tame computes. -/
namespace Go.Proofs.Ytbdlhgdfnnbjiaa.PY
open Go.RowKit Go.Proofs.YtbdlhgdfnnbjiaaW.PrintWords Go.Proofs.YtbdlhgdfnnbjiaaW.PrintLast Go.Proofs.Ytbdlhgdfnnbjiaa.Pal
/-- A tamed string is a word. -/
theorem tame_loop {a : ByteArray} {m : Int} (hm : m ≤ 100) (ha : a.size ≤ 140737488351232) : ∀ (n i : Nat) (x5 : List Int), i + n = min a.size m.toNat → x5.length = i → (∀ c ∈ x5, 97 ≤ c ∧ c ≤ 100) → ∃ t, Ev (fun k => galloonlaw01_tame.l0 k a m x5 i) t ∧ Word t ∧ (t.size : Int) ≤ max 0 m
  | 0, i, x5, h, hl, hx => by
    refine ⟨strOfNums x5, ?_, ⟨by rw [strOfNums_size]; omega, ?_⟩, by rw [strOfNums_size]; omega⟩
    · by_cases c : (i : Int) < (a.size : Int)
      · refine Ev.step (f := fun _ => some (strOfNums x5)) (fun k => ?_) (Ev.now _)
        simp only [galloonlaw01_tame.l0]
        rw [if_pos c, if_neg (by omega)]
      · refine Ev.step (f := fun _ => some (strOfNums x5)) (fun k => ?_) (Ev.now _)
        simp only [galloonlaw01_tame.l0]
        rw [if_neg c]
    · intro c hc
      unfold L at hc
      rw [strOfNums_data] at hc
      obtain ⟨n, hn, rfl⟩ := List.mem_map.1 hc
      have := hx n hn
      rw [UInt8.toNat_ofNat', Nat.mod_eq_of_lt (by omega)]
      omega
  | n + 1, i, x5, h, hl, hx => by
    have hi : i < (L a).length := by rw [L_size]; omega
    have hb := bt_L hi
    have hw : wrap64 ((i : Int) + 1) = ((i + 1 : Nat) : Int) := by rw [w64 (by omega)]; rfl
    have hr : 0 ≤ Int.tmod (bt a i) 4 ∧ Int.tmod (bt a i) 4 ≤ 3 := by
      rw [Int.tmod_eq_emod_of_nonneg (by rw [hb]; omega)]; omega
    obtain ⟨t, h1, h2, h3⟩ := tame_loop hm ha n (i + 1) (x5 ++ [(97 + (Int.tmod (bt a i) 4)) % 256]) (by omega) (by simp [hl]) (by
      intro c hc
      rcases List.mem_append.1 hc with hc | hc
      · exact hx c hc
      · have := List.mem_singleton.1 hc
        omega)
    refine ⟨t, Ev.step (f := fun k => galloonlaw01_tame.l0 k a m (x5 ++ [(97 + (Int.tmod (bt a i) 4)) % 256]) ((i + 1 : Nat) : Int)) (fun k => ?_) h1, h2, h3⟩
    simp only [galloonlaw01_tame.l0]
    rw [if_pos (by omega), if_pos (by omega), if_pos (by omega), if_pos (by omega), hw]
theorem tame_ev {a : ByteArray} {m : Int} (hm : m ≤ 100) (ha : a.size ≤ 140737488351232) : ∃ t, Ev (fun k => galloonlaw01_tame.f k a m) t ∧ Word t ∧ (t.size : Int) ≤ max 0 m :=
  tame_loop hm ha (min a.size m.toNat) 0 [] (by omega) rfl (by simp)
end Go.Proofs.Ytbdlhgdfnnbjiaa.PY
/-! TrimTowers: the plain law. -/
namespace Go.Proofs.Ytbdlhgdfnnbjiaa.Pure
open Go.Proofs.Ytbdlhgdfnnbjiaa.PY Go.RowKit Go.Proofs.YtbdlhgdfnnbjiaaW.PrintWords Go.Proofs.YtbdlhgdfnnbjiaaW.PrintLast Go.Proofs.Ytbdlhgdfnnbjiaa.Pal
theorem mod_small (a : Int) (n : Nat) (hn : n ≤ 100) : ∃ j : Nat, j ≤ n ∧ galloonlaw01_mod.f a (wrap64 ((n : Int) + 1)) = some (j : Int) := by
  have hw : wrap64 ((n : Int) + 1) = ((n + 1 : Nat) : Int) := by rw [w64 (by omega)]; rfl
  have hu : IntKind.u64.wrap ((n + 1 : Nat) : Int) = ((n + 1 : Nat) : Int) := by
    show ((n + 1 : Nat) : Int) % 18446744073709551616 = _
    omega
  have ha : 0 ≤ IntKind.u64.wrap a := by
    show 0 ≤ a % 18446744073709551616
    omega
  unfold galloonlaw01_mod.f
  rw [hw, hu, if_neg (by omega), Int.tmod_eq_emod_of_nonneg ha]
  have h1 : 0 ≤ IntKind.u64.wrap a % ((n + 1 : Nat) : Int) := Int.emod_nonneg _ (by omega)
  have h2 : IntKind.u64.wrap a % ((n + 1 : Nat) : Int) < ((n + 1 : Nat) : Int) := Int.emod_lt_of_pos _ (by omega)
  refine ⟨(IntKind.u64.wrap a % ((n + 1 : Nat) : Int)).toNat, by omega, ?_⟩
  rw [w64 (by omega)]
  congr 1
  omega
theorem TrimTowers : galloonlaw01_TrimTowers.Pure := by
  intro a0 a1 ha _
  obtain ⟨t, ht, hw, hts⟩ := tame_ev (a := a0) (m := 12) (by decide) ha
  obtain ⟨j, hj, hmod⟩ := mod_small a1 t.size (by omega)
  refine Ev.rounds (g := fun k => galloonlaw01_TrimTowers.f k a0 a1) ?_
  unfold galloonlaw01_TrimTowers.f
  have hT := Tower_ev hw
  have hwj : Word (t.extract 0 (j : Int).toNat) := by
    rw [Int.toNat_natCast]
    refine ⟨by rw [ByteArray.size_extract]; omega, fun c hc => hw.2 c ?_⟩
    rw [L_to] at hc
    exact List.mem_of_mem_take hc
  have hT2 := Tower_ev hwj
  have hLj : L (t.extract 0 (j : Int).toNat) = (L t).take j := by rw [Int.toNat_natCast, L_to]
  rw [hLj] at hT2
  refine Ev.bind ht (Ev.bind hT ?_)
  rw [hmod]
  simp only [Option.bind_some]
  refine Ev.ite_true (by omega) (Ev.ite_true (by omega) (Ev.bind hT2 ?_))
  by_cases c : (tow (L t)).length ≤ 100
  · rw [if_pos c]
    have hpre := tow_take_prefix (L t) j
    have c2 : (tow ((L t).take j)).length ≤ 100 := Nat.le_trans hpre.length_le c
    rw [if_pos c2]
    have hW : Word (mkS (tow (L t))) := word_tow hw (L_mk _) c
    have hR := Rich_ev hW
    rw [L_mk, richL_rich (tow_rich _) _ 0 (by rw [mk_size]; omega)] at hR
    have hB := base_ev hW
    rw [baseR_tow (w := L t) (by rw [mk_size]; exact c) (L_mk _), mk_L] at hB
    have hC : Ev (fun k => trim_Closure.f k (mkS (tow (L t)))) (mkS (tow (L t)), 0) := by
      have hc := closure_ev (s := mkS (tow (L t))) (by rw [mk_size]; omega)
      rw [L_mk, clo_of_pal (tow_pal _)] at hc
      unfold trim_Closure.f
      rw [isWord_yes hW]
      simp only [Option.bind_some]
      exact Ev.ite_true trivial (Ev.bind hc (Ev.ite_false (by rw [mk_size]; omega) (Ev.now _)))
    have hP := rpal_ev (s := mkS (tow (L t))) (by rw [mk_size]; omega)
    rw [L_mk, decide_eq_true (tow_pal _)] at hP
    have hle := hpre.length_le
    have hwr : wrap64 (((mkS (tow (L t))).size : Int) - ((mkS (tow ((L t).take j))).size : Int)) = (((tow (L t)).length - (tow ((L t).take j)).length : Nat) : Int) := by
      rw [mk_size, mk_size, w64 (by omega)]; omega
    have hsuf := pal_suffix_of_prefix (tow_pal (L t)) hpre (tow_pal _)
    refine Ev.ite_true rfl (Ev.bind hR (Ev.bind hB (Ev.bind hC (Ev.ite_true rfl (Ev.ite_true rfl (Ev.ite_true rfl (Ev.ite_true rfl (Ev.bind hP (Ev.ite_true rfl (Ev.ite_true rfl (Ev.ite_true rfl (Ev.ite_true rfl ?_))))))))))))
    refine Ev.ite_true (by rw [mk_size, mk_size]; omega) (Ev.ite_true (by omega) (Ev.ite_true ?_ ?_))
    · rw [toList_L, toList_L, Int.toNat_natCast, L_to, L_mk, L_mk, mk_size]
      exact (List.prefix_iff_eq_take.1 hpre).symm
    · simp only [hwr]
      refine Ev.ite_true (by omega) (Ev.ite_true (by rw [mk_size]; omega) (Ev.ite_true ?_ (Ev.bind awake_ev (Ev.now _))))
      rw [toList_L, toList_L, Int.toNat_natCast, L_from, L_mk, L_mk]
      exact (List.suffix_iff_eq_drop.1 hsuf).symm
  · rw [if_neg c]
    exact Ev.ite_false (by simp) (Ev.ite_true rfl (Ev.ite_true (by rw [toList_L]; rfl) (Ev.bind awake_ev (Ev.now _))))
end Go.Proofs.Ytbdlhgdfnnbjiaa.Pure
