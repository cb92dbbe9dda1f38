-- Made by the session's own driver (wip/tools/p2.py) out of the translation; Lean checks it.
import Derived.Test.YtbdlhgdfnnbjiaaPYx0
import Derived.Test.YtbdlhgdfnnbjiaaPYx13
namespace Go.Proofs.Ytbdlhgdfnnbjiaa.PY
open Go.RowKit Go.Proofs.YtbdlhgdfnnbjiaaW.PrintWords Go.Proofs.YtbdlhgdfnnbjiaaW.PrintLast Go.Proofs.YtbdlhgdfnnbjiaaW.PrintMore
attribute [local go_sem] max2_int min2_int max_two min_two max_three min_three max_four min_four   -- for this text's walks alone
set_option linter.unusedVariables false
set_option linter.unusedSimpArgs false

/-! ### galloonref01_Base: function 29 -/
def galloonref01_Base.l0 : Nat → ByteArray → ByteArray → ByteArray → Option (ByteArray × Bool)
  | 0, _, _, _ => none
  | k + 1, x0, x4, x5 => if (x5.size : Int) < (x0.size : Int) then (if 0 ≤ (x5.size : Int) then (if (x5.size : Int) ≤ (wrap64 ((x5.size : Int) + 1)) then (if (wrap64 ((x5.size : Int) + 1)) ≤ (x0.size : Int) then (if x4.size + (x0.extract ((x5.size : Int) : Int).toNat ((wrap64 ((x5.size : Int) + 1)) : Int).toNat).size ≤ 9223372036854775807 then (if x5.size + (x0.extract ((x5.size : Int) : Int).toNat ((wrap64 ((x5.size : Int) + 1)) : Int).toNat).size ≤ 9223372036854775807 then ((galloonref01_Closure.f k (x5 ++ (x0.extract ((x5.size : Int) : Int).toNat ((wrap64 ((x5.size : Int) + 1)) : Int).toNat))).bind fun t196 => (if (t196.size : Int) > (x0.size : Int) then (some ((⟨#[]⟩ : ByteArray), false)) else (if 0 ≤ (t196.size : Int) then (if (t196.size : Int) ≤ (x0.size : Int) then (if t196.toList = (x0.extract 0 ((t196.size : Int) : Int).toNat).toList then (galloonref01_Base.l0 k x0 (x4 ++ (x0.extract ((x5.size : Int) : Int).toNat ((wrap64 ((x5.size : Int) + 1)) : Int).toNat)) t196) else (some ((⟨#[]⟩ : ByteArray), false))) else (none)) else (none)))) else (none)) else (none)) else (none)) else (none)) else (none)) else (some (x4, true))
def galloonref01_Base.f (k : Nat) (a0 : ByteArray) : Option (ByteArray × Bool) := galloonref01_Base.l0 k a0 (⟨#[]⟩ : ByteArray) (⟨#[]⟩ : ByteArray)
theorem galloonref01_Base.mono_l : ∀ k, (∀ y0 y1 y2, LeO (galloonref01_Base.l0 k y0 y1 y2) (galloonref01_Base.l0 (k + 1) y0 y1 y2))
  | 0 => fun _ _ _ r h => by simp [galloonref01_Base.l0] at h
  | k + 1 => by
    have ih0 := galloonref01_Base.mono_l k
    · intro y0 y1 y2
      unfold galloonref01_Base.l0
      repeat' first
      | (with_reducible exact ih0 _ _ _)
      | (with_reducible exact galloonref01_Closure.mono _ _)
      | (with_reducible exact LeO.refl _)
      | (with_reducible exact LeO.none _)
      | (with_reducible refine LeO.ite ?_ ?_)
      | (with_reducible refine LeO.bind ?_ (fun _ => ?_))
      | exact ih0 _ _ _
      | exact galloonref01_Closure.mono _ _
      | exact LeO.none _
      | refine LeO.ite ?_ ?_
      | refine LeO.bind ?_ (fun _ => ?_)
theorem galloonref01_Base.mono : ∀ a0 k, LeO (galloonref01_Base.f k a0) (galloonref01_Base.f (k + 1) a0) := by
  intro a0 k
  have ih0 := galloonref01_Base.mono_l k
  unfold galloonref01_Base.f
  repeat' first
      | (with_reducible exact ih0 _ _ _)
      | (with_reducible exact galloonref01_Closure.mono _ _)
      | (with_reducible exact LeO.refl _)
      | (with_reducible exact LeO.none _)
      | (with_reducible refine LeO.ite ?_ ?_)
      | (with_reducible refine LeO.bind ?_ (fun _ => ?_))
      | exact ih0 _ _ _
      | exact galloonref01_Closure.mono _ _
      | exact LeO.none _
      | refine LeO.ite ?_ ?_
      | refine LeO.bind ?_ (fun _ => ?_)
set_option maxHeartbeats 8000000 in
set_option maxRecDepth 100000 in
theorem galloonref01_Base.calls (k : Nat) (a0 : ByteArray) (r1 : ByteArray) (r2 : Bool) (w : World) (h : galloonref01_Base.f k a0 = some (r1, r2)) :
    Calls Try.prog 29 #[.string a0] w fun e w' => e = .returned (.tuple #[.string r1, .bool r2]) ∧ Below w.heap.size w w' := by
  have HB := Aside0.mk (Below.refl w.heap.size w)
  have H : (galloonref01_Base.l0 k a0 (⟨#[]⟩ : ByteArray) (⟨#[]⟩ : ByteArray)) = some (r1, r2) := h
  clear h
  have H' := Aside0.mk H
  clear H
  go_enter Try.func29, Try.ntmps29
  go_wp2
  go_loopg [4, 5] k (fun kq v4 v5 w' => ∃ (x4_1 : ByteArray) (x5_1 : ByteArray), v4 = .string x4_1 ∧ v5 = .string x5_1 ∧ Aside0 (galloonref01_Base.l0 kq a0 x4_1 x5_1 = some (r1, r2)) ∧ Aside0 (kq ≤ k) ∧ Aside0 (Below w.heap.size w w'))
  case atStart => exact ⟨((⟨#[]⟩ : ByteArray)), ((⟨#[]⟩ : ByteArray)), (by first | rfl | (simp; done) | (simp [*]; done)), (by first | rfl | (simp; done) | (simp [*]; done)), H', ⟨Nat.le_refl _⟩, ⟨by repeat (first | (with_reducible first | exact HB.out | apply below_alloc | apply pw_below_drewN | apply below_drew1) | exact HB.out)⟩⟩
  case round =>
    clear H'
    obtain ⟨x4_1, x5_1, rfl, rfl, HA, HK1, HB⟩ := hrel
    cases gk with
    | zero => exact absurd HA.out (by simp [galloonref01_Base.l0])
    | succ k1 =>
      have H := HA.out
      clear HA
      simp only [galloonref01_Base.l0] at H
      by_cases c2 : (x5_1.size : Int) < (a0.size : Int)
      · rw [if_pos c2] at H
        have c2b0 : decide ((x5_1.size : Int) < (a0.size : Int)) = true := decide_eq_true c2
        have c2b1 : decide (x5_1.size < a0.size) = true := decide_eq_true (Int.ofNat_lt.mp c2)
        clear c2
        by_cases c3 : 0 ≤ (x5_1.size : Int)
        · rw [if_pos c3] at H
          have c3b0 := eq_true c3
          have c3b1 : decide (0 ≤ (x5_1.size : Int)) = true := decide_eq_true c3
          clear c3
          by_cases c4 : (x5_1.size : Int) ≤ (wrap64 ((x5_1.size : Int) + 1))
          · rw [if_pos c4] at H
            have c4b0 := eq_true c4
            have c4b1 : decide ((x5_1.size : Int) ≤ (wrap64 ((x5_1.size : Int) + 1))) = true := decide_eq_true c4
            by_cases c5 : (wrap64 ((x5_1.size : Int) + 1)) ≤ (a0.size : Int)
            · rw [if_pos c5] at H
              have c5b0 := eq_true c5
              have c5b1 : decide ((wrap64 ((x5_1.size : Int) + 1)) ≤ (a0.size : Int)) = true := decide_eq_true c5
              by_cases c6 : x4_1.size + (a0.extract ((x5_1.size : Int) : Int).toNat ((wrap64 ((x5_1.size : Int) + 1)) : Int).toNat).size ≤ 9223372036854775807
              · rw [if_pos c6] at H
                have c6b0 := eq_true c6
                have c6b1 : decide (x4_1.size + (a0.extract ((x5_1.size : Int) : Int).toNat ((wrap64 ((x5_1.size : Int) + 1)) : Int).toNat).size ≤ 9223372036854775807) = true := decide_eq_true c6
                try simp only [Int.toNat_natCast] at c6b0 c6b1
                try have c6b2 : (9223372036854775807 < x4_1.size + (a0.extract ((x5_1.size : Int) : Int).toNat ((wrap64 ((x5_1.size : Int) + 1)) : Int).toNat).size) = False := eq_false (Nat.not_lt.2 c6)
                try simp only [Int.toNat_natCast] at c6b0 c6b1 c6b2
                have c7b0 := eq_true (of_decide_eq_true (by first | (with_reducible assumption) | assumption) : 0 ≤ (x5_1.size : Int))
                have c8b0 := eq_true (of_decide_eq_true (by first | (with_reducible assumption) | assumption) : (x5_1.size : Int) ≤ (wrap64 ((x5_1.size : Int) + 1)))
                have c9b0 := eq_true (of_decide_eq_true (by first | (with_reducible assumption) | assumption) : (wrap64 ((x5_1.size : Int) + 1)) ≤ (a0.size : Int))
                by_cases c10 : x5_1.size + (a0.extract ((x5_1.size : Int) : Int).toNat ((wrap64 ((x5_1.size : Int) + 1)) : Int).toNat).size ≤ 9223372036854775807
                · rw [if_pos c10] at H
                  have c10b0 := eq_true c10
                  have c10b1 : decide (x5_1.size + (a0.extract ((x5_1.size : Int) : Int).toNat ((wrap64 ((x5_1.size : Int) + 1)) : Int).toNat).size ≤ 9223372036854775807) = true := decide_eq_true c10
                  try simp only [Int.toNat_natCast] at c10b0 c10b1
                  try have c10b2 : (9223372036854775807 < x5_1.size + (a0.extract ((x5_1.size : Int) : Int).toNat ((wrap64 ((x5_1.size : Int) + 1)) : Int).toNat).size) = False := eq_false (Nat.not_lt.2 c10)
                  try simp only [Int.toNat_natCast] at c10b0 c10b1 c10b2
                  have z1_ : (9223372036854775807 < x4_1.size + ((wrap64 ((x5_1.size : Int) + 1)).toNat - x5_1.size)) = False := eq_false (by have h6 := c6; rw [ByteArray.size_extract, Int.toNat_natCast] at h6; omega)
                  have z2_ : (9223372036854775807 < x5_1.size + ((wrap64 ((x5_1.size : Int) + 1)).toNat - x5_1.size)) = False := eq_false (by have h6 := c10; rw [ByteArray.size_extract, Int.toNat_natCast] at h6; omega)
                  have z3_ : (x4_1.size + ((wrap64 ((x5_1.size : Int) + 1)).toNat - x5_1.size) ≤ 9223372036854775807) = True := eq_true (by have h6 := c6; rw [ByteArray.size_extract, Int.toNat_natCast] at h6; omega)
                  have z4_ : (x5_1.size + ((wrap64 ((x5_1.size : Int) + 1)).toNat - x5_1.size) ≤ 9223372036854775807) = True := eq_true (by have h6 := c10; rw [ByteArray.size_extract, Int.toNat_natCast] at h6; omega)
                  replace H := Option.bind_eq_some_iff.mp H
                  obtain ⟨t196, A110, H⟩ := H
                  replace H : (if (t196.size : Int) > (a0.size : Int) then (some ((⟨#[]⟩ : ByteArray), false)) else (if 0 ≤ (t196.size : Int) then (if (t196.size : Int) ≤ (a0.size : Int) then (if t196.toList = (a0.extract 0 ((t196.size : Int) : Int).toNat).toList then (galloonref01_Base.l0 k1 a0 (x4_1 ++ (a0.extract ((x5_1.size : Int) : Int).toNat ((wrap64 ((x5_1.size : Int) + 1)) : Int).toNat)) t196) else (some ((⟨#[]⟩ : ByteArray), false))) else (none)) else (none))) = some (r1, r2) := H
                  have A11 := Aside0.mk A110
                  clear A110
                  by_cases c12 : (t196.size : Int) > (a0.size : Int)
                  · rw [if_pos c12] at H
                    have c12b0 : decide ((a0.size : Int) < (t196.size : Int)) = true := decide_eq_true c12
                    have c12b1 : decide (a0.size < t196.size) = true := decide_eq_true (Int.ofNat_lt.mp c12)
                    clear c12
                    simp only [Option.some.injEq, Prod.mk.injEq] at H
                    obtain ⟨rfl, rfl⟩ := H
                    go_wp2_with (first | ((with_reducible refine gate_callee (f := 27) rfl ?_); refine goesL_ (some 29) rfl rfl Try.func27 (by kernel_rfl) rfl #[.string (x5_1 ++ (a0.extract ((x5_1.size : Int) : Int).toNat ((wrap64 ((x5_1.size : Int) + 1)) : Int).toNat))] rfl (by (try simp only [List.map_toArray, List.map_cons, List.map_nil]); first | done | rfl | (simp only [List.length_drop, List.length_take]; rfl)) ?_; (with_reducible refine (galloonref01_Closure.calls k1 (x5_1 ++ (a0.extract ((x5_1.size : Int) : Int).toNat ((wrap64 ((x5_1.size : Int) + 1)) : Int).toNat)) t196 _ A11.out).mono ?_); rintro e w13 ⟨rfl, hb⟩; refine ⟨_, rfl, ?_⟩; have n0_ := Aside0.mk (below_step (by repeat (first | (with_reducible first | exact HB.out | apply below_alloc | apply pw_below_drewN | apply below_drew1) | exact HB.out)) hb); clear HB; have HB := n0_; clear n0_; (try clear hb); (try clear hb2); (try clear hk); (try clear hi)))
                    go_ret2
                    exact ⟨by first | rfl | (simp [errW_none, errW_some] <;> rfl) | (simp [*, errW_none, errW_some] <;> rfl), by repeat (first | (with_reducible first | exact HB.out | apply below_alloc | apply pw_below_drewN | apply below_drew1) | exact HB.out)⟩
                  · rw [if_neg c12] at H
                    have c12b0 : decide ((a0.size : Int) < (t196.size : Int)) = false := decide_eq_false c12
                    have c12b1 : decide (a0.size < t196.size) = false := decide_eq_false (fun h => c12 (Int.ofNat_lt.mpr h))
                    clear c12
                    by_cases c14 : 0 ≤ (t196.size : Int)
                    · rw [if_pos c14] at H
                      have c14b0 := eq_true c14
                      have c14b1 : decide (0 ≤ (t196.size : Int)) = true := decide_eq_true c14
                      clear c14
                      by_cases c15 : (t196.size : Int) ≤ (a0.size : Int)
                      · rw [if_pos c15] at H
                        have c15b0 := eq_true c15
                        have c15b1 : decide ((t196.size : Int) ≤ (a0.size : Int)) = true := decide_eq_true c15
                        clear c15
                        by_cases c16 : t196.toList = (a0.extract 0 ((t196.size : Int) : Int).toNat).toList
                        · rw [if_pos c16] at H
                          have c16b0 : (t196.toList == (a0.extract 0 ((t196.size : Int) : Int).toNat).toList) = true := beq_iff_eq.mpr c16
                          have c16b1 : (t196.toList != (a0.extract 0 ((t196.size : Int) : Int).toNat).toList) = false := bne_eq_false_iff_eq.mpr c16
                          try simp only [Int.toNat_natCast] at c16b0 c16b1
                          clear c16
                          have H' := Aside0.mk H
                          clear H
                          go_wp2_with (first | ((with_reducible refine gate_callee (f := 27) rfl ?_); refine goesL_ (some 29) rfl rfl Try.func27 (by kernel_rfl) rfl #[.string (x5_1 ++ (a0.extract ((x5_1.size : Int) : Int).toNat ((wrap64 ((x5_1.size : Int) + 1)) : Int).toNat))] rfl (by (try simp only [List.map_toArray, List.map_cons, List.map_nil]); first | done | rfl | (simp only [List.length_drop, List.length_take]; rfl)) ?_; (with_reducible refine (galloonref01_Closure.calls k1 (x5_1 ++ (a0.extract ((x5_1.size : Int) : Int).toNat ((wrap64 ((x5_1.size : Int) + 1)) : Int).toNat)) t196 _ A11.out).mono ?_); rintro e w17 ⟨rfl, hb⟩; refine ⟨_, rfl, ?_⟩; have n0_ := Aside0.mk (below_step (by repeat (first | (with_reducible first | exact HB.out | apply below_alloc | apply pw_below_drewN | apply below_drew1) | exact HB.out)) hb); clear HB; have HB := n0_; clear n0_; (try clear hb); (try clear hb2); (try clear hk); (try clear hi)))
                          go_roundg k1
                          case measure => have := HK1.out; omega
                          case rel => exact ⟨(x4_1 ++ (a0.extract ((x5_1.size : Int) : Int).toNat ((wrap64 ((x5_1.size : Int) + 1)) : Int).toNat)), (t196), (by first | rfl | (simp; done) | (simp [*]; done)), (by first | rfl | (simp; done) | (simp [*]; done)), H', ⟨by have := HK1.out; omega⟩, ⟨by repeat (first | (with_reducible first | exact HB.out | apply below_alloc | apply pw_below_drewN | apply below_drew1) | exact HB.out)⟩⟩
                        · rw [if_neg c16] at H
                          have c16b0 : (t196.toList == (a0.extract 0 ((t196.size : Int) : Int).toNat).toList) = false := beq_eq_false_iff_ne.mpr c16
                          have c16b1 : (t196.toList != (a0.extract 0 ((t196.size : Int) : Int).toNat).toList) = true := bne_iff_ne.mpr c16
                          try simp only [Int.toNat_natCast] at c16b0 c16b1
                          simp only [Option.some.injEq, Prod.mk.injEq] at H
                          obtain ⟨rfl, rfl⟩ := H
                          go_wp2_with (first | ((with_reducible refine gate_callee (f := 27) rfl ?_); refine goesL_ (some 29) rfl rfl Try.func27 (by kernel_rfl) rfl #[.string (x5_1 ++ (a0.extract ((x5_1.size : Int) : Int).toNat ((wrap64 ((x5_1.size : Int) + 1)) : Int).toNat))] rfl (by (try simp only [List.map_toArray, List.map_cons, List.map_nil]); first | done | rfl | (simp only [List.length_drop, List.length_take]; rfl)) ?_; (with_reducible refine (galloonref01_Closure.calls k1 (x5_1 ++ (a0.extract ((x5_1.size : Int) : Int).toNat ((wrap64 ((x5_1.size : Int) + 1)) : Int).toNat)) t196 _ A11.out).mono ?_); rintro e w18 ⟨rfl, hb⟩; refine ⟨_, rfl, ?_⟩; have n0_ := Aside0.mk (below_step (by repeat (first | (with_reducible first | exact HB.out | apply below_alloc | apply pw_below_drewN | apply below_drew1) | exact HB.out)) hb); clear HB; have HB := n0_; clear n0_; (try clear hb); (try clear hb2); (try clear hk); (try clear hi)))
                          go_ret2
                          exact ⟨by first | rfl | (simp [errW_none, errW_some] <;> rfl) | (simp [*, errW_none, errW_some] <;> rfl), by repeat (first | (with_reducible first | exact HB.out | apply below_alloc | apply pw_below_drewN | apply below_drew1) | exact HB.out)⟩
                      · rw [if_neg c15] at H
                        exact absurd H (by simp)
                    · rw [if_neg c14] at H
                      exact absurd H (by simp)
                · rw [if_neg c10] at H
                  exact absurd H (by simp)
              · rw [if_neg c6] at H
                exact absurd H (by simp)
            · rw [if_neg c5] at H
              exact absurd H (by simp)
          · rw [if_neg c4] at H
            exact absurd H (by simp)
        · rw [if_neg c3] at H
          exact absurd H (by simp)
      · rw [if_neg c2] at H
        have c2b0 : decide ((x5_1.size : Int) < (a0.size : Int)) = false := decide_eq_false c2
        have c2b1 : decide (x5_1.size < a0.size) = false := decide_eq_false (fun h => c2 (Int.ofNat_lt.mpr h))
        clear c2
        simp only [Option.some.injEq, Prod.mk.injEq] at H
        obtain ⟨rfl, rfl⟩ := H
        go_wp2
        go_ret2
        exact ⟨by first | rfl | (simp [errW_none, errW_some] <;> rfl) | (simp [*, errW_none, errW_some] <;> rfl), by repeat (first | (with_reducible first | exact HB.out | apply below_alloc | apply pw_below_drewN | apply below_drew1) | exact HB.out)⟩

end Go.Proofs.Ytbdlhgdfnnbjiaa.PY
