-- Made by the session's own driver (wip/tools/p2.py) out of the translation; Lean checks it.
import Derived.Test.YtbdlhgdfnnbjiaaPYx0
import Derived.Test.YtbdlhgdfnnbjiaaPYx3
import Derived.Test.YtbdlhgdfnnbjiaaPYx10
import Derived.Test.YtbdlhgdfnnbjiaaPYx13
import Derived.Test.YtbdlhgdfnnbjiaaPYx16
import Derived.Test.YtbdlhgdfnnbjiaaGOuter
namespace Go.Proofs.Ytbdlhgdfnnbjiaa.PY
open Go.RowKit Go.Proofs.YtbdlhgdfnnbjiaaW.PrintWords Go.Proofs.YtbdlhgdfnnbjiaaW.PrintLast Go.Proofs.YtbdlhgdfnnbjiaaW.PrintMore
attribute [local go_sem] max2_int min2_int max_two min_two max_three min_three max_four min_four   -- for this text's walks alone
set_option linter.unusedVariables false
set_option linter.unusedSimpArgs false

/-! ### galloonlaw01_TrimClosed: function 12 -/
def galloonlaw01_TrimClosed.f (k : Nat) (a0 : ByteArray) : Option (Bool) := (galloonlaw01_tame.f k a0 50).bind fun t528 => ((trim_Closure.f k t528).bind fun bt529 => ((trim_Outer.f k t528).bind fun bt531 => ((trim_Ends.f k t528).bind fun bt533 => (if bt529.2 = 0 then (if bt531.2 = 0 then (if bt533.2 = 0 then (if (bt529.1.size : Int) < (t528.size : Int) then (some false) else (if 0 ≤ (t528.size : Int) then (if (t528.size : Int) ≤ (bt529.1.size : Int) then (if (bt529.1.extract 0 ((t528.size : Int) : Int).toNat).toList = t528.toList then ((galloonref01_Palindrome.f k bt529.1).bind fun t537 => (if t537 = true then (if (bt529.1.size : Int) < (bt531.1.size : Int) then (some false) else (if (bt533.1.length : Int) = (t528.size : Int) then (if t528.toList = ([] : List UInt8) then (if bt529.1.toList = ([] : List UInt8) then ((galloonlaw01_awake.f k).bind fun t538 => (some t538)) else (some false)) else (if 0 ≤ (wrap64 ((bt533.1.length : Int) - 1)) then (if (wrap64 ((bt533.1.length : Int) - 1)) < (bt533.1.length : Int) then (if (bt529.1.size : Int) = (wrap64 ((wrap64 (2 * (t528.size : Int))) - (rd bt533.1 (wrap64 ((bt533.1.length : Int) - 1))))) then ((galloonlaw01_awake.f k).bind fun t540 => (some t540)) else (some false)) else (none)) else (none))) else (some false))) else (some false))) else (some false)) else (none)) else (none))) else (some false)) else (some false)) else (some false)))))
theorem galloonlaw01_TrimClosed.mono : ∀ a0 k, LeO (galloonlaw01_TrimClosed.f k a0) (galloonlaw01_TrimClosed.f (k + 1) a0) := by
  intro a0 k
  unfold galloonlaw01_TrimClosed.f
  repeat' first
      | (with_reducible exact galloonlaw01_awake.mono _)
      | (with_reducible exact galloonlaw01_tame.mono _ _ _)
      | (with_reducible exact galloonref01_Palindrome.mono _ _)
      | (with_reducible exact trim_Closure.mono _ _)
      | (with_reducible exact trim_Ends.mono _ _)
      | (with_reducible exact trim_Outer.mono _ _)
      | (with_reducible exact LeO.refl _)
      | (with_reducible exact LeO.none _)
      | (with_reducible refine LeO.ite ?_ ?_)
      | (with_reducible refine LeO.bind ?_ (fun _ => ?_))
      | exact galloonlaw01_awake.mono _
      | exact galloonlaw01_tame.mono _ _ _
      | exact galloonref01_Palindrome.mono _ _
      | exact trim_Closure.mono _ _
      | exact trim_Ends.mono _ _
      | exact trim_Outer.mono _ _
      | exact LeO.none _
      | refine LeO.ite ?_ ?_
      | refine LeO.bind ?_ (fun _ => ?_)
set_option maxHeartbeats 8000000 in
set_option maxRecDepth 100000 in
theorem galloonlaw01_TrimClosed.calls (k : Nat) (a0 : ByteArray) (r : Bool) (w : World) (h : galloonlaw01_TrimClosed.f k a0 = some r) (hr : Aside0 (r = true)) (hg : Glob w) :
    Calls Try.prog 12 #[.string a0] w fun e w' => e = .returned (.bool r) ∧ Below w.heap.size w w' := by
  have HB := Aside0.mk (Below.refl w.heap.size w)
  have H : ((galloonlaw01_tame.f k a0 50).bind fun t528 => ((trim_Closure.f k t528).bind fun bt529 => ((trim_Outer.f k t528).bind fun bt531 => ((trim_Ends.f k t528).bind fun bt533 => (if bt529.2 = 0 then (if bt531.2 = 0 then (if bt533.2 = 0 then (if (bt529.1.size : Int) < (t528.size : Int) then (some false) else (if 0 ≤ (t528.size : Int) then (if (t528.size : Int) ≤ (bt529.1.size : Int) then (if (bt529.1.extract 0 ((t528.size : Int) : Int).toNat).toList = t528.toList then ((galloonref01_Palindrome.f k bt529.1).bind fun t537 => (if t537 = true then (if (bt529.1.size : Int) < (bt531.1.size : Int) then (some false) else (if (bt533.1.length : Int) = (t528.size : Int) then (if t528.toList = ([] : List UInt8) then (if bt529.1.toList = ([] : List UInt8) then ((galloonlaw01_awake.f k).bind fun t538 => (some t538)) else (some false)) else (if 0 ≤ (wrap64 ((bt533.1.length : Int) - 1)) then (if (wrap64 ((bt533.1.length : Int) - 1)) < (bt533.1.length : Int) then (if (bt529.1.size : Int) = (wrap64 ((wrap64 (2 * (t528.size : Int))) - (rd bt533.1 (wrap64 ((bt533.1.length : Int) - 1))))) then ((galloonlaw01_awake.f k).bind fun t540 => (some t540)) else (some false)) else (none)) else (none))) else (some false))) else (some false))) else (some false)) else (none)) else (none))) else (some false)) else (some false)) else (some false)))))) = some r := h
  clear h
  replace H := Option.bind_eq_some_iff.mp H
  obtain ⟨t528, A20, H⟩ := H
  replace H : ((trim_Closure.f k t528).bind fun bt529 => ((trim_Outer.f k t528).bind fun bt531 => ((trim_Ends.f k t528).bind fun bt533 => (if bt529.2 = 0 then (if bt531.2 = 0 then (if bt533.2 = 0 then (if (bt529.1.size : Int) < (t528.size : Int) then (some false) else (if 0 ≤ (t528.size : Int) then (if (t528.size : Int) ≤ (bt529.1.size : Int) then (if (bt529.1.extract 0 ((t528.size : Int) : Int).toNat).toList = t528.toList then ((galloonref01_Palindrome.f k bt529.1).bind fun t537 => (if t537 = true then (if (bt529.1.size : Int) < (bt531.1.size : Int) then (some false) else (if (bt533.1.length : Int) = (t528.size : Int) then (if t528.toList = ([] : List UInt8) then (if bt529.1.toList = ([] : List UInt8) then ((galloonlaw01_awake.f k).bind fun t538 => (some t538)) else (some false)) else (if 0 ≤ (wrap64 ((bt533.1.length : Int) - 1)) then (if (wrap64 ((bt533.1.length : Int) - 1)) < (bt533.1.length : Int) then (if (bt529.1.size : Int) = (wrap64 ((wrap64 (2 * (t528.size : Int))) - (rd bt533.1 (wrap64 ((bt533.1.length : Int) - 1))))) then ((galloonlaw01_awake.f k).bind fun t540 => (some t540)) else (some false)) else (none)) else (none))) else (some false))) else (some false))) else (some false)) else (none)) else (none))) else (some false)) else (some false)) else (some false))))) = some r := H
  have A2 := Aside0.mk A20
  clear A20
  replace H := Option.bind_eq_some_iff.mp H
  obtain ⟨⟨t529, t530⟩, A30, H⟩ := H
  replace H : ((trim_Outer.f k t528).bind fun bt531 => ((trim_Ends.f k t528).bind fun bt533 => (if t530 = 0 then (if bt531.2 = 0 then (if bt533.2 = 0 then (if (t529.size : Int) < (t528.size : Int) then (some false) else (if 0 ≤ (t528.size : Int) then (if (t528.size : Int) ≤ (t529.size : Int) then (if (t529.extract 0 ((t528.size : Int) : Int).toNat).toList = t528.toList then ((galloonref01_Palindrome.f k t529).bind fun t537 => (if t537 = true then (if (t529.size : Int) < (bt531.1.size : Int) then (some false) else (if (bt533.1.length : Int) = (t528.size : Int) then (if t528.toList = ([] : List UInt8) then (if t529.toList = ([] : List UInt8) then ((galloonlaw01_awake.f k).bind fun t538 => (some t538)) else (some false)) else (if 0 ≤ (wrap64 ((bt533.1.length : Int) - 1)) then (if (wrap64 ((bt533.1.length : Int) - 1)) < (bt533.1.length : Int) then (if (t529.size : Int) = (wrap64 ((wrap64 (2 * (t528.size : Int))) - (rd bt533.1 (wrap64 ((bt533.1.length : Int) - 1))))) then ((galloonlaw01_awake.f k).bind fun t540 => (some t540)) else (some false)) else (none)) else (none))) else (some false))) else (some false))) else (some false)) else (none)) else (none))) else (some false)) else (some false)) else (some false)))) = some r := H
  have A3 := Aside0.mk A30
  clear A30
  replace H := Option.bind_eq_some_iff.mp H
  obtain ⟨⟨t531, t532⟩, A40, H⟩ := H
  replace H : ((trim_Ends.f k t528).bind fun bt533 => (if t530 = 0 then (if t532 = 0 then (if bt533.2 = 0 then (if (t529.size : Int) < (t528.size : Int) then (some false) else (if 0 ≤ (t528.size : Int) then (if (t528.size : Int) ≤ (t529.size : Int) then (if (t529.extract 0 ((t528.size : Int) : Int).toNat).toList = t528.toList then ((galloonref01_Palindrome.f k t529).bind fun t537 => (if t537 = true then (if (t529.size : Int) < (t531.size : Int) then (some false) else (if (bt533.1.length : Int) = (t528.size : Int) then (if t528.toList = ([] : List UInt8) then (if t529.toList = ([] : List UInt8) then ((galloonlaw01_awake.f k).bind fun t538 => (some t538)) else (some false)) else (if 0 ≤ (wrap64 ((bt533.1.length : Int) - 1)) then (if (wrap64 ((bt533.1.length : Int) - 1)) < (bt533.1.length : Int) then (if (t529.size : Int) = (wrap64 ((wrap64 (2 * (t528.size : Int))) - (rd bt533.1 (wrap64 ((bt533.1.length : Int) - 1))))) then ((galloonlaw01_awake.f k).bind fun t540 => (some t540)) else (some false)) else (none)) else (none))) else (some false))) else (some false))) else (some false)) else (none)) else (none))) else (some false)) else (some false)) else (some false))) = some r := H
  have A4 := Aside0.mk A40
  clear A40
  replace H := Option.bind_eq_some_iff.mp H
  obtain ⟨⟨t533, t534⟩, A50, H⟩ := H
  replace H : (if t530 = 0 then (if t532 = 0 then (if t534 = 0 then (if (t529.size : Int) < (t528.size : Int) then (some false) else (if 0 ≤ (t528.size : Int) then (if (t528.size : Int) ≤ (t529.size : Int) then (if (t529.extract 0 ((t528.size : Int) : Int).toNat).toList = t528.toList then ((galloonref01_Palindrome.f k t529).bind fun t537 => (if t537 = true then (if (t529.size : Int) < (t531.size : Int) then (some false) else (if (t533.length : Int) = (t528.size : Int) then (if t528.toList = ([] : List UInt8) then (if t529.toList = ([] : List UInt8) then ((galloonlaw01_awake.f k).bind fun t538 => (some t538)) else (some false)) else (if 0 ≤ (wrap64 ((t533.length : Int) - 1)) then (if (wrap64 ((t533.length : Int) - 1)) < (t533.length : Int) then (if (t529.size : Int) = (wrap64 ((wrap64 (2 * (t528.size : Int))) - (rd t533 (wrap64 ((t533.length : Int) - 1))))) then ((galloonlaw01_awake.f k).bind fun t540 => (some t540)) else (some false)) else (none)) else (none))) else (some false))) else (some false))) else (some false)) else (none)) else (none))) else (some false)) else (some false)) else (some false)) = some r := H
  have A5 := Aside0.mk A50
  clear A50
  by_cases c6 : t530 = 0
  · rw [if_pos c6] at H
    have c6b0 : (t530 == 0) = true := beq_iff_eq.mpr c6
    have c6b1 : (t530 != 0) = false := bne_eq_false_iff_eq.mpr c6
    clear c6
    by_cases c7 : t532 = 0
    · rw [if_pos c7] at H
      have c7b0 : (t532 == 0) = true := beq_iff_eq.mpr c7
      have c7b1 : (t532 != 0) = false := bne_eq_false_iff_eq.mpr c7
      clear c7
      by_cases c8 : t534 = 0
      · rw [if_pos c8] at H
        have c8b0 : (t534 == 0) = true := beq_iff_eq.mpr c8
        have c8b1 : (t534 != 0) = false := bne_eq_false_iff_eq.mpr c8
        clear c8
        by_cases c9 : (t529.size : Int) < (t528.size : Int)
        · rw [if_pos c9] at H
          have c9b0 : decide ((t529.size : Int) < (t528.size : Int)) = true := decide_eq_true c9
          have c9b1 : decide (t529.size < t528.size) = true := decide_eq_true (Int.ofNat_lt.mp c9)
          clear c9
          obtain rfl := Option.some.inj H
          exact absurd hr.out (by decide)
        · rw [if_neg c9] at H
          have c9b0 : decide ((t529.size : Int) < (t528.size : Int)) = false := decide_eq_false c9
          have c9b1 : decide (t529.size < t528.size) = false := decide_eq_false (fun h => c9 (Int.ofNat_lt.mpr h))
          clear c9
          by_cases c10 : 0 ≤ (t528.size : Int)
          · rw [if_pos c10] at H
            have c10b0 := eq_true c10
            have c10b1 : decide (0 ≤ (t528.size : Int)) = true := decide_eq_true c10
            clear c10
            by_cases c11 : (t528.size : Int) ≤ (t529.size : Int)
            · rw [if_pos c11] at H
              have c11b0 := eq_true c11
              have c11b1 : decide ((t528.size : Int) ≤ (t529.size : Int)) = true := decide_eq_true c11
              clear c11
              by_cases c12 : (t529.extract 0 ((t528.size : Int) : Int).toNat).toList = t528.toList
              · rw [if_pos c12] at H
                have c12b0 : ((t529.extract 0 ((t528.size : Int) : Int).toNat).toList == t528.toList) = true := beq_iff_eq.mpr c12
                have c12b1 : ((t529.extract 0 ((t528.size : Int) : Int).toNat).toList != t528.toList) = false := bne_eq_false_iff_eq.mpr c12
                try simp only [Int.toNat_natCast] at c12b0 c12b1
                clear c12
                replace H := Option.bind_eq_some_iff.mp H
                obtain ⟨t537, A130, H⟩ := H
                replace H : (if t537 = true then (if (t529.size : Int) < (t531.size : Int) then (some false) else (if (t533.length : Int) = (t528.size : Int) then (if t528.toList = ([] : List UInt8) then (if t529.toList = ([] : List UInt8) then ((galloonlaw01_awake.f k).bind fun t538 => (some t538)) else (some false)) else (if 0 ≤ (wrap64 ((t533.length : Int) - 1)) then (if (wrap64 ((t533.length : Int) - 1)) < (t533.length : Int) then (if (t529.size : Int) = (wrap64 ((wrap64 (2 * (t528.size : Int))) - (rd t533 (wrap64 ((t533.length : Int) - 1))))) then ((galloonlaw01_awake.f k).bind fun t540 => (some t540)) else (some false)) else (none)) else (none))) else (some false))) else (some false)) = some r := H
                have A13 := Aside0.mk A130
                clear A130
                by_cases c14 : t537 = true
                · subst c14
                  have H1 : (if (t529.size : Int) < (t531.size : Int) then (some false) else (if (t533.length : Int) = (t528.size : Int) then (if t528.toList = ([] : List UInt8) then (if t529.toList = ([] : List UInt8) then ((galloonlaw01_awake.f k).bind fun t538 => (some t538)) else (some false)) else (if 0 ≤ (wrap64 ((t533.length : Int) - 1)) then (if (wrap64 ((t533.length : Int) - 1)) < (t533.length : Int) then (if (t529.size : Int) = (wrap64 ((wrap64 (2 * (t528.size : Int))) - (rd t533 (wrap64 ((t533.length : Int) - 1))))) then ((galloonlaw01_awake.f k).bind fun t540 => (some t540)) else (some false)) else (none)) else (none))) else (some false))) = some r := by rw [if_pos rfl] at H; exact H
                  clear H
                  have H := H1
                  clear H1
                  by_cases c15 : (t529.size : Int) < (t531.size : Int)
                  · rw [if_pos c15] at H
                    have c15b0 : decide ((t529.size : Int) < (t531.size : Int)) = true := decide_eq_true c15
                    have c15b1 : decide (t529.size < t531.size) = true := decide_eq_true (Int.ofNat_lt.mp c15)
                    clear c15
                    obtain rfl := Option.some.inj H
                    exact absurd hr.out (by decide)
                  · rw [if_neg c15] at H
                    have c15b0 : decide ((t529.size : Int) < (t531.size : Int)) = false := decide_eq_false c15
                    have c15b1 : decide (t529.size < t531.size) = false := decide_eq_false (fun h => c15 (Int.ofNat_lt.mpr h))
                    clear c15
                    by_cases c16 : (t533.length : Int) = (t528.size : Int)
                    · rw [if_pos c16] at H
                      have c16b0 : ((t533.length : Int) == (t528.size : Int)) = true := beq_iff_eq.mpr c16
                      have c16b1 : ((t533.length : Int) != (t528.size : Int)) = false := bne_eq_false_iff_eq.mpr c16
                      have c16b2 : (t533.length == t528.size) = true := by first | simpa using c16 | (simp at c16 ⊢; omega)
                      clear c16
                      by_cases c17 : t528.toList = ([] : List UInt8)
                      · rw [if_pos c17] at H
                        have c17b0 : (t528.toList == ([] : List UInt8)) = true := beq_iff_eq.mpr c17
                        have c17b1 : (t528.toList != ([] : List UInt8)) = false := bne_eq_false_iff_eq.mpr c17
                        clear c17
                        by_cases c18 : t529.toList = ([] : List UInt8)
                        · rw [if_pos c18] at H
                          have c18b0 : (t529.toList == ([] : List UInt8)) = true := beq_iff_eq.mpr c18
                          have c18b1 : (t529.toList != ([] : List UInt8)) = false := bne_eq_false_iff_eq.mpr c18
                          clear c18
                          replace H := Option.bind_eq_some_iff.mp H
                          obtain ⟨t538, A190, H⟩ := H
                          replace H : (some t538) = some r := H
                          have A19 := Aside0.mk A190
                          clear A190
                          obtain rfl := Option.some.inj H
                          go_enter Try.func12, Try.ntmps12
                          go_wp2_with (first | ((with_reducible refine gate_callee (f := 30) rfl ?_); refine goesL_ (some 11) rfl rfl Try.func30 (by kernel_rfl) rfl #[.string a0, .int .i64 50] rfl (by (try simp only [List.map_toArray, List.map_cons, List.map_nil]); first | done | rfl | (simp only [List.length_drop, List.length_take]; rfl)) ?_; (with_reducible refine (galloonlaw01_tame.calls k a0 50 t528 _ A2.out).mono ?_); rintro e w20 ⟨rfl, hb⟩; refine ⟨_, rfl, ?_⟩; have n0_ := Aside0.mk (below_step (by repeat (first | (with_reducible first | exact HB.out | apply below_alloc | apply pw_below_drewN | apply below_drew1) | exact HB.out)) hb); clear HB; have HB := n0_; clear n0_; (try clear hb); (try clear hb2); (try clear hk); (try clear hi)) | ((with_reducible refine gate_callee (f := 24) rfl ?_); refine goesL_ (some 14) rfl rfl Try.func24 (by kernel_rfl) rfl #[.string t528] rfl (by (try simp only [List.map_toArray, List.map_cons, List.map_nil]); first | done | rfl | (simp only [List.length_drop, List.length_take]; rfl)) ?_; (with_reducible refine (trim_Closure.calls k t528 t529 t530 _ A3.out).mono ?_); rintro e w21 ⟨rfl, hb⟩; refine ⟨_, rfl, ?_⟩; have n0_ := Aside0.mk (below_step (by repeat (first | (with_reducible first | exact HB.out | apply below_alloc | apply pw_below_drewN | apply below_drew1) | exact HB.out)) hb); clear HB; have HB := n0_; clear n0_; (try clear hb); (try clear hb2); (try clear hk); (try clear hi)) | ((with_reducible refine gate_callee (f := 43) rfl ?_); refine goesL_ (some 19) rfl rfl Try.func43 (by kernel_rfl) rfl #[.string t528] rfl (by (try simp only [List.map_toArray, List.map_cons, List.map_nil]); first | done | rfl | (simp only [List.length_drop, List.length_take]; rfl)) ?_; (with_reducible refine (trim_Outer.calls k t528 t531 t532 _ A4.out).mono ?_); rintro e w22 ⟨rfl, hb⟩; refine ⟨_, rfl, ?_⟩; have n0_ := Aside0.mk (below_step (by repeat (first | (with_reducible first | exact HB.out | apply below_alloc | apply pw_below_drewN | apply below_drew1) | exact HB.out)) hb); clear HB; have HB := n0_; clear n0_; (try clear hb); (try clear hb2); (try clear hk); (try clear hi)) | ((with_reducible refine gate_callee (f := 17) rfl ?_); refine goesL_ (some 24) rfl rfl Try.func17 (by kernel_rfl) rfl #[.string t528] rfl (by (try simp only [List.map_toArray, List.map_cons, List.map_nil]); first | done | rfl | (simp only [List.length_drop, List.length_take]; rfl)) ?_; (with_reducible refine (trim_Ends.calls k t528 t533 t534 _ A5.out).mono ?_); rintro e w23 ⟨v535, rfl, ho0, hb⟩; refine ⟨_, rfl, ?_⟩; have n0_ := Aside0.mk (Kd.R_lower ho0 (below_size (by repeat (first | (with_reducible first | exact HB.out | apply below_alloc | apply pw_below_drewN | apply below_drew1) | exact HB.out)))); have n1_ := Aside0.mk (below_step (by repeat (first | (with_reducible first | exact HB.out | apply below_alloc | apply pw_below_drewN | apply below_drew1) | exact HB.out)) hb); clear HB; have HO536 := n0_; have HB := n1_; clear n0_ n1_; (try clear hb); (try clear hb2); (try clear hk); (try clear hi); (try clear ho0)) | (go_at_call 32; (with_reducible refine (galloonref01_Palindrome.calls k t529 true _ A13.out).mono ?_); rintro e w' ⟨rfl, ⟨nd, rfl⟩⟩; obtain ⟨Ao24, co24, eo24⟩ := Kd.R_slice HO536.out; subst eo24) | (go_at_call 20; (with_reducible refine (galloonlaw01_awake.calls k  t538 _ A19.out (Glob.at hg (by repeat (first | (with_reducible first | exact HB.out | apply below_alloc | apply pw_below_drewN | apply below_drew1) | exact HB.out)))).mono ?_); rintro e w25 ⟨rfl, hb⟩; have n0_ := Aside0.mk (Kd.R_below (by (with_reducible repeat (first | apply Kd.R_alloc | apply Kd.R_drewN | apply Kd.R_drew)); exact HO536.out) hb); have n1_ := Aside0.mk (below_step (by repeat (first | (with_reducible first | exact HB.out | apply below_alloc | apply pw_below_drewN | apply below_drew1) | exact HB.out)) hb); clear HO536; clear HB; have HO536 := n0_; have HB := n1_; clear n0_ n1_; (try clear hb); (try clear hb2); (try clear hk); (try clear hi)))
                          go_ret
                          exact ⟨by first | rfl | (simp [errW_none, errW_some] <;> rfl) | (simp [*, errW_none, errW_some] <;> rfl), by repeat (first | (with_reducible first | exact HB.out | apply below_alloc | apply pw_below_drewN | apply below_drew1) | exact HB.out)⟩
                        · rw [if_neg c18] at H
                          have c18b0 : (t529.toList == ([] : List UInt8)) = false := beq_eq_false_iff_ne.mpr c18
                          have c18b1 : (t529.toList != ([] : List UInt8)) = true := bne_iff_ne.mpr c18
                          obtain rfl := Option.some.inj H
                          exact absurd hr.out (by decide)
                      · rw [if_neg c17] at H
                        have c17b0 : (t528.toList == ([] : List UInt8)) = false := beq_eq_false_iff_ne.mpr c17
                        have c17b1 : (t528.toList != ([] : List UInt8)) = true := bne_iff_ne.mpr c17
                        obtain ⟨ji26, hji26⟩ : ∃ j_ : Int, (wrap64 ((t533.length : Int) - 1)) = j_ := ⟨_, rfl⟩
                        replace H : (if 0 ≤ (ji26) then (if (ji26) < (t533.length : Int) then (if (t529.size : Int) = (wrap64 ((wrap64 (2 * (t528.size : Int))) - (rd t533 (ji26)))) then ((galloonlaw01_awake.f k).bind fun t540 => (some t540)) else (some false)) else (none)) else (none)) = some r := by first | (rw [hji26] at H; exact H) | (simp only [hji26] at H ⊢; exact H)
                        (try rw [hji26] at A2)
                        (try rw [hji26] at A3)
                        (try rw [hji26] at A4)
                        (try rw [hji26] at A5)
                        (try rw [hji26] at A13)
                        have hji26w : (IntKind.i64.wrap ((t533.length : Int) - 1)) = ji26 := (i64_w _).trans hji26
                        by_cases c27 : 0 ≤ (ji26)
                        · rw [if_pos c27] at H
                          have c27b0 : decide (0 ≤ (ji26)) = true := decide_eq_true c27
                          clear c27
                          by_cases c28 : (ji26) < (t533.length : Int)
                          · rw [if_pos c28] at H
                            have c28b0 : decide ((ji26) < (t533.length : Int)) = true := decide_eq_true c28
                            clear c28
                            by_cases c29 : (t529.size : Int) = (wrap64 ((wrap64 (2 * (t528.size : Int))) - (rd t533 (ji26))))
                            · rw [if_pos c29] at H
                              have c29b0 : ((t529.size : Int) == (wrap64 ((wrap64 (2 * (t528.size : Int))) - (rd t533 (ji26))))) = true := beq_iff_eq.mpr c29
                              have c29b1 : ((t529.size : Int) != (wrap64 ((wrap64 (2 * (t528.size : Int))) - (rd t533 (ji26))))) = false := bne_eq_false_iff_eq.mpr c29
                              clear c29
                              replace H := Option.bind_eq_some_iff.mp H
                              obtain ⟨t540, A300, H⟩ := H
                              replace H : (some t540) = some r := H
                              have A30 := Aside0.mk A300
                              clear A300
                              obtain rfl := Option.some.inj H
                              go_enter Try.func12, Try.ntmps12
                              go_wp2_with (first | ((with_reducible refine gate_callee (f := 30) rfl ?_); refine goesL_ (some 11) rfl rfl Try.func30 (by kernel_rfl) rfl #[.string a0, .int .i64 50] rfl (by (try simp only [List.map_toArray, List.map_cons, List.map_nil]); first | done | rfl | (simp only [List.length_drop, List.length_take]; rfl)) ?_; (with_reducible refine (galloonlaw01_tame.calls k a0 50 t528 _ A2.out).mono ?_); rintro e w31 ⟨rfl, hb⟩; refine ⟨_, rfl, ?_⟩; have n0_ := Aside0.mk (below_step (by repeat (first | (with_reducible first | exact HB.out | apply below_alloc | apply pw_below_drewN | apply below_drew1) | exact HB.out)) hb); clear HB; have HB := n0_; clear n0_; (try clear hb); (try clear hb2); (try clear hk); (try clear hi)) | ((with_reducible refine gate_callee (f := 24) rfl ?_); refine goesL_ (some 14) rfl rfl Try.func24 (by kernel_rfl) rfl #[.string t528] rfl (by (try simp only [List.map_toArray, List.map_cons, List.map_nil]); first | done | rfl | (simp only [List.length_drop, List.length_take]; rfl)) ?_; (with_reducible refine (trim_Closure.calls k t528 t529 t530 _ A3.out).mono ?_); rintro e w32 ⟨rfl, hb⟩; refine ⟨_, rfl, ?_⟩; have n0_ := Aside0.mk (below_step (by repeat (first | (with_reducible first | exact HB.out | apply below_alloc | apply pw_below_drewN | apply below_drew1) | exact HB.out)) hb); clear HB; have HB := n0_; clear n0_; (try clear hb); (try clear hb2); (try clear hk); (try clear hi)) | ((with_reducible refine gate_callee (f := 43) rfl ?_); refine goesL_ (some 19) rfl rfl Try.func43 (by kernel_rfl) rfl #[.string t528] rfl (by (try simp only [List.map_toArray, List.map_cons, List.map_nil]); first | done | rfl | (simp only [List.length_drop, List.length_take]; rfl)) ?_; (with_reducible refine (trim_Outer.calls k t528 t531 t532 _ A4.out).mono ?_); rintro e w33 ⟨rfl, hb⟩; refine ⟨_, rfl, ?_⟩; have n0_ := Aside0.mk (below_step (by repeat (first | (with_reducible first | exact HB.out | apply below_alloc | apply pw_below_drewN | apply below_drew1) | exact HB.out)) hb); clear HB; have HB := n0_; clear n0_; (try clear hb); (try clear hb2); (try clear hk); (try clear hi)) | ((with_reducible refine gate_callee (f := 17) rfl ?_); refine goesL_ (some 24) rfl rfl Try.func17 (by kernel_rfl) rfl #[.string t528] rfl (by (try simp only [List.map_toArray, List.map_cons, List.map_nil]); first | done | rfl | (simp only [List.length_drop, List.length_take]; rfl)) ?_; (with_reducible refine (trim_Ends.calls k t528 t533 t534 _ A5.out).mono ?_); rintro e w34 ⟨v535, rfl, ho0, hb⟩; refine ⟨_, rfl, ?_⟩; have n0_ := Aside0.mk (Kd.R_lower ho0 (below_size (by repeat (first | (with_reducible first | exact HB.out | apply below_alloc | apply pw_below_drewN | apply below_drew1) | exact HB.out)))); have n1_ := Aside0.mk (below_step (by repeat (first | (with_reducible first | exact HB.out | apply below_alloc | apply pw_below_drewN | apply below_drew1) | exact HB.out)) hb); clear HB; have HO536 := n0_; have HB := n1_; clear n0_ n1_; (try clear hb); (try clear hb2); (try clear hk); (try clear hi); (try clear ho0)) | (go_at_call 32; (with_reducible refine (galloonref01_Palindrome.calls k t529 true _ A13.out).mono ?_); rintro e w' ⟨rfl, ⟨nd, rfl⟩⟩; obtain ⟨Ao35, co35, eo35⟩ := Kd.R_slice HO536.out; subst eo35; have p539 : 0 ≤ ((ji26) : Int) := of_decide_eq_true (by first | (with_reducible assumption) | assumption); have q539 : (ji26) < (t533.length : Int) := of_decide_eq_true (by first | (with_reducible assumption) | assumption); obtain ⟨ad539, e539, hx539_0⟩ := Kd.at_int (Kd.R_reads' HO536.out).2.2 (ji26) p539 q539; cases e539; replace p539 := eq_true p539; replace q539 := eq_true q539) | (go_at_call 20; (with_reducible refine (galloonlaw01_awake.calls k  t540 _ A30.out (Glob.at hg (by repeat (first | (with_reducible first | exact HB.out | apply below_alloc | apply pw_below_drewN | apply below_drew1) | exact HB.out)))).mono ?_); rintro e w36 ⟨rfl, hb⟩; have n0_ := Aside0.mk (Kd.R_below (by (with_reducible repeat (first | apply Kd.R_alloc | apply Kd.R_drewN | apply Kd.R_drew)); exact HO536.out) hb); have n1_ := Aside0.mk (below_step (by repeat (first | (with_reducible first | exact HB.out | apply below_alloc | apply pw_below_drewN | apply below_drew1) | exact HB.out)) hb); clear HO536; clear HB; have HO536 := n0_; have HB := n1_; clear n0_ n1_; (try clear hb); (try clear hb2); (try clear hk); (try clear hi)))
                              go_ret
                              exact ⟨by first | rfl | (simp [errW_none, errW_some] <;> rfl) | (simp only [← hji26]; first | rfl | (simp [errW_none, errW_some] <;> rfl)) | (simp [*, errW_none, errW_some] <;> rfl), by repeat (first | (with_reducible first | exact HB.out | apply below_alloc | apply pw_below_drewN | apply below_drew1) | exact HB.out)⟩
                            · rw [if_neg c29] at H
                              have c29b0 : ((t529.size : Int) == (wrap64 ((wrap64 (2 * (t528.size : Int))) - (rd t533 (ji26))))) = false := beq_eq_false_iff_ne.mpr c29
                              have c29b1 : ((t529.size : Int) != (wrap64 ((wrap64 (2 * (t528.size : Int))) - (rd t533 (ji26))))) = true := bne_iff_ne.mpr c29
                              obtain rfl := Option.some.inj H
                              exact absurd hr.out (by decide)
                          · rw [if_neg c28] at H
                            exact absurd H (by simp)
                        · rw [if_neg c27] at H
                          exact absurd H (by simp)
                    · rw [if_neg c16] at H
                      have c16b0 : ((t533.length : Int) == (t528.size : Int)) = false := beq_eq_false_iff_ne.mpr c16
                      have c16b1 : ((t533.length : Int) != (t528.size : Int)) = true := bne_iff_ne.mpr c16
                      have c16b2 : (t533.length == t528.size) = false := by first | simpa using c16 | (simp at c16 ⊢; omega)
                      obtain rfl := Option.some.inj H
                      exact absurd hr.out (by decide)
                · replace c14 := Bool.eq_false_iff.mpr c14
                  subst c14
                  have H1 : (some false) = some r := by rw [if_neg (show ¬ (false = true) by decide)] at H; exact H
                  clear H
                  have H := H1
                  clear H1
                  obtain rfl := Option.some.inj H
                  exact absurd hr.out (by decide)
              · rw [if_neg c12] at H
                have c12b0 : ((t529.extract 0 ((t528.size : Int) : Int).toNat).toList == t528.toList) = false := beq_eq_false_iff_ne.mpr c12
                have c12b1 : ((t529.extract 0 ((t528.size : Int) : Int).toNat).toList != t528.toList) = true := bne_iff_ne.mpr c12
                try simp only [Int.toNat_natCast] at c12b0 c12b1
                obtain rfl := Option.some.inj H
                exact absurd hr.out (by decide)
            · rw [if_neg c11] at H
              exact absurd H (by simp)
          · rw [if_neg c10] at H
            exact absurd H (by simp)
      · rw [if_neg c8] at H
        have c8b0 : (t534 == 0) = false := beq_eq_false_iff_ne.mpr c8
        have c8b1 : (t534 != 0) = true := bne_iff_ne.mpr c8
        obtain rfl := Option.some.inj H
        exact absurd hr.out (by decide)
    · rw [if_neg c7] at H
      have c7b0 : (t532 == 0) = false := beq_eq_false_iff_ne.mpr c7
      have c7b1 : (t532 != 0) = true := bne_iff_ne.mpr c7
      obtain rfl := Option.some.inj H
      exact absurd hr.out (by decide)
  · rw [if_neg c6] at H
    have c6b0 : (t530 == 0) = false := beq_eq_false_iff_ne.mpr c6
    have c6b1 : (t530 != 0) = true := bne_iff_ne.mpr c6
    obtain rfl := Option.some.inj H
    exact absurd hr.out (by decide)

/-- THE ONE PURE STATEMENT of galloonlaw01_TrimClosed: yours. -/
def galloonlaw01_TrimClosed.Pure : Prop := ∀ (a0 : ByteArray), a0.size ≤ 140737488351232 → ∃ k, galloonlaw01_TrimClosed.f k a0 = some true
theorem galloonlaw01_TrimClosed.walk (P : galloonlaw01_TrimClosed.Pure) (a0 : ByteArray) (w : World) (w0 : a0.size ≤ 140737488351232) (hg : Glob w) :
    Calls Try.prog 12 #[.string a0] w fun e w' => e = .returned (.bool true) ∧ Below w.heap.size w w' := by
  obtain ⟨k, h⟩ := P a0 w0
  refine (galloonlaw01_TrimClosed.calls k a0 true w h ⟨rfl⟩ hg).mono ?_
  rintro e w' ⟨rfl, hd⟩
  exact ⟨rfl, hd⟩

end Go.Proofs.Ytbdlhgdfnnbjiaa.PY
