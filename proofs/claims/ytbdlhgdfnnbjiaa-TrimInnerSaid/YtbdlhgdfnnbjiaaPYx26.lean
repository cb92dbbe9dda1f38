-- Made by the session's own driver (wip/tools/p2.py) out of the translation; Lean checks it.
import Derived.Test.YtbdlhgdfnnbjiaaPYx0
import Derived.Test.YtbdlhgdfnnbjiaaPYx1
import Derived.Test.YtbdlhgdfnnbjiaaPYx5
import Derived.Test.YtbdlhgdfnnbjiaaPYx10
import Derived.Test.YtbdlhgdfnnbjiaaPYx24
import Derived.Test.YtbdlhgdfnnbjiaaPYx25
import Derived.Test.YtbdlhgdfnnbjiaaGInner
import Derived.Test.YtbdlhgdfnnbjiaaGOuter
namespace Go.Proofs.Ytbdlhgdfnnbjiaa.PY
open Go.RowKit Go.Proofs.YtbdlhgdfnnbjiaaW.PrintWords Go.Proofs.YtbdlhgdfnnbjiaaW.PrintLast Go.Proofs.YtbdlhgdfnnbjiaaW.PrintMore
attribute [local go_sem] max2_int min2_int max_two min_two max_three min_three max_four min_four   -- for this text's walks alone
set_option linter.unusedVariables false
set_option linter.unusedSimpArgs false

/-! ### galloonlaw01_TrimInner: function 7 -/
def galloonlaw01_TrimInner.f (k : Nat) (a0 : ByteArray) : Option (Bool) := (galloonlaw01_short.f a0).bind fun t363 => ((trim_Inner.f k t363).bind fun bt364 => ((trim_Outer.f k t363).bind fun bt366 => ((galloonref01_Word.f k t363).bind fun t368 => (if t368 = true then ((galloonref01_Inner.f k t363).bind fun t370 => (if bt364.1.toList = t370.toList then (if bt364.2 = 0 then (if (bt366.1.size : Int) = (wrap64 ((wrap64 (2 * (t363.size : Int))) - (t370.size : Int))) then ((galloonref01_Palindrome.f k bt366.1).bind fun t371 => (if t371 = true then ((galloonref01_Within.f k t363 bt366.1).bind fun t372 => (if t372 = true then (if bt366.2 = 0 then ((galloonlaw01_awake.f k).bind fun t373 => (some t373)) else (some false)) else (some false))) else (some false))) else (some false)) else (some false)) else (some false))) else (if bt364.1.toList = ([] : List UInt8) then (if bt364.2 = 2 then (if bt366.1.toList = ([] : List UInt8) then (if bt366.2 = 2 then ((galloonlaw01_awake.f k).bind fun t369 => (some t369)) else (some false)) else (some false)) else (some false)) else (some false))))))
theorem galloonlaw01_TrimInner.mono : ∀ a0 k, LeO (galloonlaw01_TrimInner.f k a0) (galloonlaw01_TrimInner.f (k + 1) a0) := by
  intro a0 k
  unfold galloonlaw01_TrimInner.f
  repeat' first
      | (with_reducible exact galloonlaw01_awake.mono _)
      | (with_reducible exact galloonref01_Inner.mono _ _)
      | (with_reducible exact galloonref01_Palindrome.mono _ _)
      | (with_reducible exact galloonref01_Within.mono _ _ _)
      | (with_reducible exact galloonref01_Word.mono _ _)
      | (with_reducible exact trim_Inner.mono _ _)
      | (with_reducible exact trim_Outer.mono _ _)
      | (with_reducible exact LeO.refl _)
      | (with_reducible exact LeO.none _)
      | (with_reducible refine LeO.ite ?_ ?_)
      | (with_reducible refine LeO.bind ?_ (fun _ => ?_))
      | exact galloonlaw01_awake.mono _
      | exact galloonref01_Inner.mono _ _
      | exact galloonref01_Palindrome.mono _ _
      | exact galloonref01_Within.mono _ _ _
      | exact galloonref01_Word.mono _ _
      | exact trim_Inner.mono _ _
      | exact trim_Outer.mono _ _
      | exact LeO.none _
      | refine LeO.ite ?_ ?_
      | refine LeO.bind ?_ (fun _ => ?_)
set_option maxHeartbeats 8000000 in
set_option maxRecDepth 100000 in
theorem galloonlaw01_TrimInner.calls (k : Nat) (a0 : ByteArray) (r : Bool) (w : World) (h : galloonlaw01_TrimInner.f k a0 = some r) (hr : Aside0 (r = true)) (hg : Glob w) :
    Calls Try.prog 7 #[.string a0] w fun e w' => e = .returned (.bool r) ∧ Below w.heap.size w w' := by
  have HB := Aside0.mk (Below.refl w.heap.size w)
  have H : ((galloonlaw01_short.f a0).bind fun t363 => ((trim_Inner.f k t363).bind fun bt364 => ((trim_Outer.f k t363).bind fun bt366 => ((galloonref01_Word.f k t363).bind fun t368 => (if t368 = true then ((galloonref01_Inner.f k t363).bind fun t370 => (if bt364.1.toList = t370.toList then (if bt364.2 = 0 then (if (bt366.1.size : Int) = (wrap64 ((wrap64 (2 * (t363.size : Int))) - (t370.size : Int))) then ((galloonref01_Palindrome.f k bt366.1).bind fun t371 => (if t371 = true then ((galloonref01_Within.f k t363 bt366.1).bind fun t372 => (if t372 = true then (if bt366.2 = 0 then ((galloonlaw01_awake.f k).bind fun t373 => (some t373)) else (some false)) else (some false))) else (some false))) else (some false)) else (some false)) else (some false))) else (if bt364.1.toList = ([] : List UInt8) then (if bt364.2 = 2 then (if bt366.1.toList = ([] : List UInt8) then (if bt366.2 = 2 then ((galloonlaw01_awake.f k).bind fun t369 => (some t369)) else (some false)) else (some false)) else (some false)) else (some false))))))) = some r := h
  clear h
  replace H := Option.bind_eq_some_iff.mp H
  obtain ⟨t363, A20, H⟩ := H
  replace H : ((trim_Inner.f k t363).bind fun bt364 => ((trim_Outer.f k t363).bind fun bt366 => ((galloonref01_Word.f k t363).bind fun t368 => (if t368 = true then ((galloonref01_Inner.f k t363).bind fun t370 => (if bt364.1.toList = t370.toList then (if bt364.2 = 0 then (if (bt366.1.size : Int) = (wrap64 ((wrap64 (2 * (t363.size : Int))) - (t370.size : Int))) then ((galloonref01_Palindrome.f k bt366.1).bind fun t371 => (if t371 = true then ((galloonref01_Within.f k t363 bt366.1).bind fun t372 => (if t372 = true then (if bt366.2 = 0 then ((galloonlaw01_awake.f k).bind fun t373 => (some t373)) else (some false)) else (some false))) else (some false))) else (some false)) else (some false)) else (some false))) else (if bt364.1.toList = ([] : List UInt8) then (if bt364.2 = 2 then (if bt366.1.toList = ([] : List UInt8) then (if bt366.2 = 2 then ((galloonlaw01_awake.f k).bind fun t369 => (some t369)) else (some false)) else (some false)) else (some false)) else (some false)))))) = some r := H
  have A2 := Aside0.mk A20
  clear A20
  replace H := Option.bind_eq_some_iff.mp H
  obtain ⟨⟨t364, t365⟩, A30, H⟩ := H
  replace H : ((trim_Outer.f k t363).bind fun bt366 => ((galloonref01_Word.f k t363).bind fun t368 => (if t368 = true then ((galloonref01_Inner.f k t363).bind fun t370 => (if t364.toList = t370.toList then (if t365 = 0 then (if (bt366.1.size : Int) = (wrap64 ((wrap64 (2 * (t363.size : Int))) - (t370.size : Int))) then ((galloonref01_Palindrome.f k bt366.1).bind fun t371 => (if t371 = true then ((galloonref01_Within.f k t363 bt366.1).bind fun t372 => (if t372 = true then (if bt366.2 = 0 then ((galloonlaw01_awake.f k).bind fun t373 => (some t373)) else (some false)) else (some false))) else (some false))) else (some false)) else (some false)) else (some false))) else (if t364.toList = ([] : List UInt8) then (if t365 = 2 then (if bt366.1.toList = ([] : List UInt8) then (if bt366.2 = 2 then ((galloonlaw01_awake.f k).bind fun t369 => (some t369)) else (some false)) else (some false)) else (some false)) else (some false))))) = some r := H
  have A3 := Aside0.mk A30
  clear A30
  replace H := Option.bind_eq_some_iff.mp H
  obtain ⟨⟨t366, t367⟩, A40, H⟩ := H
  replace H : ((galloonref01_Word.f k t363).bind fun t368 => (if t368 = true then ((galloonref01_Inner.f k t363).bind fun t370 => (if t364.toList = t370.toList then (if t365 = 0 then (if (t366.size : Int) = (wrap64 ((wrap64 (2 * (t363.size : Int))) - (t370.size : Int))) then ((galloonref01_Palindrome.f k t366).bind fun t371 => (if t371 = true then ((galloonref01_Within.f k t363 t366).bind fun t372 => (if t372 = true then (if t367 = 0 then ((galloonlaw01_awake.f k).bind fun t373 => (some t373)) else (some false)) else (some false))) else (some false))) else (some false)) else (some false)) else (some false))) else (if t364.toList = ([] : List UInt8) then (if t365 = 2 then (if t366.toList = ([] : List UInt8) then (if t367 = 2 then ((galloonlaw01_awake.f k).bind fun t369 => (some t369)) else (some false)) else (some false)) else (some false)) else (some false)))) = some r := H
  have A4 := Aside0.mk A40
  clear A40
  replace H := Option.bind_eq_some_iff.mp H
  obtain ⟨t368, A50, H⟩ := H
  replace H : (if t368 = true then ((galloonref01_Inner.f k t363).bind fun t370 => (if t364.toList = t370.toList then (if t365 = 0 then (if (t366.size : Int) = (wrap64 ((wrap64 (2 * (t363.size : Int))) - (t370.size : Int))) then ((galloonref01_Palindrome.f k t366).bind fun t371 => (if t371 = true then ((galloonref01_Within.f k t363 t366).bind fun t372 => (if t372 = true then (if t367 = 0 then ((galloonlaw01_awake.f k).bind fun t373 => (some t373)) else (some false)) else (some false))) else (some false))) else (some false)) else (some false)) else (some false))) else (if t364.toList = ([] : List UInt8) then (if t365 = 2 then (if t366.toList = ([] : List UInt8) then (if t367 = 2 then ((galloonlaw01_awake.f k).bind fun t369 => (some t369)) else (some false)) else (some false)) else (some false)) else (some false))) = some r := H
  have A5 := Aside0.mk A50
  clear A50
  by_cases c6 : t368 = true
  · subst c6
    have H1 : ((galloonref01_Inner.f k t363).bind fun t370 => (if t364.toList = t370.toList then (if t365 = 0 then (if (t366.size : Int) = (wrap64 ((wrap64 (2 * (t363.size : Int))) - (t370.size : Int))) then ((galloonref01_Palindrome.f k t366).bind fun t371 => (if t371 = true then ((galloonref01_Within.f k t363 t366).bind fun t372 => (if t372 = true then (if t367 = 0 then ((galloonlaw01_awake.f k).bind fun t373 => (some t373)) else (some false)) else (some false))) else (some false))) else (some false)) else (some false)) else (some false))) = some r := by rw [if_pos rfl] at H; exact H
    clear H
    have H := H1
    clear H1
    replace H := Option.bind_eq_some_iff.mp H
    obtain ⟨t370, A70, H⟩ := H
    replace H : (if t364.toList = t370.toList then (if t365 = 0 then (if (t366.size : Int) = (wrap64 ((wrap64 (2 * (t363.size : Int))) - (t370.size : Int))) then ((galloonref01_Palindrome.f k t366).bind fun t371 => (if t371 = true then ((galloonref01_Within.f k t363 t366).bind fun t372 => (if t372 = true then (if t367 = 0 then ((galloonlaw01_awake.f k).bind fun t373 => (some t373)) else (some false)) else (some false))) else (some false))) else (some false)) else (some false)) else (some false)) = some r := H
    have A7 := Aside0.mk A70
    clear A70
    by_cases c8 : t364.toList = t370.toList
    · rw [if_pos c8] at H
      have c8b0 : (t364.toList == t370.toList) = true := beq_iff_eq.mpr c8
      have c8b1 : (t364.toList != t370.toList) = false := bne_eq_false_iff_eq.mpr c8
      clear c8
      by_cases c9 : t365 = 0
      · rw [if_pos c9] at H
        have c9b0 : (t365 == 0) = true := beq_iff_eq.mpr c9
        have c9b1 : (t365 != 0) = false := bne_eq_false_iff_eq.mpr c9
        clear c9
        by_cases c10 : (t366.size : Int) = (wrap64 ((wrap64 (2 * (t363.size : Int))) - (t370.size : Int)))
        · rw [if_pos c10] at H
          have c10b0 : ((t366.size : Int) == (wrap64 ((wrap64 (2 * (t363.size : Int))) - (t370.size : Int)))) = true := beq_iff_eq.mpr c10
          have c10b1 : ((t366.size : Int) != (wrap64 ((wrap64 (2 * (t363.size : Int))) - (t370.size : Int)))) = false := bne_eq_false_iff_eq.mpr c10
          clear c10
          replace H := Option.bind_eq_some_iff.mp H
          obtain ⟨t371, A110, H⟩ := H
          replace H : (if t371 = true then ((galloonref01_Within.f k t363 t366).bind fun t372 => (if t372 = true then (if t367 = 0 then ((galloonlaw01_awake.f k).bind fun t373 => (some t373)) else (some false)) else (some false))) else (some false)) = some r := H
          have A11 := Aside0.mk A110
          clear A110
          by_cases c12 : t371 = true
          · subst c12
            have H1 : ((galloonref01_Within.f k t363 t366).bind fun t372 => (if t372 = true then (if t367 = 0 then ((galloonlaw01_awake.f k).bind fun t373 => (some t373)) else (some false)) else (some false))) = some r := by rw [if_pos rfl] at H; exact H
            clear H
            have H := H1
            clear H1
            replace H := Option.bind_eq_some_iff.mp H
            obtain ⟨t372, A130, H⟩ := H
            replace H : (if t372 = true then (if t367 = 0 then ((galloonlaw01_awake.f k).bind fun t373 => (some t373)) else (some false)) else (some false)) = some r := H
            have A13 := Aside0.mk A130
            clear A130
            by_cases c14 : t372 = true
            · subst c14
              have H1 : (if t367 = 0 then ((galloonlaw01_awake.f k).bind fun t373 => (some t373)) else (some false)) = some r := by rw [if_pos rfl] at H; exact H
              clear H
              have H := H1
              clear H1
              by_cases c15 : t367 = 0
              · rw [if_pos c15] at H
                have c15b0 : (t367 == 0) = true := beq_iff_eq.mpr c15
                have c15b1 : (t367 != 0) = false := bne_eq_false_iff_eq.mpr c15
                clear c15
                replace H := Option.bind_eq_some_iff.mp H
                obtain ⟨t373, A160, H⟩ := H
                replace H : (some t373) = some r := H
                have A16 := Aside0.mk A160
                clear A160
                obtain rfl := Option.some.inj H
                go_enter Try.func7, Try.ntmps7
                go_wp2_with (first | ((with_reducible refine gate_callee (f := 16) rfl ?_); refine goesL_ (some 10) rfl rfl Try.func16 (by kernel_rfl) rfl #[.string a0] rfl (by (try simp only [List.map_toArray, List.map_cons, List.map_nil]); first | done | rfl | (simp only [List.length_drop, List.length_take]; rfl)) ?_; (with_reducible refine (galloonlaw01_short.calls a0 t363 _ A2.out).mono ?_); rintro e w17 ⟨rfl, hb⟩; refine ⟨_, rfl, ?_⟩; have n0_ := Aside0.mk (below_step (by repeat (first | (with_reducible first | exact HB.out | apply below_alloc | apply pw_below_drewN | apply below_drew1) | exact HB.out)) hb); clear HB; have HB := n0_; clear n0_; (try clear hb); (try clear hb2); (try clear hk); (try clear hi)) | ((with_reducible refine gate_callee (f := 42) rfl ?_); refine goesL_ (some 13) rfl rfl Try.func42 (by kernel_rfl) rfl #[.string t363] rfl (by (try simp only [List.map_toArray, List.map_cons, List.map_nil]); first | done | rfl | (simp only [List.length_drop, List.length_take]; rfl)) ?_; (with_reducible refine (trim_Inner.calls k t363 t364 t365 _ A3.out).mono ?_); rintro e w18 ⟨rfl, hb⟩; refine ⟨_, rfl, ?_⟩; have n0_ := Aside0.mk (below_step (by repeat (first | (with_reducible first | exact HB.out | apply below_alloc | apply pw_below_drewN | apply below_drew1) | exact HB.out)) hb); clear HB; have HB := n0_; clear n0_; (try clear hb); (try clear hb2); (try clear hk); (try clear hi)) | ((with_reducible refine gate_callee (f := 43) rfl ?_); refine goesL_ (some 18) rfl rfl Try.func43 (by kernel_rfl) rfl #[.string t363] rfl (by (try simp only [List.map_toArray, List.map_cons, List.map_nil]); first | done | rfl | (simp only [List.length_drop, List.length_take]; rfl)) ?_; (with_reducible refine (trim_Outer.calls k t363 t366 t367 _ A4.out).mono ?_); rintro e w19 ⟨rfl, hb⟩; refine ⟨_, rfl, ?_⟩; have n0_ := Aside0.mk (below_step (by repeat (first | (with_reducible first | exact HB.out | apply below_alloc | apply pw_below_drewN | apply below_drew1) | exact HB.out)) hb); clear HB; have HB := n0_; clear n0_; (try clear hb); (try clear hb2); (try clear hk); (try clear hi)) | ((with_reducible refine gate_callee (f := 19) rfl ?_); refine goesL_ (some 22) rfl rfl Try.func19 (by kernel_rfl) rfl #[.string t363] rfl (by (try simp only [List.map_toArray, List.map_cons, List.map_nil]); first | done | rfl | (simp only [List.length_drop, List.length_take]; rfl)) ?_; (with_reducible refine (galloonref01_Word.calls k t363 true _ A5.out).mono ?_); rintro e w' ⟨rfl, ⟨nd, rfl⟩⟩; refine ⟨_, rfl, ?_⟩) | ((with_reducible refine gate_callee (f := 44) rfl ?_); refine goesL_ (some 42) rfl rfl Try.func44 (by kernel_rfl) rfl #[.string t363] rfl (by (try simp only [List.map_toArray, List.map_cons, List.map_nil]); first | done | rfl | (simp only [List.length_drop, List.length_take]; rfl)) ?_; (with_reducible refine (galloonref01_Inner.calls k t363 t370 _ A7.out).mono ?_); rintro e w20 ⟨rfl, hb⟩; refine ⟨_, rfl, ?_⟩; have n0_ := Aside0.mk (below_step (by repeat (first | (with_reducible first | exact HB.out | apply below_alloc | apply pw_below_drewN | apply below_drew1) | exact HB.out)) hb); clear HB; have HB := n0_; clear n0_; (try clear hb); (try clear hb2); (try clear hk); (try clear hi)) | (go_at_call 32; (with_reducible refine (galloonref01_Palindrome.calls k t366 true _ A11.out).mono ?_); rintro e w' ⟨rfl, ⟨nd, rfl⟩⟩) | (go_at_call 45; (with_reducible refine (galloonref01_Within.calls k t363 t366 true _ A13.out).mono ?_); rintro e w' ⟨rfl, ⟨nd, rfl⟩⟩) | (go_at_call 20; (with_reducible refine (galloonlaw01_awake.calls k  t373 _ A16.out (Glob.at hg (by repeat (first | (with_reducible first | exact HB.out | apply below_alloc | apply pw_below_drewN | apply below_drew1) | exact HB.out)))).mono ?_); rintro e w21 ⟨rfl, hb⟩; have n0_ := Aside0.mk (below_step (by repeat (first | (with_reducible first | exact HB.out | apply below_alloc | apply pw_below_drewN | apply below_drew1) | exact HB.out)) hb); clear HB; have HB := n0_; clear n0_; (try clear hb); (try clear hb2); (try clear hk); (try clear hi)))
                go_ret
                exact ⟨by first | rfl | (simp [errW_none, errW_some] <;> rfl) | (simp [*, errW_none, errW_some] <;> rfl), by repeat (first | (with_reducible first | exact HB.out | apply below_alloc | apply pw_below_drewN | apply below_drew1) | exact HB.out)⟩
              · rw [if_neg c15] at H
                have c15b0 : (t367 == 0) = false := beq_eq_false_iff_ne.mpr c15
                have c15b1 : (t367 != 0) = true := bne_iff_ne.mpr c15
                obtain rfl := Option.some.inj H
                exact absurd hr.out (by decide)
            · replace c14 := Bool.eq_false_iff.mpr c14
              subst c14
              have H1 : (some false) = some r := by rw [if_neg (show ¬ (false = true) by decide)] at H; exact H
              clear H
              have H := H1
              clear H1
              obtain rfl := Option.some.inj H
              exact absurd hr.out (by decide)
          · replace c12 := Bool.eq_false_iff.mpr c12
            subst c12
            have H1 : (some false) = some r := by rw [if_neg (show ¬ (false = true) by decide)] at H; exact H
            clear H
            have H := H1
            clear H1
            obtain rfl := Option.some.inj H
            exact absurd hr.out (by decide)
        · rw [if_neg c10] at H
          have c10b0 : ((t366.size : Int) == (wrap64 ((wrap64 (2 * (t363.size : Int))) - (t370.size : Int)))) = false := beq_eq_false_iff_ne.mpr c10
          have c10b1 : ((t366.size : Int) != (wrap64 ((wrap64 (2 * (t363.size : Int))) - (t370.size : Int)))) = true := bne_iff_ne.mpr c10
          obtain rfl := Option.some.inj H
          exact absurd hr.out (by decide)
      · rw [if_neg c9] at H
        have c9b0 : (t365 == 0) = false := beq_eq_false_iff_ne.mpr c9
        have c9b1 : (t365 != 0) = true := bne_iff_ne.mpr c9
        obtain rfl := Option.some.inj H
        exact absurd hr.out (by decide)
    · rw [if_neg c8] at H
      have c8b0 : (t364.toList == t370.toList) = false := beq_eq_false_iff_ne.mpr c8
      have c8b1 : (t364.toList != t370.toList) = true := bne_iff_ne.mpr c8
      obtain rfl := Option.some.inj H
      exact absurd hr.out (by decide)
  · replace c6 := Bool.eq_false_iff.mpr c6
    subst c6
    have H1 : (if t364.toList = ([] : List UInt8) then (if t365 = 2 then (if t366.toList = ([] : List UInt8) then (if t367 = 2 then ((galloonlaw01_awake.f k).bind fun t369 => (some t369)) else (some false)) else (some false)) else (some false)) else (some false)) = some r := by rw [if_neg (show ¬ (false = true) by decide)] at H; exact H
    clear H
    have H := H1
    clear H1
    by_cases c22 : t364.toList = ([] : List UInt8)
    · rw [if_pos c22] at H
      have c22b0 : (t364.toList == ([] : List UInt8)) = true := beq_iff_eq.mpr c22
      have c22b1 : (t364.toList != ([] : List UInt8)) = false := bne_eq_false_iff_eq.mpr c22
      clear c22
      by_cases c23 : t365 = 2
      · rw [if_pos c23] at H
        have c23b0 : (t365 == 2) = true := beq_iff_eq.mpr c23
        have c23b1 : (t365 != 2) = false := bne_eq_false_iff_eq.mpr c23
        clear c23
        by_cases c24 : t366.toList = ([] : List UInt8)
        · rw [if_pos c24] at H
          have c24b0 : (t366.toList == ([] : List UInt8)) = true := beq_iff_eq.mpr c24
          have c24b1 : (t366.toList != ([] : List UInt8)) = false := bne_eq_false_iff_eq.mpr c24
          clear c24
          by_cases c25 : t367 = 2
          · rw [if_pos c25] at H
            have c25b0 : (t367 == 2) = true := beq_iff_eq.mpr c25
            have c25b1 : (t367 != 2) = false := bne_eq_false_iff_eq.mpr c25
            clear c25
            replace H := Option.bind_eq_some_iff.mp H
            obtain ⟨t369, A260, H⟩ := H
            replace H : (some t369) = some r := H
            have A26 := Aside0.mk A260
            clear A260
            obtain rfl := Option.some.inj H
            go_enter Try.func7, Try.ntmps7
            go_wp2_with (first | ((with_reducible refine gate_callee (f := 16) rfl ?_); refine goesL_ (some 10) rfl rfl Try.func16 (by kernel_rfl) rfl #[.string a0] rfl (by (try simp only [List.map_toArray, List.map_cons, List.map_nil]); first | done | rfl | (simp only [List.length_drop, List.length_take]; rfl)) ?_; (with_reducible refine (galloonlaw01_short.calls a0 t363 _ A2.out).mono ?_); rintro e w27 ⟨rfl, hb⟩; refine ⟨_, rfl, ?_⟩; have n0_ := Aside0.mk (below_step (by repeat (first | (with_reducible first | exact HB.out | apply below_alloc | apply pw_below_drewN | apply below_drew1) | exact HB.out)) hb); clear HB; have HB := n0_; clear n0_; (try clear hb); (try clear hb2); (try clear hk); (try clear hi)) | ((with_reducible refine gate_callee (f := 42) rfl ?_); refine goesL_ (some 13) rfl rfl Try.func42 (by kernel_rfl) rfl #[.string t363] rfl (by (try simp only [List.map_toArray, List.map_cons, List.map_nil]); first | done | rfl | (simp only [List.length_drop, List.length_take]; rfl)) ?_; (with_reducible refine (trim_Inner.calls k t363 t364 t365 _ A3.out).mono ?_); rintro e w28 ⟨rfl, hb⟩; refine ⟨_, rfl, ?_⟩; have n0_ := Aside0.mk (below_step (by repeat (first | (with_reducible first | exact HB.out | apply below_alloc | apply pw_below_drewN | apply below_drew1) | exact HB.out)) hb); clear HB; have HB := n0_; clear n0_; (try clear hb); (try clear hb2); (try clear hk); (try clear hi)) | ((with_reducible refine gate_callee (f := 43) rfl ?_); refine goesL_ (some 18) rfl rfl Try.func43 (by kernel_rfl) rfl #[.string t363] rfl (by (try simp only [List.map_toArray, List.map_cons, List.map_nil]); first | done | rfl | (simp only [List.length_drop, List.length_take]; rfl)) ?_; (with_reducible refine (trim_Outer.calls k t363 t366 t367 _ A4.out).mono ?_); rintro e w29 ⟨rfl, hb⟩; refine ⟨_, rfl, ?_⟩; have n0_ := Aside0.mk (below_step (by repeat (first | (with_reducible first | exact HB.out | apply below_alloc | apply pw_below_drewN | apply below_drew1) | exact HB.out)) hb); clear HB; have HB := n0_; clear n0_; (try clear hb); (try clear hb2); (try clear hk); (try clear hi)) | ((with_reducible refine gate_callee (f := 19) rfl ?_); refine goesL_ (some 22) rfl rfl Try.func19 (by kernel_rfl) rfl #[.string t363] rfl (by (try simp only [List.map_toArray, List.map_cons, List.map_nil]); first | done | rfl | (simp only [List.length_drop, List.length_take]; rfl)) ?_; (with_reducible refine (galloonref01_Word.calls k t363 false _ A5.out).mono ?_); rintro e w' ⟨rfl, ⟨nd, rfl⟩⟩; refine ⟨_, rfl, ?_⟩) | (go_at_call 20; (with_reducible refine (galloonlaw01_awake.calls k  t369 _ A26.out (Glob.at hg (by repeat (first | (with_reducible first | exact HB.out | apply below_alloc | apply pw_below_drewN | apply below_drew1) | exact HB.out)))).mono ?_); rintro e w30 ⟨rfl, hb⟩; have n0_ := Aside0.mk (below_step (by repeat (first | (with_reducible first | exact HB.out | apply below_alloc | apply pw_below_drewN | apply below_drew1) | exact HB.out)) hb); clear HB; have HB := n0_; clear n0_; (try clear hb); (try clear hb2); (try clear hk); (try clear hi)))
            go_ret
            exact ⟨by first | rfl | (simp [errW_none, errW_some] <;> rfl) | (simp [*, errW_none, errW_some] <;> rfl), by repeat (first | (with_reducible first | exact HB.out | apply below_alloc | apply pw_below_drewN | apply below_drew1) | exact HB.out)⟩
          · rw [if_neg c25] at H
            have c25b0 : (t367 == 2) = false := beq_eq_false_iff_ne.mpr c25
            have c25b1 : (t367 != 2) = true := bne_iff_ne.mpr c25
            obtain rfl := Option.some.inj H
            exact absurd hr.out (by decide)
        · rw [if_neg c24] at H
          have c24b0 : (t366.toList == ([] : List UInt8)) = false := beq_eq_false_iff_ne.mpr c24
          have c24b1 : (t366.toList != ([] : List UInt8)) = true := bne_iff_ne.mpr c24
          obtain rfl := Option.some.inj H
          exact absurd hr.out (by decide)
      · rw [if_neg c23] at H
        have c23b0 : (t365 == 2) = false := beq_eq_false_iff_ne.mpr c23
        have c23b1 : (t365 != 2) = true := bne_iff_ne.mpr c23
        obtain rfl := Option.some.inj H
        exact absurd hr.out (by decide)
    · rw [if_neg c22] at H
      have c22b0 : (t364.toList == ([] : List UInt8)) = false := beq_eq_false_iff_ne.mpr c22
      have c22b1 : (t364.toList != ([] : List UInt8)) = true := bne_iff_ne.mpr c22
      obtain rfl := Option.some.inj H
      exact absurd hr.out (by decide)

/-- THE ONE PURE STATEMENT of galloonlaw01_TrimInner: yours. -/
def galloonlaw01_TrimInner.Pure : Prop := ∀ (a0 : ByteArray), a0.size ≤ 140737488351232 → ∃ k, galloonlaw01_TrimInner.f k a0 = some true
theorem galloonlaw01_TrimInner.walk (P : galloonlaw01_TrimInner.Pure) (a0 : ByteArray) (w : World) (w0 : a0.size ≤ 140737488351232) (hg : Glob w) :
    Calls Try.prog 7 #[.string a0] w fun e w' => e = .returned (.bool true) ∧ Below w.heap.size w w' := by
  obtain ⟨k, h⟩ := P a0 w0
  refine (galloonlaw01_TrimInner.calls k a0 true w h ⟨rfl⟩ hg).mono ?_
  rintro e w' ⟨rfl, hd⟩
  exact ⟨rfl, hd⟩

end Go.Proofs.Ytbdlhgdfnnbjiaa.PY
