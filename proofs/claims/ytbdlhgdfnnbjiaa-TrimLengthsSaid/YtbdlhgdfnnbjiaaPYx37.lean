-- Made by the session's own driver (wip/tools/p2.py) out of the translation; Lean checks it.
import Derived.Test.YtbdlhgdfnnbjiaaPYx0
import Derived.Test.YtbdlhgdfnnbjiaaPYx10
import Derived.Test.YtbdlhgdfnnbjiaaPYx13
import Derived.Test.YtbdlhgdfnnbjiaaPYx16
import Derived.Test.YtbdlhgdfnnbjiaaPYx25
import Derived.Test.YtbdlhgdfnnbjiaaGInner
import Derived.Test.YtbdlhgdfnnbjiaaGLongest
import Derived.Test.YtbdlhgdfnnbjiaaGOuter
namespace Go.Proofs.Ytbdlhgdfnnbjiaa.PY
open Go.RowKit Go.Proofs.YtbdlhgdfnnbjiaaW.PrintWords Go.Proofs.YtbdlhgdfnnbjiaaW.PrintLast Go.Proofs.YtbdlhgdfnnbjiaaW.PrintMore
attribute [local go_sem] max2_int min2_int max_two min_two max_three min_three max_four min_four   -- for this text's walks alone
set_option linter.unusedVariables false
set_option linter.unusedSimpArgs false

/-! ### galloonlaw01_TrimLengths: function 13 -/
def galloonlaw01_TrimLengths.j0 : Nat → ByteArray → Bool → Option (Bool)
  | 0, _, _ => none
  | k + 1, x4, x81 => if x81 = true then (some false) else ((trim_Inner.f k x4).bind fun bt553 => ((trim_Closure.f k x4).bind fun bt555 => (if bt553.2 = 0 then (if bt553.1.toList = x4.toList then (if bt555.2 = 0 then (if bt555.1.toList = x4.toList then ((galloonlaw01_awake.f k).bind fun t557 => (some t557)) else (some false)) else (some false)) else (some false)) else (some false))))
def galloonlaw01_TrimLengths.f (k : Nat) (a0 : ByteArray) : Option (Bool) := (galloonlaw01_tame.f k a0 80).bind fun t541 => ((trim_Inner.f k t541).bind fun bt542 => ((trim_Outer.f k t541).bind fun bt544 => ((trim_Longest.f t541).bind fun bt546 => (if bt542.2 = 0 then (if bt544.2 = 0 then (if bt546.2.2 = 0 then (if (wrap64 ((bt542.1.size : Int) + (bt544.1.size : Int))) = (wrap64 (2 * (t541.size : Int))) then ((galloonref01_Palindrome.f k bt542.1).bind fun t549 => (if t549 = true then ((galloonref01_Within.f k bt542.1 t541).bind fun t550 => (if t550 = true then ((galloonref01_Palindrome.f k bt544.1).bind fun t551 => (if t551 = true then ((galloonref01_Within.f k t541 bt544.1).bind fun t552 => (if t552 = true then (galloonlaw01_TrimLengths.j0 k bt542.1 (decide ((bt542.1.size : Int) < bt546.2.1))) else (galloonlaw01_TrimLengths.j0 k bt542.1 true))) else (galloonlaw01_TrimLengths.j0 k bt542.1 true))) else (galloonlaw01_TrimLengths.j0 k bt542.1 true))) else (galloonlaw01_TrimLengths.j0 k bt542.1 true))) else (galloonlaw01_TrimLengths.j0 k bt542.1 true)) else (galloonlaw01_TrimLengths.j0 k bt542.1 true)) else (galloonlaw01_TrimLengths.j0 k bt542.1 true)) else (galloonlaw01_TrimLengths.j0 k bt542.1 true)))))
theorem galloonlaw01_TrimLengths.mono_l : ∀ k, (∀ y0 y1, LeO (galloonlaw01_TrimLengths.j0 k y0 y1) (galloonlaw01_TrimLengths.j0 (k + 1) y0 y1))
  | 0 => fun _ _ r h => by simp [galloonlaw01_TrimLengths.j0] at h
  | k + 1 => by
    have ih0 := galloonlaw01_TrimLengths.mono_l k
    · intro y0 y1
      unfold galloonlaw01_TrimLengths.j0
      repeat' first
      | (with_reducible exact ih0 _ _)
      | (with_reducible exact galloonlaw01_awake.mono _)
      | (with_reducible exact galloonlaw01_tame.mono _ _ _)
      | (with_reducible exact galloonref01_Palindrome.mono _ _)
      | (with_reducible exact galloonref01_Within.mono _ _ _)
      | (with_reducible exact trim_Closure.mono _ _)
      | (with_reducible exact trim_Inner.mono _ _)
      | (with_reducible exact trim_Outer.mono _ _)
      | (with_reducible exact LeO.refl _)
      | (with_reducible exact LeO.none _)
      | (with_reducible refine LeO.ite ?_ ?_)
      | (with_reducible refine LeO.bind ?_ (fun _ => ?_))
      | exact ih0 _ _
      | exact galloonlaw01_awake.mono _
      | exact galloonlaw01_tame.mono _ _ _
      | exact galloonref01_Palindrome.mono _ _
      | exact galloonref01_Within.mono _ _ _
      | exact trim_Closure.mono _ _
      | exact trim_Inner.mono _ _
      | exact trim_Outer.mono _ _
      | exact LeO.none _
      | refine LeO.ite ?_ ?_
      | refine LeO.bind ?_ (fun _ => ?_)
theorem galloonlaw01_TrimLengths.mono : ∀ a0 k, LeO (galloonlaw01_TrimLengths.f k a0) (galloonlaw01_TrimLengths.f (k + 1) a0) := by
  intro a0 k
  have ih0 := galloonlaw01_TrimLengths.mono_l k
  unfold galloonlaw01_TrimLengths.f
  repeat' first
      | (with_reducible exact ih0 _ _)
      | (with_reducible exact galloonlaw01_awake.mono _)
      | (with_reducible exact galloonlaw01_tame.mono _ _ _)
      | (with_reducible exact galloonref01_Palindrome.mono _ _)
      | (with_reducible exact galloonref01_Within.mono _ _ _)
      | (with_reducible exact trim_Closure.mono _ _)
      | (with_reducible exact trim_Inner.mono _ _)
      | (with_reducible exact trim_Outer.mono _ _)
      | (with_reducible exact LeO.refl _)
      | (with_reducible exact LeO.none _)
      | (with_reducible refine LeO.ite ?_ ?_)
      | (with_reducible refine LeO.bind ?_ (fun _ => ?_))
      | exact ih0 _ _
      | exact galloonlaw01_awake.mono _
      | exact galloonlaw01_tame.mono _ _ _
      | exact galloonref01_Palindrome.mono _ _
      | exact galloonref01_Within.mono _ _ _
      | exact trim_Closure.mono _ _
      | exact trim_Inner.mono _ _
      | exact trim_Outer.mono _ _
      | exact LeO.none _
      | refine LeO.ite ?_ ?_
      | refine LeO.bind ?_ (fun _ => ?_)
set_option maxHeartbeats 8000000 in
set_option maxRecDepth 100000 in
theorem galloonlaw01_TrimLengths.calls (k : Nat) (a0 : ByteArray) (r : Bool) (w : World) (h : galloonlaw01_TrimLengths.f k a0 = some r) (hr : Aside0 (r = true)) (hg : Glob w) :
    Calls Try.prog 13 #[.string a0] w fun e w' => e = .returned (.bool r) ∧ Below w.heap.size w w' := by
  have HB := Aside0.mk (Below.refl w.heap.size w)
  have H : ((galloonlaw01_tame.f k a0 80).bind fun t541 => ((trim_Inner.f k t541).bind fun bt542 => ((trim_Outer.f k t541).bind fun bt544 => ((trim_Longest.f t541).bind fun bt546 => (if bt542.2 = 0 then (if bt544.2 = 0 then (if bt546.2.2 = 0 then (if (wrap64 ((bt542.1.size : Int) + (bt544.1.size : Int))) = (wrap64 (2 * (t541.size : Int))) then ((galloonref01_Palindrome.f k bt542.1).bind fun t549 => (if t549 = true then ((galloonref01_Within.f k bt542.1 t541).bind fun t550 => (if t550 = true then ((galloonref01_Palindrome.f k bt544.1).bind fun t551 => (if t551 = true then ((galloonref01_Within.f k t541 bt544.1).bind fun t552 => (if t552 = true then (galloonlaw01_TrimLengths.j0 k bt542.1 (decide ((bt542.1.size : Int) < bt546.2.1))) else (galloonlaw01_TrimLengths.j0 k bt542.1 true))) else (galloonlaw01_TrimLengths.j0 k bt542.1 true))) else (galloonlaw01_TrimLengths.j0 k bt542.1 true))) else (galloonlaw01_TrimLengths.j0 k bt542.1 true))) else (galloonlaw01_TrimLengths.j0 k bt542.1 true)) else (galloonlaw01_TrimLengths.j0 k bt542.1 true)) else (galloonlaw01_TrimLengths.j0 k bt542.1 true)) else (galloonlaw01_TrimLengths.j0 k bt542.1 true)))))) = some r := h
  clear h
  replace H := Option.bind_eq_some_iff.mp H
  obtain ⟨t541, A20, H⟩ := H
  replace H : ((trim_Inner.f k t541).bind fun bt542 => ((trim_Outer.f k t541).bind fun bt544 => ((trim_Longest.f t541).bind fun bt546 => (if bt542.2 = 0 then (if bt544.2 = 0 then (if bt546.2.2 = 0 then (if (wrap64 ((bt542.1.size : Int) + (bt544.1.size : Int))) = (wrap64 (2 * (t541.size : Int))) then ((galloonref01_Palindrome.f k bt542.1).bind fun t549 => (if t549 = true then ((galloonref01_Within.f k bt542.1 t541).bind fun t550 => (if t550 = true then ((galloonref01_Palindrome.f k bt544.1).bind fun t551 => (if t551 = true then ((galloonref01_Within.f k t541 bt544.1).bind fun t552 => (if t552 = true then (galloonlaw01_TrimLengths.j0 k bt542.1 (decide ((bt542.1.size : Int) < bt546.2.1))) else (galloonlaw01_TrimLengths.j0 k bt542.1 true))) else (galloonlaw01_TrimLengths.j0 k bt542.1 true))) else (galloonlaw01_TrimLengths.j0 k bt542.1 true))) else (galloonlaw01_TrimLengths.j0 k bt542.1 true))) else (galloonlaw01_TrimLengths.j0 k bt542.1 true)) else (galloonlaw01_TrimLengths.j0 k bt542.1 true)) else (galloonlaw01_TrimLengths.j0 k bt542.1 true)) else (galloonlaw01_TrimLengths.j0 k bt542.1 true))))) = some r := H
  have A2 := Aside0.mk A20
  clear A20
  replace H := Option.bind_eq_some_iff.mp H
  obtain ⟨⟨t542, t543⟩, A30, H⟩ := H
  replace H : ((trim_Outer.f k t541).bind fun bt544 => ((trim_Longest.f t541).bind fun bt546 => (if t543 = 0 then (if bt544.2 = 0 then (if bt546.2.2 = 0 then (if (wrap64 ((t542.size : Int) + (bt544.1.size : Int))) = (wrap64 (2 * (t541.size : Int))) then ((galloonref01_Palindrome.f k t542).bind fun t549 => (if t549 = true then ((galloonref01_Within.f k t542 t541).bind fun t550 => (if t550 = true then ((galloonref01_Palindrome.f k bt544.1).bind fun t551 => (if t551 = true then ((galloonref01_Within.f k t541 bt544.1).bind fun t552 => (if t552 = true then (galloonlaw01_TrimLengths.j0 k t542 (decide ((t542.size : Int) < bt546.2.1))) else (galloonlaw01_TrimLengths.j0 k t542 true))) else (galloonlaw01_TrimLengths.j0 k t542 true))) else (galloonlaw01_TrimLengths.j0 k t542 true))) else (galloonlaw01_TrimLengths.j0 k t542 true))) else (galloonlaw01_TrimLengths.j0 k t542 true)) else (galloonlaw01_TrimLengths.j0 k t542 true)) else (galloonlaw01_TrimLengths.j0 k t542 true)) else (galloonlaw01_TrimLengths.j0 k t542 true)))) = some r := H
  have A3 := Aside0.mk A30
  clear A30
  replace H := Option.bind_eq_some_iff.mp H
  obtain ⟨⟨t544, t545⟩, A40, H⟩ := H
  replace H : ((trim_Longest.f t541).bind fun bt546 => (if t543 = 0 then (if t545 = 0 then (if bt546.2.2 = 0 then (if (wrap64 ((t542.size : Int) + (t544.size : Int))) = (wrap64 (2 * (t541.size : Int))) then ((galloonref01_Palindrome.f k t542).bind fun t549 => (if t549 = true then ((galloonref01_Within.f k t542 t541).bind fun t550 => (if t550 = true then ((galloonref01_Palindrome.f k t544).bind fun t551 => (if t551 = true then ((galloonref01_Within.f k t541 t544).bind fun t552 => (if t552 = true then (galloonlaw01_TrimLengths.j0 k t542 (decide ((t542.size : Int) < bt546.2.1))) else (galloonlaw01_TrimLengths.j0 k t542 true))) else (galloonlaw01_TrimLengths.j0 k t542 true))) else (galloonlaw01_TrimLengths.j0 k t542 true))) else (galloonlaw01_TrimLengths.j0 k t542 true))) else (galloonlaw01_TrimLengths.j0 k t542 true)) else (galloonlaw01_TrimLengths.j0 k t542 true)) else (galloonlaw01_TrimLengths.j0 k t542 true)) else (galloonlaw01_TrimLengths.j0 k t542 true))) = some r := H
  have A4 := Aside0.mk A40
  clear A40
  replace H := Option.bind_eq_some_iff.mp H
  obtain ⟨⟨t546, t547, t548⟩, A50, H⟩ := H
  replace H : (if t543 = 0 then (if t545 = 0 then (if t548 = 0 then (if (wrap64 ((t542.size : Int) + (t544.size : Int))) = (wrap64 (2 * (t541.size : Int))) then ((galloonref01_Palindrome.f k t542).bind fun t549 => (if t549 = true then ((galloonref01_Within.f k t542 t541).bind fun t550 => (if t550 = true then ((galloonref01_Palindrome.f k t544).bind fun t551 => (if t551 = true then ((galloonref01_Within.f k t541 t544).bind fun t552 => (if t552 = true then (galloonlaw01_TrimLengths.j0 k t542 (decide ((t542.size : Int) < t547))) else (galloonlaw01_TrimLengths.j0 k t542 true))) else (galloonlaw01_TrimLengths.j0 k t542 true))) else (galloonlaw01_TrimLengths.j0 k t542 true))) else (galloonlaw01_TrimLengths.j0 k t542 true))) else (galloonlaw01_TrimLengths.j0 k t542 true)) else (galloonlaw01_TrimLengths.j0 k t542 true)) else (galloonlaw01_TrimLengths.j0 k t542 true)) else (galloonlaw01_TrimLengths.j0 k t542 true)) = some r := H
  have A5 := Aside0.mk A50
  clear A50
  have HC6 := Aside0.mk H
  clear H
  go_enter Try.func13, Try.ntmps13
  go_upto_region 5 with (first | ((with_reducible refine gate_callee (f := 30) rfl ?_); refine goesL_ (some 16) rfl rfl Try.func30 (by kernel_rfl) rfl #[.string a0, .int .i64 80] rfl (by (try simp only [List.map_toArray, List.map_cons, List.map_nil]); first | done | rfl | (simp only [List.length_drop, List.length_take]; rfl)) ?_; (with_reducible refine (galloonlaw01_tame.calls k a0 80 t541 _ A2.out).mono ?_); rintro e w7 ⟨rfl, hb⟩; refine ⟨_, rfl, ?_⟩; have n0_ := Aside0.mk (below_step (by repeat (first | (with_reducible first | exact HB.out | apply below_alloc | apply pw_below_drewN | apply below_drew1) | exact HB.out)) hb); clear HB; have HB := n0_; clear n0_; (try clear hb); (try clear hb2); (try clear hk); (try clear hi)) | ((with_reducible refine gate_callee (f := 42) rfl ?_); refine goesL_ (some 19) rfl rfl Try.func42 (by kernel_rfl) rfl #[.string t541] rfl (by (try simp only [List.map_toArray, List.map_cons, List.map_nil]); first | done | rfl | (simp only [List.length_drop, List.length_take]; rfl)) ?_; (with_reducible refine (trim_Inner.calls k t541 t542 t543 _ A3.out).mono ?_); rintro e w8 ⟨rfl, hb⟩; refine ⟨_, rfl, ?_⟩; have n0_ := Aside0.mk (below_step (by repeat (first | (with_reducible first | exact HB.out | apply below_alloc | apply pw_below_drewN | apply below_drew1) | exact HB.out)) hb); clear HB; have HB := n0_; clear n0_; (try clear hb); (try clear hb2); (try clear hk); (try clear hi)) | ((with_reducible refine gate_callee (f := 43) rfl ?_); refine goesL_ (some 24) rfl rfl Try.func43 (by kernel_rfl) rfl #[.string t541] rfl (by (try simp only [List.map_toArray, List.map_cons, List.map_nil]); first | done | rfl | (simp only [List.length_drop, List.length_take]; rfl)) ?_; (with_reducible refine (trim_Outer.calls k t541 t544 t545 _ A4.out).mono ?_); rintro e w9 ⟨rfl, hb⟩; refine ⟨_, rfl, ?_⟩; have n0_ := Aside0.mk (below_step (by repeat (first | (with_reducible first | exact HB.out | apply below_alloc | apply pw_below_drewN | apply below_drew1) | exact HB.out)) hb); clear HB; have HB := n0_; clear n0_; (try clear hb); (try clear hb2); (try clear hk); (try clear hi)) | ((with_reducible refine gate_callee (f := 36) rfl ?_); refine goesL_ (some 29) rfl rfl Try.func36 (by kernel_rfl) rfl #[.string t541] rfl (by (try simp only [List.map_toArray, List.map_cons, List.map_nil]); first | done | rfl | (simp only [List.length_drop, List.length_take]; rfl)) ?_; (with_reducible refine (trim_Longest.calls t541 t546 t547 t548 _ A5.out).mono ?_); rintro e w10 ⟨rfl, hb⟩; refine ⟨_, rfl, ?_⟩; have n0_ := Aside0.mk (below_step (by repeat (first | (with_reducible first | exact HB.out | apply below_alloc | apply pw_below_drewN | apply below_drew1) | exact HB.out)) hb); clear HB; have HB := n0_; clear n0_; (try clear hb); (try clear hb2); (try clear hk); (try clear hi)))
  (try simp only [Act.put, List.setIfInBounds_toArray, List.set_cons_zero, List.set_cons_succ])
  go_cut [81] (fun v81 wc => ∃ (kq : Nat) (x81_5 : Bool), v81 = .bool x81_5 ∧ Aside0 (galloonlaw01_TrimLengths.j0 kq t542 x81_5 = some r) ∧ Aside0 (kq ≤ k) ∧ Aside0 (Below w.heap.size w wc))
  case first =>
    have H := HC6.out
    clear HC6
    by_cases c11 : t543 = 0
    · rw [if_pos c11] at H
      have c11b0 : (t543 == 0) = true := beq_iff_eq.mpr c11
      have c11b1 : (t543 != 0) = false := bne_eq_false_iff_eq.mpr c11
      clear c11
      (first | rw [c11b0] | (simp only [i64_w, i32_w]; rw [c11b0]) | skip)
      by_cases c12 : t545 = 0
      · rw [if_pos c12] at H
        have c12b0 : (t545 == 0) = true := beq_iff_eq.mpr c12
        have c12b1 : (t545 != 0) = false := bne_eq_false_iff_eq.mpr c12
        clear c12
        by_cases c13 : t548 = 0
        · rw [if_pos c13] at H
          have c13b0 : (t548 == 0) = true := beq_iff_eq.mpr c13
          have c13b1 : (t548 != 0) = false := bne_eq_false_iff_eq.mpr c13
          clear c13
          by_cases c14 : (wrap64 ((t542.size : Int) + (t544.size : Int))) = (wrap64 (2 * (t541.size : Int)))
          · rw [if_pos c14] at H
            have c14b0 : ((wrap64 ((t542.size : Int) + (t544.size : Int))) == (wrap64 (2 * (t541.size : Int)))) = true := beq_iff_eq.mpr c14
            have c14b1 : ((wrap64 ((t542.size : Int) + (t544.size : Int))) != (wrap64 (2 * (t541.size : Int)))) = false := bne_eq_false_iff_eq.mpr c14
            clear c14
            replace H := Option.bind_eq_some_iff.mp H
            obtain ⟨t549, A150, H⟩ := H
            replace H : (if t549 = true then ((galloonref01_Within.f k t542 t541).bind fun t550 => (if t550 = true then ((galloonref01_Palindrome.f k t544).bind fun t551 => (if t551 = true then ((galloonref01_Within.f k t541 t544).bind fun t552 => (if t552 = true then (galloonlaw01_TrimLengths.j0 k t542 (decide ((t542.size : Int) < t547))) else (galloonlaw01_TrimLengths.j0 k t542 true))) else (galloonlaw01_TrimLengths.j0 k t542 true))) else (galloonlaw01_TrimLengths.j0 k t542 true))) else (galloonlaw01_TrimLengths.j0 k t542 true)) = some r := H
            have A15 := Aside0.mk A150
            clear A150
            by_cases c16 : t549 = true
            · subst c16
              have H1 : ((galloonref01_Within.f k t542 t541).bind fun t550 => (if t550 = true then ((galloonref01_Palindrome.f k t544).bind fun t551 => (if t551 = true then ((galloonref01_Within.f k t541 t544).bind fun t552 => (if t552 = true then (galloonlaw01_TrimLengths.j0 k t542 (decide ((t542.size : Int) < t547))) else (galloonlaw01_TrimLengths.j0 k t542 true))) else (galloonlaw01_TrimLengths.j0 k t542 true))) else (galloonlaw01_TrimLengths.j0 k t542 true))) = some r := by rw [if_pos rfl] at H; exact H
              clear H
              have H := H1
              clear H1
              replace H := Option.bind_eq_some_iff.mp H
              obtain ⟨t550, A170, H⟩ := H
              replace H : (if t550 = true then ((galloonref01_Palindrome.f k t544).bind fun t551 => (if t551 = true then ((galloonref01_Within.f k t541 t544).bind fun t552 => (if t552 = true then (galloonlaw01_TrimLengths.j0 k t542 (decide ((t542.size : Int) < t547))) else (galloonlaw01_TrimLengths.j0 k t542 true))) else (galloonlaw01_TrimLengths.j0 k t542 true))) else (galloonlaw01_TrimLengths.j0 k t542 true)) = some r := H
              have A17 := Aside0.mk A170
              clear A170
              by_cases c18 : t550 = true
              · subst c18
                have H1 : ((galloonref01_Palindrome.f k t544).bind fun t551 => (if t551 = true then ((galloonref01_Within.f k t541 t544).bind fun t552 => (if t552 = true then (galloonlaw01_TrimLengths.j0 k t542 (decide ((t542.size : Int) < t547))) else (galloonlaw01_TrimLengths.j0 k t542 true))) else (galloonlaw01_TrimLengths.j0 k t542 true))) = some r := by rw [if_pos rfl] at H; exact H
                clear H
                have H := H1
                clear H1
                replace H := Option.bind_eq_some_iff.mp H
                obtain ⟨t551, A190, H⟩ := H
                replace H : (if t551 = true then ((galloonref01_Within.f k t541 t544).bind fun t552 => (if t552 = true then (galloonlaw01_TrimLengths.j0 k t542 (decide ((t542.size : Int) < t547))) else (galloonlaw01_TrimLengths.j0 k t542 true))) else (galloonlaw01_TrimLengths.j0 k t542 true)) = some r := H
                have A19 := Aside0.mk A190
                clear A190
                by_cases c20 : t551 = true
                · subst c20
                  have H1 : ((galloonref01_Within.f k t541 t544).bind fun t552 => (if t552 = true then (galloonlaw01_TrimLengths.j0 k t542 (decide ((t542.size : Int) < t547))) else (galloonlaw01_TrimLengths.j0 k t542 true))) = some r := by rw [if_pos rfl] at H; exact H
                  clear H
                  have H := H1
                  clear H1
                  replace H := Option.bind_eq_some_iff.mp H
                  obtain ⟨t552, A210, H⟩ := H
                  replace H : (if t552 = true then (galloonlaw01_TrimLengths.j0 k t542 (decide ((t542.size : Int) < t547))) else (galloonlaw01_TrimLengths.j0 k t542 true)) = some r := H
                  have A21 := Aside0.mk A210
                  clear A210
                  by_cases c22 : t552 = true
                  · subst c22
                    have H1 : (galloonlaw01_TrimLengths.j0 k t542 (decide ((t542.size : Int) < t547))) = some r := by rw [if_pos rfl] at H; exact H
                    clear H
                    have H := H1
                    clear H1
                    have H' := Aside0.mk H
                    clear H
                    go_wp2_with (first | (go_at_call 32; (with_reducible refine (galloonref01_Palindrome.calls k t542 true _ A15.out).mono ?_); rintro e w' ⟨rfl, ⟨nd, rfl⟩⟩) | (go_at_call 45; (with_reducible refine (galloonref01_Within.calls k t542 t541 true _ A17.out).mono ?_); rintro e w' ⟨rfl, ⟨nd, rfl⟩⟩) | (go_at_call 32; (with_reducible refine (galloonref01_Palindrome.calls k t544 true _ A19.out).mono ?_); rintro e w' ⟨rfl, ⟨nd, rfl⟩⟩) | (go_at_call 45; (with_reducible refine (galloonref01_Within.calls k t541 t544 true _ A21.out).mono ?_); rintro e w' ⟨rfl, ⟨nd, rfl⟩⟩))
                    go_meet
                    case rel => exact ⟨_, (decide ((t542.size : Int) < t547)), (by first | rfl | (simp; done) | (simp [*]; done)), H', ⟨by first | omega | exact Nat.le_refl _⟩, ⟨by repeat (first | (with_reducible first | exact HB.out | apply below_alloc | apply pw_below_drewN | apply below_drew1) | exact HB.out)⟩⟩
                  · replace c22 := Bool.eq_false_iff.mpr c22
                    subst c22
                    have H1 : (galloonlaw01_TrimLengths.j0 k t542 true) = some r := by rw [if_neg (show ¬ (false = true) by decide)] at H; exact H
                    clear H
                    have H := H1
                    clear H1
                    have H' := Aside0.mk H
                    clear H
                    go_wp2_with (first | (go_at_call 32; (with_reducible refine (galloonref01_Palindrome.calls k t542 true _ A15.out).mono ?_); rintro e w' ⟨rfl, ⟨nd, rfl⟩⟩) | (go_at_call 45; (with_reducible refine (galloonref01_Within.calls k t542 t541 true _ A17.out).mono ?_); rintro e w' ⟨rfl, ⟨nd, rfl⟩⟩) | (go_at_call 32; (with_reducible refine (galloonref01_Palindrome.calls k t544 true _ A19.out).mono ?_); rintro e w' ⟨rfl, ⟨nd, rfl⟩⟩) | (go_at_call 45; (with_reducible refine (galloonref01_Within.calls k t541 t544 false _ A21.out).mono ?_); rintro e w' ⟨rfl, ⟨nd, rfl⟩⟩))
                    go_meet
                    case rel => exact ⟨_, (true), (by first | rfl | (simp; done) | (simp [*]; done)), H', ⟨by first | omega | exact Nat.le_refl _⟩, ⟨by repeat (first | (with_reducible first | exact HB.out | apply below_alloc | apply pw_below_drewN | apply below_drew1) | exact HB.out)⟩⟩
                · replace c20 := Bool.eq_false_iff.mpr c20
                  subst c20
                  have H1 : (galloonlaw01_TrimLengths.j0 k t542 true) = some r := by rw [if_neg (show ¬ (false = true) by decide)] at H; exact H
                  clear H
                  have H := H1
                  clear H1
                  have H' := Aside0.mk H
                  clear H
                  go_wp2_with (first | (go_at_call 32; (with_reducible refine (galloonref01_Palindrome.calls k t542 true _ A15.out).mono ?_); rintro e w' ⟨rfl, ⟨nd, rfl⟩⟩) | (go_at_call 45; (with_reducible refine (galloonref01_Within.calls k t542 t541 true _ A17.out).mono ?_); rintro e w' ⟨rfl, ⟨nd, rfl⟩⟩) | (go_at_call 32; (with_reducible refine (galloonref01_Palindrome.calls k t544 false _ A19.out).mono ?_); rintro e w' ⟨rfl, ⟨nd, rfl⟩⟩))
                  go_meet
                  case rel => exact ⟨_, (true), (by first | rfl | (simp; done) | (simp [*]; done)), H', ⟨by first | omega | exact Nat.le_refl _⟩, ⟨by repeat (first | (with_reducible first | exact HB.out | apply below_alloc | apply pw_below_drewN | apply below_drew1) | exact HB.out)⟩⟩
              · replace c18 := Bool.eq_false_iff.mpr c18
                subst c18
                have H1 : (galloonlaw01_TrimLengths.j0 k t542 true) = some r := by rw [if_neg (show ¬ (false = true) by decide)] at H; exact H
                clear H
                have H := H1
                clear H1
                have H' := Aside0.mk H
                clear H
                go_wp2_with (first | (go_at_call 32; (with_reducible refine (galloonref01_Palindrome.calls k t542 true _ A15.out).mono ?_); rintro e w' ⟨rfl, ⟨nd, rfl⟩⟩) | (go_at_call 45; (with_reducible refine (galloonref01_Within.calls k t542 t541 false _ A17.out).mono ?_); rintro e w' ⟨rfl, ⟨nd, rfl⟩⟩))
                go_meet
                case rel => exact ⟨_, (true), (by first | rfl | (simp; done) | (simp [*]; done)), H', ⟨by first | omega | exact Nat.le_refl _⟩, ⟨by repeat (first | (with_reducible first | exact HB.out | apply below_alloc | apply pw_below_drewN | apply below_drew1) | exact HB.out)⟩⟩
            · replace c16 := Bool.eq_false_iff.mpr c16
              subst c16
              have H1 : (galloonlaw01_TrimLengths.j0 k t542 true) = some r := by rw [if_neg (show ¬ (false = true) by decide)] at H; exact H
              clear H
              have H := H1
              clear H1
              have H' := Aside0.mk H
              clear H
              go_wp2_with (first | (go_at_call 32; (with_reducible refine (galloonref01_Palindrome.calls k t542 false _ A15.out).mono ?_); rintro e w' ⟨rfl, ⟨nd, rfl⟩⟩))
              go_meet
              case rel => exact ⟨_, (true), (by first | rfl | (simp; done) | (simp [*]; done)), H', ⟨by first | omega | exact Nat.le_refl _⟩, ⟨by repeat (first | (with_reducible first | exact HB.out | apply below_alloc | apply pw_below_drewN | apply below_drew1) | exact HB.out)⟩⟩
          · rw [if_neg c14] at H
            have c14b0 : ((wrap64 ((t542.size : Int) + (t544.size : Int))) == (wrap64 (2 * (t541.size : Int)))) = false := beq_eq_false_iff_ne.mpr c14
            have c14b1 : ((wrap64 ((t542.size : Int) + (t544.size : Int))) != (wrap64 (2 * (t541.size : Int)))) = true := bne_iff_ne.mpr c14
            have H' := Aside0.mk H
            clear H
            go_wp2
            go_meet
            case rel => exact ⟨_, (true), (by first | rfl | (simp; done) | (simp [*]; done)), H', ⟨by first | omega | exact Nat.le_refl _⟩, ⟨by repeat (first | (with_reducible first | exact HB.out | apply below_alloc | apply pw_below_drewN | apply below_drew1) | exact HB.out)⟩⟩
        · rw [if_neg c13] at H
          have c13b0 : (t548 == 0) = false := beq_eq_false_iff_ne.mpr c13
          have c13b1 : (t548 != 0) = true := bne_iff_ne.mpr c13
          have H' := Aside0.mk H
          clear H
          go_wp2
          go_meet
          case rel => exact ⟨_, (true), (by first | rfl | (simp; done) | (simp [*]; done)), H', ⟨by first | omega | exact Nat.le_refl _⟩, ⟨by repeat (first | (with_reducible first | exact HB.out | apply below_alloc | apply pw_below_drewN | apply below_drew1) | exact HB.out)⟩⟩
      · rw [if_neg c12] at H
        have c12b0 : (t545 == 0) = false := beq_eq_false_iff_ne.mpr c12
        have c12b1 : (t545 != 0) = true := bne_iff_ne.mpr c12
        have H' := Aside0.mk H
        clear H
        go_wp2
        go_meet
        case rel => exact ⟨_, (true), (by first | rfl | (simp; done) | (simp [*]; done)), H', ⟨by first | omega | exact Nat.le_refl _⟩, ⟨by repeat (first | (with_reducible first | exact HB.out | apply below_alloc | apply pw_below_drewN | apply below_drew1) | exact HB.out)⟩⟩
    · rw [if_neg c11] at H
      have c11b0 : (t543 == 0) = false := beq_eq_false_iff_ne.mpr c11
      have c11b1 : (t543 != 0) = true := bne_iff_ne.mpr c11
      (first | rw [c11b0] | (simp only [i64_w, i32_w]; rw [c11b0]) | skip)
      have H' := Aside0.mk H
      clear H
      go_wp2
      go_meet
      case rel => exact ⟨_, (true), (by first | rfl | (simp; done) | (simp [*]; done)), H', ⟨by first | omega | exact Nat.le_refl _⟩, ⟨by repeat (first | (with_reducible first | exact HB.out | apply below_alloc | apply pw_below_drewN | apply below_drew1) | exact HB.out)⟩⟩
  case rest =>
    clear HC6
    try clear c1
    try clear c2
    try clear p2
    try clear c3
    try clear c4
    try clear p6
    try clear c11
    try clear c11b0
    try clear c11b1
    try clear c12
    try clear c12b0
    try clear c12b1
    try clear c13
    try clear c13b0
    try clear c13b1
    try clear c14
    try clear c14b0
    try clear c14b1
    try clear c16
    try clear c18
    try clear c20
    try clear c22
    obtain ⟨kq, x81_5, rfl, HA, HJ5, HB⟩ := hcut
    cases kq with
    | zero => exact absurd HA.out (by simp [galloonlaw01_TrimLengths.j0])
    | succ kj5 =>
      have H := HA.out
      clear HA
      simp only [galloonlaw01_TrimLengths.j0] at H
      by_cases c23 : x81_5 = true
      · subst c23
        have H1 : (some false) = some r := by rw [if_pos rfl] at H; exact H
        clear H
        have H := H1
        clear H1
        obtain rfl := Option.some.inj H
        exact absurd hr.out (by decide)
      · replace c23 := Bool.eq_false_iff.mpr c23
        subst c23
        have H1 : ((trim_Inner.f kj5 t542).bind fun bt553 => ((trim_Closure.f kj5 t542).bind fun bt555 => (if bt553.2 = 0 then (if bt553.1.toList = t542.toList then (if bt555.2 = 0 then (if bt555.1.toList = t542.toList then ((galloonlaw01_awake.f kj5).bind fun t557 => (some t557)) else (some false)) else (some false)) else (some false)) else (some false)))) = some r := by rw [if_neg (show ¬ (false = true) by decide)] at H; exact H
        clear H
        have H := H1
        clear H1
        replace H := Option.bind_eq_some_iff.mp H
        obtain ⟨⟨t553, t554⟩, A240, H⟩ := H
        replace H : ((trim_Closure.f kj5 t542).bind fun bt555 => (if t554 = 0 then (if t553.toList = t542.toList then (if bt555.2 = 0 then (if bt555.1.toList = t542.toList then ((galloonlaw01_awake.f kj5).bind fun t557 => (some t557)) else (some false)) else (some false)) else (some false)) else (some false))) = some r := H
        have A24 := Aside0.mk A240
        clear A240
        replace H := Option.bind_eq_some_iff.mp H
        obtain ⟨⟨t555, t556⟩, A250, H⟩ := H
        replace H : (if t554 = 0 then (if t553.toList = t542.toList then (if t556 = 0 then (if t555.toList = t542.toList then ((galloonlaw01_awake.f kj5).bind fun t557 => (some t557)) else (some false)) else (some false)) else (some false)) else (some false)) = some r := H
        have A25 := Aside0.mk A250
        clear A250
        by_cases c26 : t554 = 0
        · rw [if_pos c26] at H
          have c26b0 : (t554 == 0) = true := beq_iff_eq.mpr c26
          have c26b1 : (t554 != 0) = false := bne_eq_false_iff_eq.mpr c26
          clear c26
          by_cases c27 : t553.toList = t542.toList
          · rw [if_pos c27] at H
            have c27b0 : (t553.toList == t542.toList) = true := beq_iff_eq.mpr c27
            have c27b1 : (t553.toList != t542.toList) = false := bne_eq_false_iff_eq.mpr c27
            clear c27
            by_cases c28 : t556 = 0
            · rw [if_pos c28] at H
              have c28b0 : (t556 == 0) = true := beq_iff_eq.mpr c28
              have c28b1 : (t556 != 0) = false := bne_eq_false_iff_eq.mpr c28
              clear c28
              by_cases c29 : t555.toList = t542.toList
              · rw [if_pos c29] at H
                have c29b0 : (t555.toList == t542.toList) = true := beq_iff_eq.mpr c29
                have c29b1 : (t555.toList != t542.toList) = false := bne_eq_false_iff_eq.mpr c29
                clear c29
                replace H := Option.bind_eq_some_iff.mp H
                obtain ⟨t557, A300, H⟩ := H
                replace H : (some t557) = some r := H
                have A30 := Aside0.mk A300
                clear A300
                obtain rfl := Option.some.inj H
                go_wp2_with (first | ((with_reducible refine gate_callee (f := 42) rfl ?_); refine goesL_ (some 84) rfl rfl Try.func42 (by kernel_rfl) rfl #[.string t542] rfl (by (try simp only [List.map_toArray, List.map_cons, List.map_nil]); first | done | rfl | (simp only [List.length_drop, List.length_take]; rfl)) ?_; (with_reducible refine (trim_Inner.calls kj5 t542 t553 t554 _ A24.out).mono ?_); rintro e w31 ⟨rfl, hb⟩; refine ⟨_, rfl, ?_⟩; have n0_ := Aside0.mk (below_step (by repeat (first | (with_reducible first | exact HB.out | apply below_alloc | apply pw_below_drewN | apply below_drew1) | exact HB.out)) hb); clear HB; have HB := n0_; clear n0_; (try clear hb); (try clear hb2); (try clear hk); (try clear hi)) | ((with_reducible refine gate_callee (f := 24) rfl ?_); refine goesL_ (some 89) rfl rfl Try.func24 (by kernel_rfl) rfl #[.string t542] rfl (by (try simp only [List.map_toArray, List.map_cons, List.map_nil]); first | done | rfl | (simp only [List.length_drop, List.length_take]; rfl)) ?_; (with_reducible refine (trim_Closure.calls kj5 t542 t555 t556 _ A25.out).mono ?_); rintro e w32 ⟨rfl, hb⟩; refine ⟨_, rfl, ?_⟩; have n0_ := Aside0.mk (below_step (by repeat (first | (with_reducible first | exact HB.out | apply below_alloc | apply pw_below_drewN | apply below_drew1) | exact HB.out)) hb); clear HB; have HB := n0_; clear n0_; (try clear hb); (try clear hb2); (try clear hk); (try clear hi)) | (go_at_call 20; (with_reducible refine (galloonlaw01_awake.calls kj5  t557 _ A30.out (Glob.at hg (by repeat (first | (with_reducible first | exact HB.out | apply below_alloc | apply pw_below_drewN | apply below_drew1) | exact HB.out)))).mono ?_); rintro e w33 ⟨rfl, hb⟩; have n0_ := Aside0.mk (below_step (by repeat (first | (with_reducible first | exact HB.out | apply below_alloc | apply pw_below_drewN | apply below_drew1) | exact HB.out)) hb); clear HB; have HB := n0_; clear n0_; (try clear hb); (try clear hb2); (try clear hk); (try clear hi)))
                go_ret
                exact ⟨by first | rfl | (simp [errW_none, errW_some] <;> rfl) | (simp [*, errW_none, errW_some] <;> rfl), by repeat (first | (with_reducible first | exact HB.out | apply below_alloc | apply pw_below_drewN | apply below_drew1) | exact HB.out)⟩
              · rw [if_neg c29] at H
                have c29b0 : (t555.toList == t542.toList) = false := beq_eq_false_iff_ne.mpr c29
                have c29b1 : (t555.toList != t542.toList) = true := bne_iff_ne.mpr c29
                obtain rfl := Option.some.inj H
                exact absurd hr.out (by decide)
            · rw [if_neg c28] at H
              have c28b0 : (t556 == 0) = false := beq_eq_false_iff_ne.mpr c28
              have c28b1 : (t556 != 0) = true := bne_iff_ne.mpr c28
              obtain rfl := Option.some.inj H
              exact absurd hr.out (by decide)
          · rw [if_neg c27] at H
            have c27b0 : (t553.toList == t542.toList) = false := beq_eq_false_iff_ne.mpr c27
            have c27b1 : (t553.toList != t542.toList) = true := bne_iff_ne.mpr c27
            obtain rfl := Option.some.inj H
            exact absurd hr.out (by decide)
        · rw [if_neg c26] at H
          have c26b0 : (t554 == 0) = false := beq_eq_false_iff_ne.mpr c26
          have c26b1 : (t554 != 0) = true := bne_iff_ne.mpr c26
          obtain rfl := Option.some.inj H
          exact absurd hr.out (by decide)

/-- THE ONE PURE STATEMENT of galloonlaw01_TrimLengths: yours. -/
def galloonlaw01_TrimLengths.Pure : Prop := ∀ (a0 : ByteArray), a0.size ≤ 140737488351232 → ∃ k, galloonlaw01_TrimLengths.f k a0 = some true
theorem galloonlaw01_TrimLengths.walk (P : galloonlaw01_TrimLengths.Pure) (a0 : ByteArray) (w : World) (w0 : a0.size ≤ 140737488351232) (hg : Glob w) :
    Calls Try.prog 13 #[.string a0] w fun e w' => e = .returned (.bool true) ∧ Below w.heap.size w w' := by
  obtain ⟨k, h⟩ := P a0 w0
  refine (galloonlaw01_TrimLengths.calls k a0 true w h ⟨rfl⟩ hg).mono ?_
  rintro e w' ⟨rfl, hd⟩
  exact ⟨rfl, hd⟩

end Go.Proofs.Ytbdlhgdfnnbjiaa.PY
