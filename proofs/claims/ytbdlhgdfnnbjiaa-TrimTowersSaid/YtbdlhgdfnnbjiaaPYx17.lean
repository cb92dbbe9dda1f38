-- Made by the session's own driver (wip/tools/p2.py) out of the translation; Lean checks it.
import Derived.Test.YtbdlhgdfnnbjiaaPYx0
import Derived.Test.YtbdlhgdfnnbjiaaPYx5
import Derived.Test.YtbdlhgdfnnbjiaaPYx6
import Derived.Test.YtbdlhgdfnnbjiaaPYx10
import Derived.Test.YtbdlhgdfnnbjiaaPYx13
import Derived.Test.YtbdlhgdfnnbjiaaPYx16
namespace Go.Proofs.Ytbdlhgdfnnbjiaa.PY
open Go.RowKit Go.Proofs.YtbdlhgdfnnbjiaaW.PrintWords Go.Proofs.YtbdlhgdfnnbjiaaW.PrintLast Go.Proofs.YtbdlhgdfnnbjiaaW.PrintMore
attribute [local go_sem] max2_int min2_int max_two min_two max_three min_three max_four min_four   -- for this text's walks alone
set_option linter.unusedVariables false
set_option linter.unusedSimpArgs false

/-! ### galloonlaw01_TrimTowers: function 5 -/
def galloonlaw01_TrimTowers.f (k : Nat) (a0 : ByteArray) (a1 : Int) : Option (Bool) := (galloonlaw01_tame.f k a0 12).bind fun t218 => ((trim_Tower.f k t218).bind fun bt219 => ((galloonlaw01_mod.f a1 (wrap64 ((t218.size : Int) + 1))).bind fun t221 => (if 0 ≤ t221 then (if t221 ≤ (t218.size : Int) then ((trim_Tower.f k (t218.extract 0 (t221 : Int).toNat)).bind fun bt222 => (if bt219.2 = 0 then ((trim_Rich.f k bt219.1).bind fun bt225 => ((trim_Base.f k bt219.1).bind fun bt227 => ((trim_Closure.f k bt219.1).bind fun bt229 => (if bt222.2 = 0 then (if bt225.2 = 0 then (if bt227.2 = 0 then (if bt229.2 = 0 then ((galloonref01_Palindrome.f k bt219.1).bind fun t231 => (if t231 = true then (if bt225.1 = (-1) then (if bt227.1.toList = t218.toList then (if bt229.1.toList = bt219.1.toList then (if (bt222.1.size : Int) ≤ (bt219.1.size : Int) then (if 0 ≤ (bt222.1.size : Int) then (if (bt219.1.extract 0 ((bt222.1.size : Int) : Int).toNat).toList = bt222.1.toList then (if 0 ≤ (wrap64 ((bt219.1.size : Int) - (bt222.1.size : Int))) then (if (wrap64 ((bt219.1.size : Int) - (bt222.1.size : Int))) ≤ (bt219.1.size : Int) then (if (bt219.1.extract ((wrap64 ((bt219.1.size : Int) - (bt222.1.size : Int))) : Int).toNat bt219.1.size).toList = bt222.1.toList then ((galloonlaw01_awake.f k).bind fun t232 => (some t232)) else (some false)) else (none)) else (none)) else (some false)) else (none)) else (some false)) else (some false)) else (some false)) else (some false)) else (some false))) else (some false)) else (some false)) else (some false)) else (some false))))) else (if bt219.2 = 5 then (if bt219.1.toList = ([] : List UInt8) then ((galloonlaw01_awake.f k).bind fun t224 => (some t224)) else (some false)) else (some false)))) else (none)) else (none))))
theorem galloonlaw01_TrimTowers.mono : ∀ a0 a1 k, LeO (galloonlaw01_TrimTowers.f k a0 a1) (galloonlaw01_TrimTowers.f (k + 1) a0 a1) := by
  intro a0 a1 k
  unfold galloonlaw01_TrimTowers.f
  repeat' first
      | (with_reducible exact galloonlaw01_awake.mono _)
      | (with_reducible exact galloonlaw01_tame.mono _ _ _)
      | (with_reducible exact galloonref01_Palindrome.mono _ _)
      | (with_reducible exact trim_Base.mono _ _)
      | (with_reducible exact trim_Closure.mono _ _)
      | (with_reducible exact trim_Rich.mono _ _)
      | (with_reducible exact trim_Tower.mono _ _)
      | (with_reducible exact LeO.refl _)
      | (with_reducible exact LeO.none _)
      | (with_reducible refine LeO.ite ?_ ?_)
      | (with_reducible refine LeO.bind ?_ (fun _ => ?_))
      | exact galloonlaw01_awake.mono _
      | exact galloonlaw01_tame.mono _ _ _
      | exact galloonref01_Palindrome.mono _ _
      | exact trim_Base.mono _ _
      | exact trim_Closure.mono _ _
      | exact trim_Rich.mono _ _
      | exact trim_Tower.mono _ _
      | exact LeO.none _
      | refine LeO.ite ?_ ?_
      | refine LeO.bind ?_ (fun _ => ?_)
set_option maxHeartbeats 8000000 in
set_option maxRecDepth 100000 in
theorem galloonlaw01_TrimTowers.calls (k : Nat) (a0 : ByteArray) (a1 : Int) (r : Bool) (w : World) (h : galloonlaw01_TrimTowers.f k a0 a1 = some r) (hr : Aside0 (r = true)) (hg : Glob w) :
    Calls Try.prog 5 #[.string a0, .int .i64 a1] w fun e w' => e = .returned (.bool r) ∧ Below w.heap.size w w' := by
  have HB := Aside0.mk (Below.refl w.heap.size w)
  have H : ((galloonlaw01_tame.f k a0 12).bind fun t218 => ((trim_Tower.f k t218).bind fun bt219 => ((galloonlaw01_mod.f a1 (wrap64 ((t218.size : Int) + 1))).bind fun t221 => (if 0 ≤ t221 then (if t221 ≤ (t218.size : Int) then ((trim_Tower.f k (t218.extract 0 (t221 : Int).toNat)).bind fun bt222 => (if bt219.2 = 0 then ((trim_Rich.f k bt219.1).bind fun bt225 => ((trim_Base.f k bt219.1).bind fun bt227 => ((trim_Closure.f k bt219.1).bind fun bt229 => (if bt222.2 = 0 then (if bt225.2 = 0 then (if bt227.2 = 0 then (if bt229.2 = 0 then ((galloonref01_Palindrome.f k bt219.1).bind fun t231 => (if t231 = true then (if bt225.1 = (-1) then (if bt227.1.toList = t218.toList then (if bt229.1.toList = bt219.1.toList then (if (bt222.1.size : Int) ≤ (bt219.1.size : Int) then (if 0 ≤ (bt222.1.size : Int) then (if (bt219.1.extract 0 ((bt222.1.size : Int) : Int).toNat).toList = bt222.1.toList then (if 0 ≤ (wrap64 ((bt219.1.size : Int) - (bt222.1.size : Int))) then (if (wrap64 ((bt219.1.size : Int) - (bt222.1.size : Int))) ≤ (bt219.1.size : Int) then (if (bt219.1.extract ((wrap64 ((bt219.1.size : Int) - (bt222.1.size : Int))) : Int).toNat bt219.1.size).toList = bt222.1.toList then ((galloonlaw01_awake.f k).bind fun t232 => (some t232)) else (some false)) else (none)) else (none)) else (some false)) else (none)) else (some false)) else (some false)) else (some false)) else (some false)) else (some false))) else (some false)) else (some false)) else (some false)) else (some false))))) else (if bt219.2 = 5 then (if bt219.1.toList = ([] : List UInt8) then ((galloonlaw01_awake.f k).bind fun t224 => (some t224)) else (some false)) else (some false)))) else (none)) else (none))))) = some r := h
  clear h
  replace H := Option.bind_eq_some_iff.mp H
  obtain ⟨t218, A30, H⟩ := H
  replace H : ((trim_Tower.f k t218).bind fun bt219 => ((galloonlaw01_mod.f a1 (wrap64 ((t218.size : Int) + 1))).bind fun t221 => (if 0 ≤ t221 then (if t221 ≤ (t218.size : Int) then ((trim_Tower.f k (t218.extract 0 (t221 : Int).toNat)).bind fun bt222 => (if bt219.2 = 0 then ((trim_Rich.f k bt219.1).bind fun bt225 => ((trim_Base.f k bt219.1).bind fun bt227 => ((trim_Closure.f k bt219.1).bind fun bt229 => (if bt222.2 = 0 then (if bt225.2 = 0 then (if bt227.2 = 0 then (if bt229.2 = 0 then ((galloonref01_Palindrome.f k bt219.1).bind fun t231 => (if t231 = true then (if bt225.1 = (-1) then (if bt227.1.toList = t218.toList then (if bt229.1.toList = bt219.1.toList then (if (bt222.1.size : Int) ≤ (bt219.1.size : Int) then (if 0 ≤ (bt222.1.size : Int) then (if (bt219.1.extract 0 ((bt222.1.size : Int) : Int).toNat).toList = bt222.1.toList then (if 0 ≤ (wrap64 ((bt219.1.size : Int) - (bt222.1.size : Int))) then (if (wrap64 ((bt219.1.size : Int) - (bt222.1.size : Int))) ≤ (bt219.1.size : Int) then (if (bt219.1.extract ((wrap64 ((bt219.1.size : Int) - (bt222.1.size : Int))) : Int).toNat bt219.1.size).toList = bt222.1.toList then ((galloonlaw01_awake.f k).bind fun t232 => (some t232)) else (some false)) else (none)) else (none)) else (some false)) else (none)) else (some false)) else (some false)) else (some false)) else (some false)) else (some false))) else (some false)) else (some false)) else (some false)) else (some false))))) else (if bt219.2 = 5 then (if bt219.1.toList = ([] : List UInt8) then ((galloonlaw01_awake.f k).bind fun t224 => (some t224)) else (some false)) else (some false)))) else (none)) else (none)))) = some r := H
  have A3 := Aside0.mk A30
  clear A30
  replace H := Option.bind_eq_some_iff.mp H
  obtain ⟨⟨t219, t220⟩, A40, H⟩ := H
  replace H : ((galloonlaw01_mod.f a1 (wrap64 ((t218.size : Int) + 1))).bind fun t221 => (if 0 ≤ t221 then (if t221 ≤ (t218.size : Int) then ((trim_Tower.f k (t218.extract 0 (t221 : Int).toNat)).bind fun bt222 => (if t220 = 0 then ((trim_Rich.f k t219).bind fun bt225 => ((trim_Base.f k t219).bind fun bt227 => ((trim_Closure.f k t219).bind fun bt229 => (if bt222.2 = 0 then (if bt225.2 = 0 then (if bt227.2 = 0 then (if bt229.2 = 0 then ((galloonref01_Palindrome.f k t219).bind fun t231 => (if t231 = true then (if bt225.1 = (-1) then (if bt227.1.toList = t218.toList then (if bt229.1.toList = t219.toList then (if (bt222.1.size : Int) ≤ (t219.size : Int) then (if 0 ≤ (bt222.1.size : Int) then (if (t219.extract 0 ((bt222.1.size : Int) : Int).toNat).toList = bt222.1.toList then (if 0 ≤ (wrap64 ((t219.size : Int) - (bt222.1.size : Int))) then (if (wrap64 ((t219.size : Int) - (bt222.1.size : Int))) ≤ (t219.size : Int) then (if (t219.extract ((wrap64 ((t219.size : Int) - (bt222.1.size : Int))) : Int).toNat t219.size).toList = bt222.1.toList then ((galloonlaw01_awake.f k).bind fun t232 => (some t232)) else (some false)) else (none)) else (none)) else (some false)) else (none)) else (some false)) else (some false)) else (some false)) else (some false)) else (some false))) else (some false)) else (some false)) else (some false)) else (some false))))) else (if t220 = 5 then (if t219.toList = ([] : List UInt8) then ((galloonlaw01_awake.f k).bind fun t224 => (some t224)) else (some false)) else (some false)))) else (none)) else (none))) = some r := H
  have A4 := Aside0.mk A40
  clear A40
  replace H := Option.bind_eq_some_iff.mp H
  obtain ⟨t221, A50, H⟩ := H
  replace H : (if 0 ≤ t221 then (if t221 ≤ (t218.size : Int) then ((trim_Tower.f k (t218.extract 0 (t221 : Int).toNat)).bind fun bt222 => (if t220 = 0 then ((trim_Rich.f k t219).bind fun bt225 => ((trim_Base.f k t219).bind fun bt227 => ((trim_Closure.f k t219).bind fun bt229 => (if bt222.2 = 0 then (if bt225.2 = 0 then (if bt227.2 = 0 then (if bt229.2 = 0 then ((galloonref01_Palindrome.f k t219).bind fun t231 => (if t231 = true then (if bt225.1 = (-1) then (if bt227.1.toList = t218.toList then (if bt229.1.toList = t219.toList then (if (bt222.1.size : Int) ≤ (t219.size : Int) then (if 0 ≤ (bt222.1.size : Int) then (if (t219.extract 0 ((bt222.1.size : Int) : Int).toNat).toList = bt222.1.toList then (if 0 ≤ (wrap64 ((t219.size : Int) - (bt222.1.size : Int))) then (if (wrap64 ((t219.size : Int) - (bt222.1.size : Int))) ≤ (t219.size : Int) then (if (t219.extract ((wrap64 ((t219.size : Int) - (bt222.1.size : Int))) : Int).toNat t219.size).toList = bt222.1.toList then ((galloonlaw01_awake.f k).bind fun t232 => (some t232)) else (some false)) else (none)) else (none)) else (some false)) else (none)) else (some false)) else (some false)) else (some false)) else (some false)) else (some false))) else (some false)) else (some false)) else (some false)) else (some false))))) else (if t220 = 5 then (if t219.toList = ([] : List UInt8) then ((galloonlaw01_awake.f k).bind fun t224 => (some t224)) else (some false)) else (some false)))) else (none)) else (none)) = some r := H
  have A5 := Aside0.mk A50
  clear A50
  by_cases c6 : 0 ≤ t221
  · rw [if_pos c6] at H
    have c6b0 := eq_true c6
    have c6b1 : decide (0 ≤ t221) = true := decide_eq_true c6
    clear c6
    by_cases c7 : t221 ≤ (t218.size : Int)
    · rw [if_pos c7] at H
      have c7b0 := eq_true c7
      have c7b1 : decide (t221 ≤ (t218.size : Int)) = true := decide_eq_true c7
      clear c7
      replace H := Option.bind_eq_some_iff.mp H
      obtain ⟨⟨t222, t223⟩, A80, H⟩ := H
      replace H : (if t220 = 0 then ((trim_Rich.f k t219).bind fun bt225 => ((trim_Base.f k t219).bind fun bt227 => ((trim_Closure.f k t219).bind fun bt229 => (if t223 = 0 then (if bt225.2 = 0 then (if bt227.2 = 0 then (if bt229.2 = 0 then ((galloonref01_Palindrome.f k t219).bind fun t231 => (if t231 = true then (if bt225.1 = (-1) then (if bt227.1.toList = t218.toList then (if bt229.1.toList = t219.toList then (if (t222.size : Int) ≤ (t219.size : Int) then (if 0 ≤ (t222.size : Int) then (if (t219.extract 0 ((t222.size : Int) : Int).toNat).toList = t222.toList then (if 0 ≤ (wrap64 ((t219.size : Int) - (t222.size : Int))) then (if (wrap64 ((t219.size : Int) - (t222.size : Int))) ≤ (t219.size : Int) then (if (t219.extract ((wrap64 ((t219.size : Int) - (t222.size : Int))) : Int).toNat t219.size).toList = t222.toList then ((galloonlaw01_awake.f k).bind fun t232 => (some t232)) else (some false)) else (none)) else (none)) else (some false)) else (none)) else (some false)) else (some false)) else (some false)) else (some false)) else (some false))) else (some false)) else (some false)) else (some false)) else (some false))))) else (if t220 = 5 then (if t219.toList = ([] : List UInt8) then ((galloonlaw01_awake.f k).bind fun t224 => (some t224)) else (some false)) else (some false))) = some r := H
      have A8 := Aside0.mk A80
      clear A80
      by_cases c9 : t220 = 0
      · rw [if_pos c9] at H
        have c9b0 : (t220 == 0) = true := beq_iff_eq.mpr c9
        have c9b1 : (t220 != 0) = false := bne_eq_false_iff_eq.mpr c9
        clear c9
        replace H := Option.bind_eq_some_iff.mp H
        obtain ⟨⟨t225, t226⟩, A100, H⟩ := H
        replace H : ((trim_Base.f k t219).bind fun bt227 => ((trim_Closure.f k t219).bind fun bt229 => (if t223 = 0 then (if t226 = 0 then (if bt227.2 = 0 then (if bt229.2 = 0 then ((galloonref01_Palindrome.f k t219).bind fun t231 => (if t231 = true then (if t225 = (-1) then (if bt227.1.toList = t218.toList then (if bt229.1.toList = t219.toList then (if (t222.size : Int) ≤ (t219.size : Int) then (if 0 ≤ (t222.size : Int) then (if (t219.extract 0 ((t222.size : Int) : Int).toNat).toList = t222.toList then (if 0 ≤ (wrap64 ((t219.size : Int) - (t222.size : Int))) then (if (wrap64 ((t219.size : Int) - (t222.size : Int))) ≤ (t219.size : Int) then (if (t219.extract ((wrap64 ((t219.size : Int) - (t222.size : Int))) : Int).toNat t219.size).toList = t222.toList then ((galloonlaw01_awake.f k).bind fun t232 => (some t232)) else (some false)) else (none)) else (none)) else (some false)) else (none)) else (some false)) else (some false)) else (some false)) else (some false)) else (some false))) else (some false)) else (some false)) else (some false)) else (some false)))) = some r := H
        have A10 := Aside0.mk A100
        clear A100
        replace H := Option.bind_eq_some_iff.mp H
        obtain ⟨⟨t227, t228⟩, A110, H⟩ := H
        replace H : ((trim_Closure.f k t219).bind fun bt229 => (if t223 = 0 then (if t226 = 0 then (if t228 = 0 then (if bt229.2 = 0 then ((galloonref01_Palindrome.f k t219).bind fun t231 => (if t231 = true then (if t225 = (-1) then (if t227.toList = t218.toList then (if bt229.1.toList = t219.toList then (if (t222.size : Int) ≤ (t219.size : Int) then (if 0 ≤ (t222.size : Int) then (if (t219.extract 0 ((t222.size : Int) : Int).toNat).toList = t222.toList then (if 0 ≤ (wrap64 ((t219.size : Int) - (t222.size : Int))) then (if (wrap64 ((t219.size : Int) - (t222.size : Int))) ≤ (t219.size : Int) then (if (t219.extract ((wrap64 ((t219.size : Int) - (t222.size : Int))) : Int).toNat t219.size).toList = t222.toList then ((galloonlaw01_awake.f k).bind fun t232 => (some t232)) else (some false)) else (none)) else (none)) else (some false)) else (none)) else (some false)) else (some false)) else (some false)) else (some false)) else (some false))) else (some false)) else (some false)) else (some false)) else (some false))) = some r := H
        have A11 := Aside0.mk A110
        clear A110
        replace H := Option.bind_eq_some_iff.mp H
        obtain ⟨⟨t229, t230⟩, A120, H⟩ := H
        replace H : (if t223 = 0 then (if t226 = 0 then (if t228 = 0 then (if t230 = 0 then ((galloonref01_Palindrome.f k t219).bind fun t231 => (if t231 = true then (if t225 = (-1) then (if t227.toList = t218.toList then (if t229.toList = t219.toList then (if (t222.size : Int) ≤ (t219.size : Int) then (if 0 ≤ (t222.size : Int) then (if (t219.extract 0 ((t222.size : Int) : Int).toNat).toList = t222.toList then (if 0 ≤ (wrap64 ((t219.size : Int) - (t222.size : Int))) then (if (wrap64 ((t219.size : Int) - (t222.size : Int))) ≤ (t219.size : Int) then (if (t219.extract ((wrap64 ((t219.size : Int) - (t222.size : Int))) : Int).toNat t219.size).toList = t222.toList then ((galloonlaw01_awake.f k).bind fun t232 => (some t232)) else (some false)) else (none)) else (none)) else (some false)) else (none)) else (some false)) else (some false)) else (some false)) else (some false)) else (some false))) else (some false)) else (some false)) else (some false)) else (some false)) = some r := H
        have A12 := Aside0.mk A120
        clear A120
        by_cases c13 : t223 = 0
        · rw [if_pos c13] at H
          have c13b0 : (t223 == 0) = true := beq_iff_eq.mpr c13
          have c13b1 : (t223 != 0) = false := bne_eq_false_iff_eq.mpr c13
          clear c13
          by_cases c14 : t226 = 0
          · rw [if_pos c14] at H
            have c14b0 : (t226 == 0) = true := beq_iff_eq.mpr c14
            have c14b1 : (t226 != 0) = false := bne_eq_false_iff_eq.mpr c14
            clear c14
            by_cases c15 : t228 = 0
            · rw [if_pos c15] at H
              have c15b0 : (t228 == 0) = true := beq_iff_eq.mpr c15
              have c15b1 : (t228 != 0) = false := bne_eq_false_iff_eq.mpr c15
              clear c15
              by_cases c16 : t230 = 0
              · rw [if_pos c16] at H
                have c16b0 : (t230 == 0) = true := beq_iff_eq.mpr c16
                have c16b1 : (t230 != 0) = false := bne_eq_false_iff_eq.mpr c16
                clear c16
                replace H := Option.bind_eq_some_iff.mp H
                obtain ⟨t231, A170, H⟩ := H
                replace H : (if t231 = true then (if t225 = (-1) then (if t227.toList = t218.toList then (if t229.toList = t219.toList then (if (t222.size : Int) ≤ (t219.size : Int) then (if 0 ≤ (t222.size : Int) then (if (t219.extract 0 ((t222.size : Int) : Int).toNat).toList = t222.toList then (if 0 ≤ (wrap64 ((t219.size : Int) - (t222.size : Int))) then (if (wrap64 ((t219.size : Int) - (t222.size : Int))) ≤ (t219.size : Int) then (if (t219.extract ((wrap64 ((t219.size : Int) - (t222.size : Int))) : Int).toNat t219.size).toList = t222.toList then ((galloonlaw01_awake.f k).bind fun t232 => (some t232)) else (some false)) else (none)) else (none)) else (some false)) else (none)) else (some false)) else (some false)) else (some false)) else (some false)) else (some false)) = some r := H
                have A17 := Aside0.mk A170
                clear A170
                by_cases c18 : t231 = true
                · subst c18
                  have H1 : (if t225 = (-1) then (if t227.toList = t218.toList then (if t229.toList = t219.toList then (if (t222.size : Int) ≤ (t219.size : Int) then (if 0 ≤ (t222.size : Int) then (if (t219.extract 0 ((t222.size : Int) : Int).toNat).toList = t222.toList then (if 0 ≤ (wrap64 ((t219.size : Int) - (t222.size : Int))) then (if (wrap64 ((t219.size : Int) - (t222.size : Int))) ≤ (t219.size : Int) then (if (t219.extract ((wrap64 ((t219.size : Int) - (t222.size : Int))) : Int).toNat t219.size).toList = t222.toList then ((galloonlaw01_awake.f k).bind fun t232 => (some t232)) else (some false)) else (none)) else (none)) else (some false)) else (none)) else (some false)) else (some false)) else (some false)) else (some false)) = some r := by rw [if_pos rfl] at H; exact H
                  clear H
                  have H := H1
                  clear H1
                  by_cases c19 : t225 = (-1)
                  · rw [if_pos c19] at H
                    have c19b0 : (t225 == (-1)) = true := beq_iff_eq.mpr c19
                    have c19b1 : (t225 != (-1)) = false := bne_eq_false_iff_eq.mpr c19
                    clear c19
                    by_cases c20 : t227.toList = t218.toList
                    · rw [if_pos c20] at H
                      have c20b0 : (t227.toList == t218.toList) = true := beq_iff_eq.mpr c20
                      have c20b1 : (t227.toList != t218.toList) = false := bne_eq_false_iff_eq.mpr c20
                      clear c20
                      by_cases c21 : t229.toList = t219.toList
                      · rw [if_pos c21] at H
                        have c21b0 : (t229.toList == t219.toList) = true := beq_iff_eq.mpr c21
                        have c21b1 : (t229.toList != t219.toList) = false := bne_eq_false_iff_eq.mpr c21
                        clear c21
                        by_cases c22 : (t222.size : Int) ≤ (t219.size : Int)
                        · rw [if_pos c22] at H
                          have c22b0 : decide ((t222.size : Int) ≤ (t219.size : Int)) = true := decide_eq_true c22
                          have c22b1 : decide (t222.size ≤ t219.size) = true := decide_eq_true (Int.ofNat_le.mp c22)
                          clear c22
                          by_cases c23 : 0 ≤ (t222.size : Int)
                          · rw [if_pos c23] at H
                            have c23b0 := eq_true c23
                            have c23b1 : decide (0 ≤ (t222.size : Int)) = true := decide_eq_true c23
                            clear c23
                            have c24b0 := eq_true (of_decide_eq_true (by first | (with_reducible assumption) | assumption) : (t222.size : Int) ≤ (t219.size : Int))
                            by_cases c25 : (t219.extract 0 ((t222.size : Int) : Int).toNat).toList = t222.toList
                            · rw [if_pos c25] at H
                              have c25b0 : ((t219.extract 0 ((t222.size : Int) : Int).toNat).toList == t222.toList) = true := beq_iff_eq.mpr c25
                              have c25b1 : ((t219.extract 0 ((t222.size : Int) : Int).toNat).toList != t222.toList) = false := bne_eq_false_iff_eq.mpr c25
                              try simp only [Int.toNat_natCast] at c25b0 c25b1
                              clear c25
                              obtain ⟨ji26, hji26⟩ : ∃ j_ : Int, (wrap64 ((t219.size : Int) - (t222.size : Int))) = j_ := ⟨_, rfl⟩
                              replace H : (if 0 ≤ (ji26) then (if (ji26) ≤ (t219.size : Int) then (if (t219.extract ((ji26) : Int).toNat t219.size).toList = t222.toList then ((galloonlaw01_awake.f k).bind fun t232 => (some t232)) else (some false)) else (none)) else (none)) = some r := by first | (rw [hji26] at H; exact H) | (simp only [hji26] at H ⊢; exact H)
                              (try rw [hji26] at A3)
                              (try rw [hji26] at A4)
                              (try rw [hji26] at A5)
                              (try rw [hji26] at A8)
                              (try rw [hji26] at A10)
                              (try rw [hji26] at A11)
                              (try rw [hji26] at A12)
                              (try rw [hji26] at A17)
                              have hji26w : (IntKind.i64.wrap ((t219.size : Int) - (t222.size : Int))) = ji26 := (i64_w _).trans hji26
                              by_cases c27 : 0 ≤ (ji26)
                              · rw [if_pos c27] at H
                                have c27b0 := eq_true c27
                                have c27b1 : decide (0 ≤ (ji26)) = true := decide_eq_true c27
                                clear c27
                                by_cases c28 : (ji26) ≤ (t219.size : Int)
                                · rw [if_pos c28] at H
                                  have c28b0 := eq_true c28
                                  have c28b1 : decide ((ji26) ≤ (t219.size : Int)) = true := decide_eq_true c28
                                  clear c28
                                  by_cases c29 : (t219.extract ((ji26) : Int).toNat t219.size).toList = t222.toList
                                  · rw [if_pos c29] at H
                                    have c29b0 : ((t219.extract ((ji26) : Int).toNat t219.size).toList == t222.toList) = true := beq_iff_eq.mpr c29
                                    have c29b1 : ((t219.extract ((ji26) : Int).toNat t219.size).toList != t222.toList) = false := bne_eq_false_iff_eq.mpr c29
                                    clear c29
                                    replace H := Option.bind_eq_some_iff.mp H
                                    obtain ⟨t232, A300, H⟩ := H
                                    replace H : (some t232) = some r := H
                                    have A30 := Aside0.mk A300
                                    clear A300
                                    obtain rfl := Option.some.inj H
                                    go_enter Try.func5, Try.ntmps5
                                    go_wp2_with (first | ((with_reducible refine gate_callee (f := 30) rfl ?_); refine goesL_ (some 18) rfl rfl Try.func30 (by kernel_rfl) rfl #[.string a0, .int .i64 12] rfl (by (try simp only [List.map_toArray, List.map_cons, List.map_nil]); first | done | rfl | (simp only [List.length_drop, List.length_take]; rfl)) ?_; (with_reducible refine (galloonlaw01_tame.calls k a0 12 t218 _ A3.out).mono ?_); rintro e w31 ⟨rfl, hb⟩; refine ⟨_, rfl, ?_⟩; have n0_ := Aside0.mk (below_step (by repeat (first | (with_reducible first | exact HB.out | apply below_alloc | apply pw_below_drewN | apply below_drew1) | exact HB.out)) hb); clear HB; have HB := n0_; clear n0_; (try clear hb); (try clear hb2); (try clear hk); (try clear hi)) | ((with_reducible refine gate_callee (f := 25) rfl ?_); refine goesL_ (some 21) rfl rfl Try.func25 (by kernel_rfl) rfl #[.string t218] rfl (by (try simp only [List.map_toArray, List.map_cons, List.map_nil]); first | done | rfl | (simp only [List.length_drop, List.length_take]; rfl)) ?_; (with_reducible refine (trim_Tower.calls k t218 t219 t220 _ A4.out).mono ?_); rintro e w32 ⟨rfl, hb⟩; refine ⟨_, rfl, ?_⟩; have n0_ := Aside0.mk (below_step (by repeat (first | (with_reducible first | exact HB.out | apply below_alloc | apply pw_below_drewN | apply below_drew1) | exact HB.out)) hb); clear HB; have HB := n0_; clear n0_; (try clear hb); (try clear hb2); (try clear hk); (try clear hi)) | ((with_reducible refine gate_callee (f := 31) rfl ?_); refine goesL_ (some 29) rfl rfl Try.func31 (by kernel_rfl) rfl #[.int .i64 a1, .int .i64 (wrap64 ((t218.size : Int) + 1))] rfl (by (try simp only [List.map_toArray, List.map_cons, List.map_nil]); first | done | rfl | (simp only [List.length_drop, List.length_take]; rfl)) ?_; (with_reducible refine (galloonlaw01_mod.calls a1 (wrap64 ((t218.size : Int) + 1)) t221 _ A5.out).mono ?_); rintro e w' ⟨rfl, ⟨nd, rfl⟩⟩; refine ⟨_, rfl, ?_⟩) | ((with_reducible refine gate_callee (f := 25) rfl ?_); refine goesL_ (some 33) rfl rfl Try.func25 (by kernel_rfl) rfl #[.string (t218.extract 0 (t221 : Int).toNat)] rfl (by (try simp only [List.map_toArray, List.map_cons, List.map_nil]); first | done | rfl | (simp only [List.length_drop, List.length_take]; rfl)) ?_; (with_reducible refine (trim_Tower.calls k (t218.extract 0 (t221 : Int).toNat) t222 t223 _ A8.out).mono ?_); rintro e w33 ⟨rfl, hb⟩; refine ⟨_, rfl, ?_⟩; have n0_ := Aside0.mk (below_step (by repeat (first | (with_reducible first | exact HB.out | apply below_alloc | apply pw_below_drewN | apply below_drew1) | exact HB.out)) hb); clear HB; have HB := n0_; clear n0_; (try clear hb); (try clear hb2); (try clear hk); (try clear hi)) | ((with_reducible refine gate_callee (f := 18) rfl ?_); refine goesL_ (some 49) rfl rfl Try.func18 (by kernel_rfl) rfl #[.string t219] rfl (by (try simp only [List.map_toArray, List.map_cons, List.map_nil]); first | done | rfl | (simp only [List.length_drop, List.length_take]; rfl)) ?_; (with_reducible refine (trim_Rich.calls k t219 t225 t226 _ A10.out (Glob.at hg (by repeat (first | (with_reducible first | exact HB.out | apply below_alloc | apply pw_below_drewN | apply below_drew1) | exact HB.out)))).mono ?_); rintro e w34 ⟨rfl, hb⟩; refine ⟨_, rfl, ?_⟩; have n0_ := Aside0.mk (below_step (by repeat (first | (with_reducible first | exact HB.out | apply below_alloc | apply pw_below_drewN | apply below_drew1) | exact HB.out)) hb); clear HB; have HB := n0_; clear n0_; (try clear hb); (try clear hb2); (try clear hk); (try clear hi)) | ((with_reducible refine gate_callee (f := 26) rfl ?_); refine goesL_ (some 54) rfl rfl Try.func26 (by kernel_rfl) rfl #[.string t219] rfl (by (try simp only [List.map_toArray, List.map_cons, List.map_nil]); first | done | rfl | (simp only [List.length_drop, List.length_take]; rfl)) ?_; (with_reducible refine (trim_Base.calls k t219 t227 t228 _ A11.out).mono ?_); rintro e w35 ⟨rfl, hb⟩; refine ⟨_, rfl, ?_⟩; have n0_ := Aside0.mk (below_step (by repeat (first | (with_reducible first | exact HB.out | apply below_alloc | apply pw_below_drewN | apply below_drew1) | exact HB.out)) hb); clear HB; have HB := n0_; clear n0_; (try clear hb); (try clear hb2); (try clear hk); (try clear hi)) | ((with_reducible refine gate_callee (f := 24) rfl ?_); refine goesL_ (some 59) rfl rfl Try.func24 (by kernel_rfl) rfl #[.string t219] rfl (by (try simp only [List.map_toArray, List.map_cons, List.map_nil]); first | done | rfl | (simp only [List.length_drop, List.length_take]; rfl)) ?_; (with_reducible refine (trim_Closure.calls k t219 t229 t230 _ A12.out).mono ?_); rintro e w36 ⟨rfl, hb⟩; refine ⟨_, rfl, ?_⟩; have n0_ := Aside0.mk (below_step (by repeat (first | (with_reducible first | exact HB.out | apply below_alloc | apply pw_below_drewN | apply below_drew1) | exact HB.out)) hb); clear HB; have HB := n0_; clear n0_; (try clear hb); (try clear hb2); (try clear hk); (try clear hi)) | (go_at_call 32; (with_reducible refine (galloonref01_Palindrome.calls k t219 true _ A17.out).mono ?_); rintro e w' ⟨rfl, ⟨nd, rfl⟩⟩) | (go_at_call 20; (with_reducible refine (galloonlaw01_awake.calls k  t232 _ A30.out (Glob.at hg (by repeat (first | (with_reducible first | exact HB.out | apply below_alloc | apply pw_below_drewN | apply below_drew1) | exact HB.out)))).mono ?_); rintro e w37 ⟨rfl, hb⟩; have n0_ := Aside0.mk (below_step (by repeat (first | (with_reducible first | exact HB.out | apply below_alloc | apply pw_below_drewN | apply below_drew1) | exact HB.out)) hb); clear HB; have HB := n0_; clear n0_; (try clear hb); (try clear hb2); (try clear hk); (try clear hi)))
                                    go_ret
                                    exact ⟨by first | rfl | (simp [errW_none, errW_some] <;> rfl) | (simp only [← hji26]; first | rfl | (simp [errW_none, errW_some] <;> rfl)) | (simp [*, errW_none, errW_some] <;> rfl), by repeat (first | (with_reducible first | exact HB.out | apply below_alloc | apply pw_below_drewN | apply below_drew1) | exact HB.out)⟩
                                  · rw [if_neg c29] at H
                                    have c29b0 : ((t219.extract ((ji26) : Int).toNat t219.size).toList == t222.toList) = false := beq_eq_false_iff_ne.mpr c29
                                    have c29b1 : ((t219.extract ((ji26) : Int).toNat t219.size).toList != t222.toList) = true := bne_iff_ne.mpr c29
                                    obtain rfl := Option.some.inj H
                                    exact absurd hr.out (by decide)
                                · rw [if_neg c28] at H
                                  exact absurd H (by simp)
                              · rw [if_neg c27] at H
                                exact absurd H (by simp)
                            · rw [if_neg c25] at H
                              have c25b0 : ((t219.extract 0 ((t222.size : Int) : Int).toNat).toList == t222.toList) = false := beq_eq_false_iff_ne.mpr c25
                              have c25b1 : ((t219.extract 0 ((t222.size : Int) : Int).toNat).toList != t222.toList) = true := bne_iff_ne.mpr c25
                              try simp only [Int.toNat_natCast] at c25b0 c25b1
                              obtain rfl := Option.some.inj H
                              exact absurd hr.out (by decide)
                          · rw [if_neg c23] at H
                            exact absurd H (by simp)
                        · rw [if_neg c22] at H
                          have c22b0 : decide ((t222.size : Int) ≤ (t219.size : Int)) = false := decide_eq_false c22
                          have c22b1 : decide (t222.size ≤ t219.size) = false := decide_eq_false (fun h => c22 (Int.ofNat_le.mpr h))
                          clear c22
                          obtain rfl := Option.some.inj H
                          exact absurd hr.out (by decide)
                      · rw [if_neg c21] at H
                        have c21b0 : (t229.toList == t219.toList) = false := beq_eq_false_iff_ne.mpr c21
                        have c21b1 : (t229.toList != t219.toList) = true := bne_iff_ne.mpr c21
                        obtain rfl := Option.some.inj H
                        exact absurd hr.out (by decide)
                    · rw [if_neg c20] at H
                      have c20b0 : (t227.toList == t218.toList) = false := beq_eq_false_iff_ne.mpr c20
                      have c20b1 : (t227.toList != t218.toList) = true := bne_iff_ne.mpr c20
                      obtain rfl := Option.some.inj H
                      exact absurd hr.out (by decide)
                  · rw [if_neg c19] at H
                    have c19b0 : (t225 == (-1)) = false := beq_eq_false_iff_ne.mpr c19
                    have c19b1 : (t225 != (-1)) = true := bne_iff_ne.mpr c19
                    obtain rfl := Option.some.inj H
                    exact absurd hr.out (by decide)
                · replace c18 := Bool.eq_false_iff.mpr c18
                  subst c18
                  have H1 : (some false) = some r := by rw [if_neg (show ¬ (false = true) by decide)] at H; exact H
                  clear H
                  have H := H1
                  clear H1
                  obtain rfl := Option.some.inj H
                  exact absurd hr.out (by decide)
              · rw [if_neg c16] at H
                have c16b0 : (t230 == 0) = false := beq_eq_false_iff_ne.mpr c16
                have c16b1 : (t230 != 0) = true := bne_iff_ne.mpr c16
                obtain rfl := Option.some.inj H
                exact absurd hr.out (by decide)
            · rw [if_neg c15] at H
              have c15b0 : (t228 == 0) = false := beq_eq_false_iff_ne.mpr c15
              have c15b1 : (t228 != 0) = true := bne_iff_ne.mpr c15
              obtain rfl := Option.some.inj H
              exact absurd hr.out (by decide)
          · rw [if_neg c14] at H
            have c14b0 : (t226 == 0) = false := beq_eq_false_iff_ne.mpr c14
            have c14b1 : (t226 != 0) = true := bne_iff_ne.mpr c14
            obtain rfl := Option.some.inj H
            exact absurd hr.out (by decide)
        · rw [if_neg c13] at H
          have c13b0 : (t223 == 0) = false := beq_eq_false_iff_ne.mpr c13
          have c13b1 : (t223 != 0) = true := bne_iff_ne.mpr c13
          obtain rfl := Option.some.inj H
          exact absurd hr.out (by decide)
      · rw [if_neg c9] at H
        have c9b0 : (t220 == 0) = false := beq_eq_false_iff_ne.mpr c9
        have c9b1 : (t220 != 0) = true := bne_iff_ne.mpr c9
        by_cases c38 : t220 = 5
        · rw [if_pos c38] at H
          have c38b0 : (t220 == 5) = true := beq_iff_eq.mpr c38
          have c38b1 : (t220 != 5) = false := bne_eq_false_iff_eq.mpr c38
          clear c38
          by_cases c39 : t219.toList = ([] : List UInt8)
          · rw [if_pos c39] at H
            have c39b0 : (t219.toList == ([] : List UInt8)) = true := beq_iff_eq.mpr c39
            have c39b1 : (t219.toList != ([] : List UInt8)) = false := bne_eq_false_iff_eq.mpr c39
            clear c39
            replace H := Option.bind_eq_some_iff.mp H
            obtain ⟨t224, A400, H⟩ := H
            replace H : (some t224) = some r := H
            have A40 := Aside0.mk A400
            clear A400
            obtain rfl := Option.some.inj H
            go_enter Try.func5, Try.ntmps5
            go_wp2_with (first | ((with_reducible refine gate_callee (f := 30) rfl ?_); refine goesL_ (some 18) rfl rfl Try.func30 (by kernel_rfl) rfl #[.string a0, .int .i64 12] rfl (by (try simp only [List.map_toArray, List.map_cons, List.map_nil]); first | done | rfl | (simp only [List.length_drop, List.length_take]; rfl)) ?_; (with_reducible refine (galloonlaw01_tame.calls k a0 12 t218 _ A3.out).mono ?_); rintro e w41 ⟨rfl, hb⟩; refine ⟨_, rfl, ?_⟩; have n0_ := Aside0.mk (below_step (by repeat (first | (with_reducible first | exact HB.out | apply below_alloc | apply pw_below_drewN | apply below_drew1) | exact HB.out)) hb); clear HB; have HB := n0_; clear n0_; (try clear hb); (try clear hb2); (try clear hk); (try clear hi)) | ((with_reducible refine gate_callee (f := 25) rfl ?_); refine goesL_ (some 21) rfl rfl Try.func25 (by kernel_rfl) rfl #[.string t218] rfl (by (try simp only [List.map_toArray, List.map_cons, List.map_nil]); first | done | rfl | (simp only [List.length_drop, List.length_take]; rfl)) ?_; (with_reducible refine (trim_Tower.calls k t218 t219 t220 _ A4.out).mono ?_); rintro e w42 ⟨rfl, hb⟩; refine ⟨_, rfl, ?_⟩; have n0_ := Aside0.mk (below_step (by repeat (first | (with_reducible first | exact HB.out | apply below_alloc | apply pw_below_drewN | apply below_drew1) | exact HB.out)) hb); clear HB; have HB := n0_; clear n0_; (try clear hb); (try clear hb2); (try clear hk); (try clear hi)) | ((with_reducible refine gate_callee (f := 31) rfl ?_); refine goesL_ (some 29) rfl rfl Try.func31 (by kernel_rfl) rfl #[.int .i64 a1, .int .i64 (wrap64 ((t218.size : Int) + 1))] rfl (by (try simp only [List.map_toArray, List.map_cons, List.map_nil]); first | done | rfl | (simp only [List.length_drop, List.length_take]; rfl)) ?_; (with_reducible refine (galloonlaw01_mod.calls a1 (wrap64 ((t218.size : Int) + 1)) t221 _ A5.out).mono ?_); rintro e w' ⟨rfl, ⟨nd, rfl⟩⟩; refine ⟨_, rfl, ?_⟩) | ((with_reducible refine gate_callee (f := 25) rfl ?_); refine goesL_ (some 33) rfl rfl Try.func25 (by kernel_rfl) rfl #[.string (t218.extract 0 (t221 : Int).toNat)] rfl (by (try simp only [List.map_toArray, List.map_cons, List.map_nil]); first | done | rfl | (simp only [List.length_drop, List.length_take]; rfl)) ?_; (with_reducible refine (trim_Tower.calls k (t218.extract 0 (t221 : Int).toNat) t222 t223 _ A8.out).mono ?_); rintro e w43 ⟨rfl, hb⟩; refine ⟨_, rfl, ?_⟩; have n0_ := Aside0.mk (below_step (by repeat (first | (with_reducible first | exact HB.out | apply below_alloc | apply pw_below_drewN | apply below_drew1) | exact HB.out)) hb); clear HB; have HB := n0_; clear n0_; (try clear hb); (try clear hb2); (try clear hk); (try clear hi)) | (go_at_call 20; (with_reducible refine (galloonlaw01_awake.calls k  t224 _ A40.out (Glob.at hg (by repeat (first | (with_reducible first | exact HB.out | apply below_alloc | apply pw_below_drewN | apply below_drew1) | exact HB.out)))).mono ?_); rintro e w44 ⟨rfl, hb⟩; have n0_ := Aside0.mk (below_step (by repeat (first | (with_reducible first | exact HB.out | apply below_alloc | apply pw_below_drewN | apply below_drew1) | exact HB.out)) hb); clear HB; have HB := n0_; clear n0_; (try clear hb); (try clear hb2); (try clear hk); (try clear hi)))
            go_ret
            exact ⟨by first | rfl | (simp [errW_none, errW_some] <;> rfl) | (simp [*, errW_none, errW_some] <;> rfl), by repeat (first | (with_reducible first | exact HB.out | apply below_alloc | apply pw_below_drewN | apply below_drew1) | exact HB.out)⟩
          · rw [if_neg c39] at H
            have c39b0 : (t219.toList == ([] : List UInt8)) = false := beq_eq_false_iff_ne.mpr c39
            have c39b1 : (t219.toList != ([] : List UInt8)) = true := bne_iff_ne.mpr c39
            obtain rfl := Option.some.inj H
            exact absurd hr.out (by decide)
        · rw [if_neg c38] at H
          have c38b0 : (t220 == 5) = false := beq_eq_false_iff_ne.mpr c38
          have c38b1 : (t220 != 5) = true := bne_iff_ne.mpr c38
          obtain rfl := Option.some.inj H
          exact absurd hr.out (by decide)
    · rw [if_neg c7] at H
      exact absurd H (by simp)
  · rw [if_neg c6] at H
    exact absurd H (by simp)

/-- THE ONE PURE STATEMENT of galloonlaw01_TrimTowers: yours. -/
def galloonlaw01_TrimTowers.Pure : Prop := ∀ (a0 : ByteArray) (a1 : Int), a0.size ≤ 140737488351232 → (Lit.int .i64 a1).wf = true → ∃ k, galloonlaw01_TrimTowers.f k a0 a1 = some true
theorem galloonlaw01_TrimTowers.walk (P : galloonlaw01_TrimTowers.Pure) (a0 : ByteArray) (a1 : Int) (w : World) (w0 : a0.size ≤ 140737488351232) (w1 : (Lit.int .i64 a1).wf = true) (hg : Glob w) :
    Calls Try.prog 5 #[.string a0, .int .i64 a1] w fun e w' => e = .returned (.bool true) ∧ Below w.heap.size w w' := by
  obtain ⟨k, h⟩ := P a0 a1 w0 w1
  refine (galloonlaw01_TrimTowers.calls k a0 a1 true w h ⟨rfl⟩ hg).mono ?_
  rintro e w' ⟨rfl, hd⟩
  exact ⟨rfl, hd⟩

end Go.Proofs.Ytbdlhgdfnnbjiaa.PY
