-- Made by the session's own driver (wip/tools/p2.py) out of the translation; Lean checks it.
import Derived.Test.YtbdlhgdfnnbjiaaPYx0
import Derived.Test.YtbdlhgdfnnbjiaaPYx1
import Derived.Test.YtbdlhgdfnnbjiaaPYx5
import Derived.Test.YtbdlhgdfnnbjiaaPYx8
import Derived.Test.YtbdlhgdfnnbjiaaPYx10
import Derived.Test.YtbdlhgdfnnbjiaaPYx18
import Derived.Test.YtbdlhgdfnnbjiaaPYx20
import Derived.Test.YtbdlhgdfnnbjiaaPYx21
import Derived.Test.YtbdlhgdfnnbjiaaGLongest
import Derived.Test.YtbdlhgdfnnbjiaaGOccurrences
import Derived.Test.YtbdlhgdfnnbjiaaGPalindromes
namespace Go.Proofs.Ytbdlhgdfnnbjiaa.PY
open Go.RowKit Go.Proofs.YtbdlhgdfnnbjiaaW.PrintWords Go.Proofs.YtbdlhgdfnnbjiaaW.PrintLast Go.Proofs.YtbdlhgdfnnbjiaaW.PrintMore
attribute [local go_sem] max2_int min2_int max_two min_two max_three min_three max_four min_four   -- for this text's walks alone
set_option linter.unusedVariables false
set_option linter.unusedSimpArgs false

/-! ### galloonlaw01_TrimPalindromes: function 6 -/
def galloonlaw01_TrimPalindromes.f (k : Nat) (a0 : ByteArray) : Option (Bool) := (galloonlaw01_short.f a0).bind fun t304 => ((trim_Palindromes.f t304).bind fun bt305 => ((trim_Centers.f k t304).bind fun bt309 => ((trim_Occurrences.f t304).bind fun bt313 => ((trim_Longest.f t304).bind fun bt315 => ((galloonref01_Word.f k t304).bind fun t318 => (if t318 = true then ((galloonref01_Longest.f k t304).bind fun bt320 => ((galloonref01_Palindromes.f k t304).bind fun t322 => ((galloonlaw01_texts.f k bt305.1 t322).bind fun t325 => (if t325 = true then (if bt305.2 = 0 then ((galloonref01_Centers.f k t304).bind fun t326 => ((galloonlaw01_ints.f k bt309.1 t326).bind fun t329 => (if t329 = true then (if bt309.2 = 0 then ((galloonref01_Occurrences.f k t304).bind fun t330 => (if bt313.1 = t330 then (if bt313.2 = 0 then (if bt315.1 = bt320.1 then (if bt315.2.1 = bt320.2 then (if bt315.2.2 = 0 then ((galloonlaw01_awake.f k).bind fun t331 => (some t331)) else (some false)) else (some false)) else (some false)) else (some false)) else (some false))) else (some false)) else (some false)))) else (some false)) else (some false))))) else (if (bt305.1.length : Int) = 0 then (if bt305.2 = 2 then (if (bt309.1.length : Int) = 0 then (if bt309.2 = 2 then (if bt313.1 = 0 then (if bt313.2 = 2 then (if bt315.1 = 0 then (if bt315.2.1 = 0 then (if bt315.2.2 = 2 then ((galloonlaw01_awake.f k).bind fun t319 => (some t319)) else (some false)) else (some false)) else (some false)) else (some false)) else (some false)) else (some false)) else (some false)) else (some false)) else (some false))))))))
theorem galloonlaw01_TrimPalindromes.mono : ∀ a0 k, LeO (galloonlaw01_TrimPalindromes.f k a0) (galloonlaw01_TrimPalindromes.f (k + 1) a0) := by
  intro a0 k
  unfold galloonlaw01_TrimPalindromes.f
  repeat' first
      | (with_reducible exact galloonlaw01_awake.mono _)
      | (with_reducible exact galloonlaw01_ints.mono _ _ _)
      | (with_reducible exact galloonlaw01_texts.mono _ _ _)
      | (with_reducible exact galloonref01_Centers.mono _ _)
      | (with_reducible exact galloonref01_Longest.mono _ _)
      | (with_reducible exact galloonref01_Occurrences.mono _ _)
      | (with_reducible exact galloonref01_Palindromes.mono _ _)
      | (with_reducible exact galloonref01_Word.mono _ _)
      | (with_reducible exact trim_Centers.mono _ _)
      | (with_reducible exact LeO.refl _)
      | (with_reducible exact LeO.none _)
      | (with_reducible refine LeO.ite ?_ ?_)
      | (with_reducible refine LeO.bind ?_ (fun _ => ?_))
      | exact galloonlaw01_awake.mono _
      | exact galloonlaw01_ints.mono _ _ _
      | exact galloonlaw01_texts.mono _ _ _
      | exact galloonref01_Centers.mono _ _
      | exact galloonref01_Longest.mono _ _
      | exact galloonref01_Occurrences.mono _ _
      | exact galloonref01_Palindromes.mono _ _
      | exact galloonref01_Word.mono _ _
      | exact trim_Centers.mono _ _
      | exact LeO.none _
      | refine LeO.ite ?_ ?_
      | refine LeO.bind ?_ (fun _ => ?_)
set_option maxHeartbeats 8000000 in
set_option maxRecDepth 100000 in
theorem galloonlaw01_TrimPalindromes.calls (k : Nat) (a0 : ByteArray) (r : Bool) (w : World) (h : galloonlaw01_TrimPalindromes.f k a0 = some r) (hr : Aside0 (r = true)) (hg : Glob w) :
    Calls Try.prog 6 #[.string a0] w fun e w' => e = .returned (.bool r) ∧ Below w.heap.size w w' := by
  have HB := Aside0.mk (Below.refl w.heap.size w)
  have H : ((galloonlaw01_short.f a0).bind fun t304 => ((trim_Palindromes.f t304).bind fun bt305 => ((trim_Centers.f k t304).bind fun bt309 => ((trim_Occurrences.f t304).bind fun bt313 => ((trim_Longest.f t304).bind fun bt315 => ((galloonref01_Word.f k t304).bind fun t318 => (if t318 = true then ((galloonref01_Longest.f k t304).bind fun bt320 => ((galloonref01_Palindromes.f k t304).bind fun t322 => ((galloonlaw01_texts.f k bt305.1 t322).bind fun t325 => (if t325 = true then (if bt305.2 = 0 then ((galloonref01_Centers.f k t304).bind fun t326 => ((galloonlaw01_ints.f k bt309.1 t326).bind fun t329 => (if t329 = true then (if bt309.2 = 0 then ((galloonref01_Occurrences.f k t304).bind fun t330 => (if bt313.1 = t330 then (if bt313.2 = 0 then (if bt315.1 = bt320.1 then (if bt315.2.1 = bt320.2 then (if bt315.2.2 = 0 then ((galloonlaw01_awake.f k).bind fun t331 => (some t331)) else (some false)) else (some false)) else (some false)) else (some false)) else (some false))) else (some false)) else (some false)))) else (some false)) else (some false))))) else (if (bt305.1.length : Int) = 0 then (if bt305.2 = 2 then (if (bt309.1.length : Int) = 0 then (if bt309.2 = 2 then (if bt313.1 = 0 then (if bt313.2 = 2 then (if bt315.1 = 0 then (if bt315.2.1 = 0 then (if bt315.2.2 = 2 then ((galloonlaw01_awake.f k).bind fun t319 => (some t319)) else (some false)) else (some false)) else (some false)) else (some false)) else (some false)) else (some false)) else (some false)) else (some false)) else (some false))))))))) = some r := h
  clear h
  replace H := Option.bind_eq_some_iff.mp H
  obtain ⟨t304, A20, H⟩ := H
  replace H : ((trim_Palindromes.f t304).bind fun bt305 => ((trim_Centers.f k t304).bind fun bt309 => ((trim_Occurrences.f t304).bind fun bt313 => ((trim_Longest.f t304).bind fun bt315 => ((galloonref01_Word.f k t304).bind fun t318 => (if t318 = true then ((galloonref01_Longest.f k t304).bind fun bt320 => ((galloonref01_Palindromes.f k t304).bind fun t322 => ((galloonlaw01_texts.f k bt305.1 t322).bind fun t325 => (if t325 = true then (if bt305.2 = 0 then ((galloonref01_Centers.f k t304).bind fun t326 => ((galloonlaw01_ints.f k bt309.1 t326).bind fun t329 => (if t329 = true then (if bt309.2 = 0 then ((galloonref01_Occurrences.f k t304).bind fun t330 => (if bt313.1 = t330 then (if bt313.2 = 0 then (if bt315.1 = bt320.1 then (if bt315.2.1 = bt320.2 then (if bt315.2.2 = 0 then ((galloonlaw01_awake.f k).bind fun t331 => (some t331)) else (some false)) else (some false)) else (some false)) else (some false)) else (some false))) else (some false)) else (some false)))) else (some false)) else (some false))))) else (if (bt305.1.length : Int) = 0 then (if bt305.2 = 2 then (if (bt309.1.length : Int) = 0 then (if bt309.2 = 2 then (if bt313.1 = 0 then (if bt313.2 = 2 then (if bt315.1 = 0 then (if bt315.2.1 = 0 then (if bt315.2.2 = 2 then ((galloonlaw01_awake.f k).bind fun t319 => (some t319)) else (some false)) else (some false)) else (some false)) else (some false)) else (some false)) else (some false)) else (some false)) else (some false)) else (some false)))))))) = some r := H
  have A2 := Aside0.mk A20
  clear A20
  replace H := Option.bind_eq_some_iff.mp H
  obtain ⟨⟨t305, t306⟩, A30, H⟩ := H
  replace H : ((trim_Centers.f k t304).bind fun bt309 => ((trim_Occurrences.f t304).bind fun bt313 => ((trim_Longest.f t304).bind fun bt315 => ((galloonref01_Word.f k t304).bind fun t318 => (if t318 = true then ((galloonref01_Longest.f k t304).bind fun bt320 => ((galloonref01_Palindromes.f k t304).bind fun t322 => ((galloonlaw01_texts.f k t305 t322).bind fun t325 => (if t325 = true then (if t306 = 0 then ((galloonref01_Centers.f k t304).bind fun t326 => ((galloonlaw01_ints.f k bt309.1 t326).bind fun t329 => (if t329 = true then (if bt309.2 = 0 then ((galloonref01_Occurrences.f k t304).bind fun t330 => (if bt313.1 = t330 then (if bt313.2 = 0 then (if bt315.1 = bt320.1 then (if bt315.2.1 = bt320.2 then (if bt315.2.2 = 0 then ((galloonlaw01_awake.f k).bind fun t331 => (some t331)) else (some false)) else (some false)) else (some false)) else (some false)) else (some false))) else (some false)) else (some false)))) else (some false)) else (some false))))) else (if (t305.length : Int) = 0 then (if t306 = 2 then (if (bt309.1.length : Int) = 0 then (if bt309.2 = 2 then (if bt313.1 = 0 then (if bt313.2 = 2 then (if bt315.1 = 0 then (if bt315.2.1 = 0 then (if bt315.2.2 = 2 then ((galloonlaw01_awake.f k).bind fun t319 => (some t319)) else (some false)) else (some false)) else (some false)) else (some false)) else (some false)) else (some false)) else (some false)) else (some false)) else (some false))))))) = some r := H
  have A3 := Aside0.mk A30
  clear A30
  replace H := Option.bind_eq_some_iff.mp H
  obtain ⟨⟨t309, t310⟩, A40, H⟩ := H
  replace H : ((trim_Occurrences.f t304).bind fun bt313 => ((trim_Longest.f t304).bind fun bt315 => ((galloonref01_Word.f k t304).bind fun t318 => (if t318 = true then ((galloonref01_Longest.f k t304).bind fun bt320 => ((galloonref01_Palindromes.f k t304).bind fun t322 => ((galloonlaw01_texts.f k t305 t322).bind fun t325 => (if t325 = true then (if t306 = 0 then ((galloonref01_Centers.f k t304).bind fun t326 => ((galloonlaw01_ints.f k t309 t326).bind fun t329 => (if t329 = true then (if t310 = 0 then ((galloonref01_Occurrences.f k t304).bind fun t330 => (if bt313.1 = t330 then (if bt313.2 = 0 then (if bt315.1 = bt320.1 then (if bt315.2.1 = bt320.2 then (if bt315.2.2 = 0 then ((galloonlaw01_awake.f k).bind fun t331 => (some t331)) else (some false)) else (some false)) else (some false)) else (some false)) else (some false))) else (some false)) else (some false)))) else (some false)) else (some false))))) else (if (t305.length : Int) = 0 then (if t306 = 2 then (if (t309.length : Int) = 0 then (if t310 = 2 then (if bt313.1 = 0 then (if bt313.2 = 2 then (if bt315.1 = 0 then (if bt315.2.1 = 0 then (if bt315.2.2 = 2 then ((galloonlaw01_awake.f k).bind fun t319 => (some t319)) else (some false)) else (some false)) else (some false)) else (some false)) else (some false)) else (some false)) else (some false)) else (some false)) else (some false)))))) = some r := H
  have A4 := Aside0.mk A40
  clear A40
  replace H := Option.bind_eq_some_iff.mp H
  obtain ⟨⟨t313, t314⟩, A50, H⟩ := H
  replace H : ((trim_Longest.f t304).bind fun bt315 => ((galloonref01_Word.f k t304).bind fun t318 => (if t318 = true then ((galloonref01_Longest.f k t304).bind fun bt320 => ((galloonref01_Palindromes.f k t304).bind fun t322 => ((galloonlaw01_texts.f k t305 t322).bind fun t325 => (if t325 = true then (if t306 = 0 then ((galloonref01_Centers.f k t304).bind fun t326 => ((galloonlaw01_ints.f k t309 t326).bind fun t329 => (if t329 = true then (if t310 = 0 then ((galloonref01_Occurrences.f k t304).bind fun t330 => (if t313 = t330 then (if t314 = 0 then (if bt315.1 = bt320.1 then (if bt315.2.1 = bt320.2 then (if bt315.2.2 = 0 then ((galloonlaw01_awake.f k).bind fun t331 => (some t331)) else (some false)) else (some false)) else (some false)) else (some false)) else (some false))) else (some false)) else (some false)))) else (some false)) else (some false))))) else (if (t305.length : Int) = 0 then (if t306 = 2 then (if (t309.length : Int) = 0 then (if t310 = 2 then (if t313 = 0 then (if t314 = 2 then (if bt315.1 = 0 then (if bt315.2.1 = 0 then (if bt315.2.2 = 2 then ((galloonlaw01_awake.f k).bind fun t319 => (some t319)) else (some false)) else (some false)) else (some false)) else (some false)) else (some false)) else (some false)) else (some false)) else (some false)) else (some false))))) = some r := H
  have A5 := Aside0.mk A50
  clear A50
  replace H := Option.bind_eq_some_iff.mp H
  obtain ⟨⟨t315, t316, t317⟩, A60, H⟩ := H
  replace H : ((galloonref01_Word.f k t304).bind fun t318 => (if t318 = true then ((galloonref01_Longest.f k t304).bind fun bt320 => ((galloonref01_Palindromes.f k t304).bind fun t322 => ((galloonlaw01_texts.f k t305 t322).bind fun t325 => (if t325 = true then (if t306 = 0 then ((galloonref01_Centers.f k t304).bind fun t326 => ((galloonlaw01_ints.f k t309 t326).bind fun t329 => (if t329 = true then (if t310 = 0 then ((galloonref01_Occurrences.f k t304).bind fun t330 => (if t313 = t330 then (if t314 = 0 then (if t315 = bt320.1 then (if t316 = bt320.2 then (if t317 = 0 then ((galloonlaw01_awake.f k).bind fun t331 => (some t331)) else (some false)) else (some false)) else (some false)) else (some false)) else (some false))) else (some false)) else (some false)))) else (some false)) else (some false))))) else (if (t305.length : Int) = 0 then (if t306 = 2 then (if (t309.length : Int) = 0 then (if t310 = 2 then (if t313 = 0 then (if t314 = 2 then (if t315 = 0 then (if t316 = 0 then (if t317 = 2 then ((galloonlaw01_awake.f k).bind fun t319 => (some t319)) else (some false)) else (some false)) else (some false)) else (some false)) else (some false)) else (some false)) else (some false)) else (some false)) else (some false)))) = some r := H
  have A6 := Aside0.mk A60
  clear A60
  replace H := Option.bind_eq_some_iff.mp H
  obtain ⟨t318, A70, H⟩ := H
  replace H : (if t318 = true then ((galloonref01_Longest.f k t304).bind fun bt320 => ((galloonref01_Palindromes.f k t304).bind fun t322 => ((galloonlaw01_texts.f k t305 t322).bind fun t325 => (if t325 = true then (if t306 = 0 then ((galloonref01_Centers.f k t304).bind fun t326 => ((galloonlaw01_ints.f k t309 t326).bind fun t329 => (if t329 = true then (if t310 = 0 then ((galloonref01_Occurrences.f k t304).bind fun t330 => (if t313 = t330 then (if t314 = 0 then (if t315 = bt320.1 then (if t316 = bt320.2 then (if t317 = 0 then ((galloonlaw01_awake.f k).bind fun t331 => (some t331)) else (some false)) else (some false)) else (some false)) else (some false)) else (some false))) else (some false)) else (some false)))) else (some false)) else (some false))))) else (if (t305.length : Int) = 0 then (if t306 = 2 then (if (t309.length : Int) = 0 then (if t310 = 2 then (if t313 = 0 then (if t314 = 2 then (if t315 = 0 then (if t316 = 0 then (if t317 = 2 then ((galloonlaw01_awake.f k).bind fun t319 => (some t319)) else (some false)) else (some false)) else (some false)) else (some false)) else (some false)) else (some false)) else (some false)) else (some false)) else (some false))) = some r := H
  have A7 := Aside0.mk A70
  clear A70
  by_cases c8 : t318 = true
  · subst c8
    have H1 : ((galloonref01_Longest.f k t304).bind fun bt320 => ((galloonref01_Palindromes.f k t304).bind fun t322 => ((galloonlaw01_texts.f k t305 t322).bind fun t325 => (if t325 = true then (if t306 = 0 then ((galloonref01_Centers.f k t304).bind fun t326 => ((galloonlaw01_ints.f k t309 t326).bind fun t329 => (if t329 = true then (if t310 = 0 then ((galloonref01_Occurrences.f k t304).bind fun t330 => (if t313 = t330 then (if t314 = 0 then (if t315 = bt320.1 then (if t316 = bt320.2 then (if t317 = 0 then ((galloonlaw01_awake.f k).bind fun t331 => (some t331)) else (some false)) else (some false)) else (some false)) else (some false)) else (some false))) else (some false)) else (some false)))) else (some false)) else (some false))))) = some r := by rw [if_pos rfl] at H; exact H
    clear H
    have H := H1
    clear H1
    replace H := Option.bind_eq_some_iff.mp H
    obtain ⟨⟨t320, t321⟩, A90, H⟩ := H
    replace H : ((galloonref01_Palindromes.f k t304).bind fun t322 => ((galloonlaw01_texts.f k t305 t322).bind fun t325 => (if t325 = true then (if t306 = 0 then ((galloonref01_Centers.f k t304).bind fun t326 => ((galloonlaw01_ints.f k t309 t326).bind fun t329 => (if t329 = true then (if t310 = 0 then ((galloonref01_Occurrences.f k t304).bind fun t330 => (if t313 = t330 then (if t314 = 0 then (if t315 = t320 then (if t316 = t321 then (if t317 = 0 then ((galloonlaw01_awake.f k).bind fun t331 => (some t331)) else (some false)) else (some false)) else (some false)) else (some false)) else (some false))) else (some false)) else (some false)))) else (some false)) else (some false)))) = some r := H
    have A9 := Aside0.mk A90
    clear A90
    replace H := Option.bind_eq_some_iff.mp H
    obtain ⟨t322, A100, H⟩ := H
    replace H : ((galloonlaw01_texts.f k t305 t322).bind fun t325 => (if t325 = true then (if t306 = 0 then ((galloonref01_Centers.f k t304).bind fun t326 => ((galloonlaw01_ints.f k t309 t326).bind fun t329 => (if t329 = true then (if t310 = 0 then ((galloonref01_Occurrences.f k t304).bind fun t330 => (if t313 = t330 then (if t314 = 0 then (if t315 = t320 then (if t316 = t321 then (if t317 = 0 then ((galloonlaw01_awake.f k).bind fun t331 => (some t331)) else (some false)) else (some false)) else (some false)) else (some false)) else (some false))) else (some false)) else (some false)))) else (some false)) else (some false))) = some r := H
    have A10 := Aside0.mk A100
    clear A100
    replace H := Option.bind_eq_some_iff.mp H
    obtain ⟨t325, A110, H⟩ := H
    replace H : (if t325 = true then (if t306 = 0 then ((galloonref01_Centers.f k t304).bind fun t326 => ((galloonlaw01_ints.f k t309 t326).bind fun t329 => (if t329 = true then (if t310 = 0 then ((galloonref01_Occurrences.f k t304).bind fun t330 => (if t313 = t330 then (if t314 = 0 then (if t315 = t320 then (if t316 = t321 then (if t317 = 0 then ((galloonlaw01_awake.f k).bind fun t331 => (some t331)) else (some false)) else (some false)) else (some false)) else (some false)) else (some false))) else (some false)) else (some false)))) else (some false)) else (some false)) = some r := H
    have A11 := Aside0.mk A110
    clear A110
    by_cases c12 : t325 = true
    · subst c12
      have H1 : (if t306 = 0 then ((galloonref01_Centers.f k t304).bind fun t326 => ((galloonlaw01_ints.f k t309 t326).bind fun t329 => (if t329 = true then (if t310 = 0 then ((galloonref01_Occurrences.f k t304).bind fun t330 => (if t313 = t330 then (if t314 = 0 then (if t315 = t320 then (if t316 = t321 then (if t317 = 0 then ((galloonlaw01_awake.f k).bind fun t331 => (some t331)) else (some false)) else (some false)) else (some false)) else (some false)) else (some false))) else (some false)) else (some false)))) else (some false)) = some r := by rw [if_pos rfl] at H; exact H
      clear H
      have H := H1
      clear H1
      by_cases c13 : t306 = 0
      · rw [if_pos c13] at H
        have c13b0 : (t306 == 0) = true := beq_iff_eq.mpr c13
        have c13b1 : (t306 != 0) = false := bne_eq_false_iff_eq.mpr c13
        clear c13
        replace H := Option.bind_eq_some_iff.mp H
        obtain ⟨t326, A140, H⟩ := H
        replace H : ((galloonlaw01_ints.f k t309 t326).bind fun t329 => (if t329 = true then (if t310 = 0 then ((galloonref01_Occurrences.f k t304).bind fun t330 => (if t313 = t330 then (if t314 = 0 then (if t315 = t320 then (if t316 = t321 then (if t317 = 0 then ((galloonlaw01_awake.f k).bind fun t331 => (some t331)) else (some false)) else (some false)) else (some false)) else (some false)) else (some false))) else (some false)) else (some false))) = some r := H
        have A14 := Aside0.mk A140
        clear A140
        replace H := Option.bind_eq_some_iff.mp H
        obtain ⟨t329, A150, H⟩ := H
        replace H : (if t329 = true then (if t310 = 0 then ((galloonref01_Occurrences.f k t304).bind fun t330 => (if t313 = t330 then (if t314 = 0 then (if t315 = t320 then (if t316 = t321 then (if t317 = 0 then ((galloonlaw01_awake.f k).bind fun t331 => (some t331)) else (some false)) else (some false)) else (some false)) else (some false)) else (some false))) else (some false)) else (some false)) = some r := H
        have A15 := Aside0.mk A150
        clear A150
        by_cases c16 : t329 = true
        · subst c16
          have H1 : (if t310 = 0 then ((galloonref01_Occurrences.f k t304).bind fun t330 => (if t313 = t330 then (if t314 = 0 then (if t315 = t320 then (if t316 = t321 then (if t317 = 0 then ((galloonlaw01_awake.f k).bind fun t331 => (some t331)) else (some false)) else (some false)) else (some false)) else (some false)) else (some false))) else (some false)) = some r := by rw [if_pos rfl] at H; exact H
          clear H
          have H := H1
          clear H1
          by_cases c17 : t310 = 0
          · rw [if_pos c17] at H
            have c17b0 : (t310 == 0) = true := beq_iff_eq.mpr c17
            have c17b1 : (t310 != 0) = false := bne_eq_false_iff_eq.mpr c17
            clear c17
            replace H := Option.bind_eq_some_iff.mp H
            obtain ⟨t330, A180, H⟩ := H
            replace H : (if t313 = t330 then (if t314 = 0 then (if t315 = t320 then (if t316 = t321 then (if t317 = 0 then ((galloonlaw01_awake.f k).bind fun t331 => (some t331)) else (some false)) else (some false)) else (some false)) else (some false)) else (some false)) = some r := H
            have A18 := Aside0.mk A180
            clear A180
            by_cases c19 : t313 = t330
            · rw [if_pos c19] at H
              have c19b0 : (t313 == t330) = true := beq_iff_eq.mpr c19
              have c19b1 : (t313 != t330) = false := bne_eq_false_iff_eq.mpr c19
              clear c19
              by_cases c20 : t314 = 0
              · rw [if_pos c20] at H
                have c20b0 : (t314 == 0) = true := beq_iff_eq.mpr c20
                have c20b1 : (t314 != 0) = false := bne_eq_false_iff_eq.mpr c20
                clear c20
                by_cases c21 : t315 = t320
                · rw [if_pos c21] at H
                  have c21b0 : (t315 == t320) = true := beq_iff_eq.mpr c21
                  have c21b1 : (t315 != t320) = false := bne_eq_false_iff_eq.mpr c21
                  clear c21
                  by_cases c22 : t316 = t321
                  · rw [if_pos c22] at H
                    have c22b0 : (t316 == t321) = true := beq_iff_eq.mpr c22
                    have c22b1 : (t316 != t321) = false := bne_eq_false_iff_eq.mpr c22
                    clear c22
                    by_cases c23 : t317 = 0
                    · rw [if_pos c23] at H
                      have c23b0 : (t317 == 0) = true := beq_iff_eq.mpr c23
                      have c23b1 : (t317 != 0) = false := bne_eq_false_iff_eq.mpr c23
                      clear c23
                      replace H := Option.bind_eq_some_iff.mp H
                      obtain ⟨t331, A240, H⟩ := H
                      replace H : (some t331) = some r := H
                      have A24 := Aside0.mk A240
                      clear A240
                      obtain rfl := Option.some.inj H
                      go_enter Try.func6, Try.ntmps6
                      go_wp2_with (first | ((with_reducible refine gate_callee (f := 16) rfl ?_); refine goesL_ (some 16) rfl rfl Try.func16 (by kernel_rfl) rfl #[.string a0] rfl (by (try simp only [List.map_toArray, List.map_cons, List.map_nil]); first | done | rfl | (simp only [List.length_drop, List.length_take]; rfl)) ?_; (with_reducible refine (galloonlaw01_short.calls a0 t304 _ A2.out).mono ?_); rintro e w25 ⟨rfl, hb⟩; refine ⟨_, rfl, ?_⟩; have n0_ := Aside0.mk (below_step (by repeat (first | (with_reducible first | exact HB.out | apply below_alloc | apply pw_below_drewN | apply below_drew1) | exact HB.out)) hb); clear HB; have HB := n0_; clear n0_; (try clear hb); (try clear hb2); (try clear hk); (try clear hi)) | ((with_reducible refine gate_callee (f := 33) rfl ?_); refine goesL_ (some 19) rfl rfl Try.func33 (by kernel_rfl) rfl #[.string t304] rfl (by (try simp only [List.map_toArray, List.map_cons, List.map_nil]); first | done | rfl | (simp only [List.length_drop, List.length_take]; rfl)) ?_; (with_reducible refine (trim_Palindromes.calls t304 t305 t306 _ A3.out).mono ?_); rintro e w26 ⟨v307, rfl, ho0, hb⟩; refine ⟨_, rfl, ?_⟩; have n0_ := Aside0.mk (Kd.R_lower ho0 (below_size (by repeat (first | (with_reducible first | exact HB.out | apply below_alloc | apply pw_below_drewN | apply below_drew1) | exact HB.out)))); have n1_ := Aside0.mk (below_step (by repeat (first | (with_reducible first | exact HB.out | apply below_alloc | apply pw_below_drewN | apply below_drew1) | exact HB.out)) hb); clear HB; have HO308 := n0_; have HB := n1_; clear n0_ n1_; (try clear hb); (try clear hb2); (try clear hk); (try clear hi); (try clear ho0)) | ((with_reducible refine gate_callee (f := 34) rfl ?_); refine goesL_ (some 24) rfl rfl Try.func34 (by kernel_rfl) rfl #[.string t304] rfl (by (try simp only [List.map_toArray, List.map_cons, List.map_nil]); first | done | rfl | (simp only [List.length_drop, List.length_take]; rfl)) ?_; (with_reducible refine (trim_Centers.calls k t304 t309 t310 _ A4.out).mono ?_); rintro e w27 ⟨v311, rfl, ho0, hb⟩; refine ⟨_, rfl, ?_⟩; have n0_ := Aside0.mk (Kd.R_below (by (with_reducible repeat (first | apply Kd.R_alloc | apply Kd.R_drewN | apply Kd.R_drew)); exact HO308.out) hb); have n1_ := Aside0.mk (Kd.R_lower ho0 (below_size (by repeat (first | (with_reducible first | exact HB.out | apply below_alloc | apply pw_below_drewN | apply below_drew1) | exact HB.out)))); have n2_ := Aside0.mk (below_step (by repeat (first | (with_reducible first | exact HB.out | apply below_alloc | apply pw_below_drewN | apply below_drew1) | exact HB.out)) hb); clear HO308; clear HB; have HO308 := n0_; have HO312 := n1_; have HB := n2_; clear n0_ n1_ n2_; (try clear hb); (try clear hb2); (try clear hk); (try clear hi); (try clear ho0)) | ((with_reducible refine gate_callee (f := 35) rfl ?_); refine goesL_ (some 29) rfl rfl Try.func35 (by kernel_rfl) rfl #[.string t304] rfl (by (try simp only [List.map_toArray, List.map_cons, List.map_nil]); first | done | rfl | (simp only [List.length_drop, List.length_take]; rfl)) ?_; (with_reducible refine (trim_Occurrences.calls t304 t313 t314 _ A5.out).mono ?_); rintro e w28 ⟨rfl, hb⟩; refine ⟨_, rfl, ?_⟩; have n0_ := Aside0.mk (Kd.R_below (by (with_reducible repeat (first | apply Kd.R_alloc | apply Kd.R_drewN | apply Kd.R_drew)); exact HO308.out) hb); have n1_ := Aside0.mk (Kd.R_below (by (with_reducible repeat (first | apply Kd.R_alloc | apply Kd.R_drewN | apply Kd.R_drew)); exact HO312.out) hb); have n2_ := Aside0.mk (below_step (by repeat (first | (with_reducible first | exact HB.out | apply below_alloc | apply pw_below_drewN | apply below_drew1) | exact HB.out)) hb); clear HO308; clear HO312; clear HB; have HO308 := n0_; have HO312 := n1_; have HB := n2_; clear n0_ n1_ n2_; (try clear hb); (try clear hb2); (try clear hk); (try clear hi)) | ((with_reducible refine gate_callee (f := 36) rfl ?_); refine goesL_ (some 34) rfl rfl Try.func36 (by kernel_rfl) rfl #[.string t304] rfl (by (try simp only [List.map_toArray, List.map_cons, List.map_nil]); first | done | rfl | (simp only [List.length_drop, List.length_take]; rfl)) ?_; (with_reducible refine (trim_Longest.calls t304 t315 t316 t317 _ A6.out).mono ?_); rintro e w29 ⟨rfl, hb⟩; refine ⟨_, rfl, ?_⟩; have n0_ := Aside0.mk (Kd.R_below (by (with_reducible repeat (first | apply Kd.R_alloc | apply Kd.R_drewN | apply Kd.R_drew)); exact HO308.out) hb); have n1_ := Aside0.mk (Kd.R_below (by (with_reducible repeat (first | apply Kd.R_alloc | apply Kd.R_drewN | apply Kd.R_drew)); exact HO312.out) hb); have n2_ := Aside0.mk (below_step (by repeat (first | (with_reducible first | exact HB.out | apply below_alloc | apply pw_below_drewN | apply below_drew1) | exact HB.out)) hb); clear HO308; clear HO312; clear HB; have HO308 := n0_; have HO312 := n1_; have HB := n2_; clear n0_ n1_ n2_; (try clear hb); (try clear hb2); (try clear hk); (try clear hi)) | ((with_reducible refine gate_callee (f := 19) rfl ?_); refine goesL_ (some 39) rfl rfl Try.func19 (by kernel_rfl) rfl #[.string t304] rfl (by (try simp only [List.map_toArray, List.map_cons, List.map_nil]); first | done | rfl | (simp only [List.length_drop, List.length_take]; rfl)) ?_; (with_reducible refine (galloonref01_Word.calls k t304 true _ A7.out).mono ?_); rintro e w' ⟨rfl, ⟨nd, rfl⟩⟩; refine ⟨_, rfl, ?_⟩) | ((with_reducible refine gate_callee (f := 37) rfl ?_); refine goesL_ (some 82) rfl rfl Try.func37 (by kernel_rfl) rfl #[.string t304] rfl (by (try simp only [List.map_toArray, List.map_cons, List.map_nil]); first | done | rfl | (simp only [List.length_drop, List.length_take]; rfl)) ?_; (with_reducible refine (galloonref01_Longest.calls k t304 t320 t321 _ A9.out).mono ?_); rintro e w' ⟨rfl, ⟨nd, rfl⟩⟩; refine ⟨_, rfl, ?_⟩) | ((with_reducible refine gate_callee (f := 39) rfl ?_); refine goesL_ (some 87) rfl rfl Try.func39 (by kernel_rfl) rfl #[.string t304] rfl (by (try simp only [List.map_toArray, List.map_cons, List.map_nil]); first | done | rfl | (simp only [List.length_drop, List.length_take]; rfl)) ?_; (with_reducible refine (galloonref01_Palindromes.calls k t304 t322 _ A10.out).mono ?_); rintro e w30 ⟨v323, rfl, ho0, hb⟩; refine ⟨_, rfl, ?_⟩; have n0_ := Aside0.mk (Kd.R_elder' (by (with_reducible repeat (first | apply Kd.R_alloc | apply Kd.R_drewN | apply Kd.R_drew)); exact HO308.out) (Kd.R_base ho0) hb); have n1_ := Aside0.mk (Kd.R_below (by (with_reducible repeat (first | apply Kd.R_alloc | apply Kd.R_drewN | apply Kd.R_drew)); exact HO312.out) hb); have n2_ := Aside0.mk (Kd.R_lower (Kd.R_new' ho0 (Kd.R_lt (by (with_reducible repeat (first | apply Kd.R_alloc | apply Kd.R_drewN | apply Kd.R_drew)); exact HO308.out))) (below_size (by repeat (first | (with_reducible first | exact HB.out | apply below_alloc | apply pw_below_drewN | apply below_drew1) | exact HB.out)))); have n3_ := Aside0.mk (below_step (by repeat (first | (with_reducible first | exact HB.out | apply below_alloc | apply pw_below_drewN | apply below_drew1) | exact HB.out)) hb); clear HO308; clear HO312; clear HB; have HO308 := n0_; have HO312 := n1_; have HO324 := n2_; have HB := n3_; clear n0_ n1_ n2_ n3_; (try clear hb); (try clear hb2); (try clear hk); (try clear hi); (try clear ho0); obtain ⟨Ao31, co31, eo31⟩ := Kd.R_slice HO308.out; subst eo31; obtain ⟨Ao32, co32, eo32⟩ := Kd.R_slice HO324.out; subst eo32) | ((with_reducible refine gate_callee (f := 38) rfl ?_); refine goesL_ (some 88) rfl rfl Try.func38 (by kernel_rfl) rfl #[.slice Ao31 t305.length co31, .slice Ao32 t322.length co32] rfl (by (try simp only [List.map_toArray, List.map_cons, List.map_nil]); first | done | rfl | (simp only [List.length_drop, List.length_take]; rfl)) ?_; (with_reducible refine (galloonlaw01_texts.calls k _ _ t305 _ _ t322 true _ ?side1 ?side2 ?side3 ?side4 A11.out).mono ?_); (case side1 => repeat (first | exact (Kd.R_reads' HO308.out).2.2 | (with_reducible refine Kd.C_alloc ?_ _) | (with_reducible refine Kd.C_drewN ?_ _) | (with_reducible refine Kd.C_drew ?_))); (case side2 => exact (Kd.R_reads' HO308.out).2.1); (case side3 => repeat (first | exact (Kd.R_reads' HO324.out).2.2 | (with_reducible refine Kd.C_alloc ?_ _) | (with_reducible refine Kd.C_drewN ?_ _) | (with_reducible refine Kd.C_drew ?_))); (case side4 => exact (Kd.R_reads' HO324.out).2.1); rintro e w' ⟨rfl, ⟨nd, rfl⟩⟩; refine ⟨_, rfl, ?_⟩) | (go_at_call 40; (with_reducible refine (galloonref01_Centers.calls k t304 t326 _ A14.out).mono ?_); rintro e w33 ⟨v327, rfl, ho0, hb⟩; have n0_ := Aside0.mk (Kd.R_below (by (with_reducible repeat (first | apply Kd.R_alloc | apply Kd.R_drewN | apply Kd.R_drew)); exact HO308.out) hb); have n1_ := Aside0.mk (Kd.R_elder' (by (with_reducible repeat (first | apply Kd.R_alloc | apply Kd.R_drewN | apply Kd.R_drew)); exact HO312.out) (Kd.R_base ho0) hb); have n2_ := Aside0.mk (Kd.R_below (by (with_reducible repeat (first | apply Kd.R_alloc | apply Kd.R_drewN | apply Kd.R_drew)); exact HO324.out) hb); have n3_ := Aside0.mk (Kd.R_lower (Kd.R_new' ho0 (Kd.R_lt (by (with_reducible repeat (first | apply Kd.R_alloc | apply Kd.R_drewN | apply Kd.R_drew)); exact HO312.out))) (below_size (by repeat (first | (with_reducible first | exact HB.out | apply below_alloc | apply pw_below_drewN | apply below_drew1) | exact HB.out)))); have n4_ := Aside0.mk (below_step (by repeat (first | (with_reducible first | exact HB.out | apply below_alloc | apply pw_below_drewN | apply below_drew1) | exact HB.out)) hb); clear HO308; clear HO312; clear HO324; clear HB; have HO308 := n0_; have HO312 := n1_; have HO324 := n2_; have HO328 := n3_; have HB := n4_; clear n0_ n1_ n2_ n3_ n4_; (try clear hb); (try clear hb2); (try clear hk); (try clear hi); (try clear ho0); obtain ⟨Ao34, co34, eo34⟩ := Kd.R_slice HO312.out; subst eo34; obtain ⟨Ao35, co35, eo35⟩ := Kd.R_slice HO328.out; subst eo35) | (go_at_call 21; (with_reducible refine (galloonlaw01_ints.calls k _ _ t309 _ _ t326 true _ ?side1 ?side2 ?side3 ?side4 A15.out).mono ?_); (case side1 => repeat (first | exact (Kd.R_reads' HO312.out).2.2 | (with_reducible refine Kd.C_alloc ?_ _) | (with_reducible refine Kd.C_drewN ?_ _) | (with_reducible refine Kd.C_drew ?_))); (case side2 => exact (Kd.R_reads' HO312.out).2.1); (case side3 => repeat (first | exact (Kd.R_reads' HO328.out).2.2 | (with_reducible refine Kd.C_alloc ?_ _) | (with_reducible refine Kd.C_drewN ?_ _) | (with_reducible refine Kd.C_drew ?_))); (case side4 => exact (Kd.R_reads' HO328.out).2.1); rintro e w' ⟨rfl, ⟨nd, rfl⟩⟩) | (go_at_call 41; (with_reducible refine (galloonref01_Occurrences.calls k t304 t330 _ A18.out).mono ?_); rintro e w' ⟨rfl, ⟨nd, rfl⟩⟩) | (go_at_call 20; (with_reducible refine (galloonlaw01_awake.calls k  t331 _ A24.out (Glob.at hg (by repeat (first | (with_reducible first | exact HB.out | apply below_alloc | apply pw_below_drewN | apply below_drew1) | exact HB.out)))).mono ?_); rintro e w36 ⟨rfl, hb⟩; have n0_ := Aside0.mk (Kd.R_below (by (with_reducible repeat (first | apply Kd.R_alloc | apply Kd.R_drewN | apply Kd.R_drew)); exact HO308.out) hb); have n1_ := Aside0.mk (Kd.R_below (by (with_reducible repeat (first | apply Kd.R_alloc | apply Kd.R_drewN | apply Kd.R_drew)); exact HO312.out) hb); have n2_ := Aside0.mk (Kd.R_below (by (with_reducible repeat (first | apply Kd.R_alloc | apply Kd.R_drewN | apply Kd.R_drew)); exact HO324.out) hb); have n3_ := Aside0.mk (Kd.R_below (by (with_reducible repeat (first | apply Kd.R_alloc | apply Kd.R_drewN | apply Kd.R_drew)); exact HO328.out) hb); have n4_ := Aside0.mk (below_step (by repeat (first | (with_reducible first | exact HB.out | apply below_alloc | apply pw_below_drewN | apply below_drew1) | exact HB.out)) hb); clear HO308; clear HO312; clear HO324; clear HO328; clear HB; have HO308 := n0_; have HO312 := n1_; have HO324 := n2_; have HO328 := n3_; have HB := n4_; clear n0_ n1_ n2_ n3_ n4_; (try clear hb); (try clear hb2); (try clear hk); (try clear hi)))
                      go_ret
                      exact ⟨by first | rfl | (simp [errW_none, errW_some] <;> rfl) | (simp [*, errW_none, errW_some] <;> rfl), by repeat (first | (with_reducible first | exact HB.out | apply below_alloc | apply pw_below_drewN | apply below_drew1) | exact HB.out)⟩
                    · rw [if_neg c23] at H
                      have c23b0 : (t317 == 0) = false := beq_eq_false_iff_ne.mpr c23
                      have c23b1 : (t317 != 0) = true := bne_iff_ne.mpr c23
                      obtain rfl := Option.some.inj H
                      exact absurd hr.out (by decide)
                  · rw [if_neg c22] at H
                    have c22b0 : (t316 == t321) = false := beq_eq_false_iff_ne.mpr c22
                    have c22b1 : (t316 != t321) = true := bne_iff_ne.mpr c22
                    obtain rfl := Option.some.inj H
                    exact absurd hr.out (by decide)
                · rw [if_neg c21] at H
                  have c21b0 : (t315 == t320) = false := beq_eq_false_iff_ne.mpr c21
                  have c21b1 : (t315 != t320) = true := bne_iff_ne.mpr c21
                  obtain rfl := Option.some.inj H
                  exact absurd hr.out (by decide)
              · rw [if_neg c20] at H
                have c20b0 : (t314 == 0) = false := beq_eq_false_iff_ne.mpr c20
                have c20b1 : (t314 != 0) = true := bne_iff_ne.mpr c20
                obtain rfl := Option.some.inj H
                exact absurd hr.out (by decide)
            · rw [if_neg c19] at H
              have c19b0 : (t313 == t330) = false := beq_eq_false_iff_ne.mpr c19
              have c19b1 : (t313 != t330) = true := bne_iff_ne.mpr c19
              obtain rfl := Option.some.inj H
              exact absurd hr.out (by decide)
          · rw [if_neg c17] at H
            have c17b0 : (t310 == 0) = false := beq_eq_false_iff_ne.mpr c17
            have c17b1 : (t310 != 0) = true := bne_iff_ne.mpr c17
            obtain rfl := Option.some.inj H
            exact absurd hr.out (by decide)
        · replace c16 := Bool.eq_false_iff.mpr c16
          subst c16
          have H1 : (some false) = some r := by rw [if_neg (show ¬ (false = true) by decide)] at H; exact H
          clear H
          have H := H1
          clear H1
          obtain rfl := Option.some.inj H
          exact absurd hr.out (by decide)
      · rw [if_neg c13] at H
        have c13b0 : (t306 == 0) = false := beq_eq_false_iff_ne.mpr c13
        have c13b1 : (t306 != 0) = true := bne_iff_ne.mpr c13
        obtain rfl := Option.some.inj H
        exact absurd hr.out (by decide)
    · replace c12 := Bool.eq_false_iff.mpr c12
      subst c12
      have H1 : (some false) = some r := by rw [if_neg (show ¬ (false = true) by decide)] at H; exact H
      clear H
      have H := H1
      clear H1
      obtain rfl := Option.some.inj H
      exact absurd hr.out (by decide)
  · replace c8 := Bool.eq_false_iff.mpr c8
    subst c8
    have H1 : (if (t305.length : Int) = 0 then (if t306 = 2 then (if (t309.length : Int) = 0 then (if t310 = 2 then (if t313 = 0 then (if t314 = 2 then (if t315 = 0 then (if t316 = 0 then (if t317 = 2 then ((galloonlaw01_awake.f k).bind fun t319 => (some t319)) else (some false)) else (some false)) else (some false)) else (some false)) else (some false)) else (some false)) else (some false)) else (some false)) else (some false)) = some r := by rw [if_neg (show ¬ (false = true) by decide)] at H; exact H
    clear H
    have H := H1
    clear H1
    by_cases c37 : (t305.length : Int) = 0
    · rw [if_pos c37] at H
      have c37b0 : ((t305.length : Int) == 0) = true := beq_iff_eq.mpr c37
      have c37b1 : ((t305.length : Int) != 0) = false := bne_eq_false_iff_eq.mpr c37
      clear c37
      by_cases c38 : t306 = 2
      · rw [if_pos c38] at H
        have c38b0 : (t306 == 2) = true := beq_iff_eq.mpr c38
        have c38b1 : (t306 != 2) = false := bne_eq_false_iff_eq.mpr c38
        clear c38
        by_cases c39 : (t309.length : Int) = 0
        · rw [if_pos c39] at H
          have c39b0 : ((t309.length : Int) == 0) = true := beq_iff_eq.mpr c39
          have c39b1 : ((t309.length : Int) != 0) = false := bne_eq_false_iff_eq.mpr c39
          clear c39
          by_cases c40 : t310 = 2
          · rw [if_pos c40] at H
            have c40b0 : (t310 == 2) = true := beq_iff_eq.mpr c40
            have c40b1 : (t310 != 2) = false := bne_eq_false_iff_eq.mpr c40
            clear c40
            by_cases c41 : t313 = 0
            · rw [if_pos c41] at H
              have c41b0 : (t313 == 0) = true := beq_iff_eq.mpr c41
              have c41b1 : (t313 != 0) = false := bne_eq_false_iff_eq.mpr c41
              clear c41
              by_cases c42 : t314 = 2
              · rw [if_pos c42] at H
                have c42b0 : (t314 == 2) = true := beq_iff_eq.mpr c42
                have c42b1 : (t314 != 2) = false := bne_eq_false_iff_eq.mpr c42
                clear c42
                by_cases c43 : t315 = 0
                · rw [if_pos c43] at H
                  have c43b0 : (t315 == 0) = true := beq_iff_eq.mpr c43
                  have c43b1 : (t315 != 0) = false := bne_eq_false_iff_eq.mpr c43
                  clear c43
                  by_cases c44 : t316 = 0
                  · rw [if_pos c44] at H
                    have c44b0 : (t316 == 0) = true := beq_iff_eq.mpr c44
                    have c44b1 : (t316 != 0) = false := bne_eq_false_iff_eq.mpr c44
                    clear c44
                    by_cases c45 : t317 = 2
                    · rw [if_pos c45] at H
                      have c45b0 : (t317 == 2) = true := beq_iff_eq.mpr c45
                      have c45b1 : (t317 != 2) = false := bne_eq_false_iff_eq.mpr c45
                      clear c45
                      replace H := Option.bind_eq_some_iff.mp H
                      obtain ⟨t319, A460, H⟩ := H
                      replace H : (some t319) = some r := H
                      have A46 := Aside0.mk A460
                      clear A460
                      obtain rfl := Option.some.inj H
                      go_enter Try.func6, Try.ntmps6
                      go_wp2_with (first | ((with_reducible refine gate_callee (f := 16) rfl ?_); refine goesL_ (some 16) rfl rfl Try.func16 (by kernel_rfl) rfl #[.string a0] rfl (by (try simp only [List.map_toArray, List.map_cons, List.map_nil]); first | done | rfl | (simp only [List.length_drop, List.length_take]; rfl)) ?_; (with_reducible refine (galloonlaw01_short.calls a0 t304 _ A2.out).mono ?_); rintro e w47 ⟨rfl, hb⟩; refine ⟨_, rfl, ?_⟩; have n0_ := Aside0.mk (below_step (by repeat (first | (with_reducible first | exact HB.out | apply below_alloc | apply pw_below_drewN | apply below_drew1) | exact HB.out)) hb); clear HB; have HB := n0_; clear n0_; (try clear hb); (try clear hb2); (try clear hk); (try clear hi)) | ((with_reducible refine gate_callee (f := 33) rfl ?_); refine goesL_ (some 19) rfl rfl Try.func33 (by kernel_rfl) rfl #[.string t304] rfl (by (try simp only [List.map_toArray, List.map_cons, List.map_nil]); first | done | rfl | (simp only [List.length_drop, List.length_take]; rfl)) ?_; (with_reducible refine (trim_Palindromes.calls t304 t305 t306 _ A3.out).mono ?_); rintro e w48 ⟨v307, rfl, ho0, hb⟩; refine ⟨_, rfl, ?_⟩; have n0_ := Aside0.mk (Kd.R_lower ho0 (below_size (by repeat (first | (with_reducible first | exact HB.out | apply below_alloc | apply pw_below_drewN | apply below_drew1) | exact HB.out)))); have n1_ := Aside0.mk (below_step (by repeat (first | (with_reducible first | exact HB.out | apply below_alloc | apply pw_below_drewN | apply below_drew1) | exact HB.out)) hb); clear HB; have HO308 := n0_; have HB := n1_; clear n0_ n1_; (try clear hb); (try clear hb2); (try clear hk); (try clear hi); (try clear ho0)) | ((with_reducible refine gate_callee (f := 34) rfl ?_); refine goesL_ (some 24) rfl rfl Try.func34 (by kernel_rfl) rfl #[.string t304] rfl (by (try simp only [List.map_toArray, List.map_cons, List.map_nil]); first | done | rfl | (simp only [List.length_drop, List.length_take]; rfl)) ?_; (with_reducible refine (trim_Centers.calls k t304 t309 t310 _ A4.out).mono ?_); rintro e w49 ⟨v311, rfl, ho0, hb⟩; refine ⟨_, rfl, ?_⟩; have n0_ := Aside0.mk (Kd.R_below (by (with_reducible repeat (first | apply Kd.R_alloc | apply Kd.R_drewN | apply Kd.R_drew)); exact HO308.out) hb); have n1_ := Aside0.mk (Kd.R_lower ho0 (below_size (by repeat (first | (with_reducible first | exact HB.out | apply below_alloc | apply pw_below_drewN | apply below_drew1) | exact HB.out)))); have n2_ := Aside0.mk (below_step (by repeat (first | (with_reducible first | exact HB.out | apply below_alloc | apply pw_below_drewN | apply below_drew1) | exact HB.out)) hb); clear HO308; clear HB; have HO308 := n0_; have HO312 := n1_; have HB := n2_; clear n0_ n1_ n2_; (try clear hb); (try clear hb2); (try clear hk); (try clear hi); (try clear ho0)) | ((with_reducible refine gate_callee (f := 35) rfl ?_); refine goesL_ (some 29) rfl rfl Try.func35 (by kernel_rfl) rfl #[.string t304] rfl (by (try simp only [List.map_toArray, List.map_cons, List.map_nil]); first | done | rfl | (simp only [List.length_drop, List.length_take]; rfl)) ?_; (with_reducible refine (trim_Occurrences.calls t304 t313 t314 _ A5.out).mono ?_); rintro e w50 ⟨rfl, hb⟩; refine ⟨_, rfl, ?_⟩; have n0_ := Aside0.mk (Kd.R_below (by (with_reducible repeat (first | apply Kd.R_alloc | apply Kd.R_drewN | apply Kd.R_drew)); exact HO308.out) hb); have n1_ := Aside0.mk (Kd.R_below (by (with_reducible repeat (first | apply Kd.R_alloc | apply Kd.R_drewN | apply Kd.R_drew)); exact HO312.out) hb); have n2_ := Aside0.mk (below_step (by repeat (first | (with_reducible first | exact HB.out | apply below_alloc | apply pw_below_drewN | apply below_drew1) | exact HB.out)) hb); clear HO308; clear HO312; clear HB; have HO308 := n0_; have HO312 := n1_; have HB := n2_; clear n0_ n1_ n2_; (try clear hb); (try clear hb2); (try clear hk); (try clear hi)) | ((with_reducible refine gate_callee (f := 36) rfl ?_); refine goesL_ (some 34) rfl rfl Try.func36 (by kernel_rfl) rfl #[.string t304] rfl (by (try simp only [List.map_toArray, List.map_cons, List.map_nil]); first | done | rfl | (simp only [List.length_drop, List.length_take]; rfl)) ?_; (with_reducible refine (trim_Longest.calls t304 t315 t316 t317 _ A6.out).mono ?_); rintro e w51 ⟨rfl, hb⟩; refine ⟨_, rfl, ?_⟩; have n0_ := Aside0.mk (Kd.R_below (by (with_reducible repeat (first | apply Kd.R_alloc | apply Kd.R_drewN | apply Kd.R_drew)); exact HO308.out) hb); have n1_ := Aside0.mk (Kd.R_below (by (with_reducible repeat (first | apply Kd.R_alloc | apply Kd.R_drewN | apply Kd.R_drew)); exact HO312.out) hb); have n2_ := Aside0.mk (below_step (by repeat (first | (with_reducible first | exact HB.out | apply below_alloc | apply pw_below_drewN | apply below_drew1) | exact HB.out)) hb); clear HO308; clear HO312; clear HB; have HO308 := n0_; have HO312 := n1_; have HB := n2_; clear n0_ n1_ n2_; (try clear hb); (try clear hb2); (try clear hk); (try clear hi)) | ((with_reducible refine gate_callee (f := 19) rfl ?_); refine goesL_ (some 39) rfl rfl Try.func19 (by kernel_rfl) rfl #[.string t304] rfl (by (try simp only [List.map_toArray, List.map_cons, List.map_nil]); first | done | rfl | (simp only [List.length_drop, List.length_take]; rfl)) ?_; (with_reducible refine (galloonref01_Word.calls k t304 false _ A7.out).mono ?_); rintro e w' ⟨rfl, ⟨nd, rfl⟩⟩; refine ⟨_, rfl, ?_⟩; obtain ⟨Ao52, co52, eo52⟩ := Kd.R_slice HO308.out; subst eo52; obtain ⟨Ao53, co53, eo53⟩ := Kd.R_slice HO312.out; subst eo53) | (go_at_call 20; (with_reducible refine (galloonlaw01_awake.calls k  t319 _ A46.out (Glob.at hg (by repeat (first | (with_reducible first | exact HB.out | apply below_alloc | apply pw_below_drewN | apply below_drew1) | exact HB.out)))).mono ?_); rintro e w54 ⟨rfl, hb⟩; have n0_ := Aside0.mk (Kd.R_below (by (with_reducible repeat (first | apply Kd.R_alloc | apply Kd.R_drewN | apply Kd.R_drew)); exact HO308.out) hb); have n1_ := Aside0.mk (Kd.R_below (by (with_reducible repeat (first | apply Kd.R_alloc | apply Kd.R_drewN | apply Kd.R_drew)); exact HO312.out) hb); have n2_ := Aside0.mk (below_step (by repeat (first | (with_reducible first | exact HB.out | apply below_alloc | apply pw_below_drewN | apply below_drew1) | exact HB.out)) hb); clear HO308; clear HO312; clear HB; have HO308 := n0_; have HO312 := n1_; have HB := n2_; clear n0_ n1_ n2_; (try clear hb); (try clear hb2); (try clear hk); (try clear hi)))
                      go_ret
                      exact ⟨by first | rfl | (simp [errW_none, errW_some] <;> rfl) | (simp [*, errW_none, errW_some] <;> rfl), by repeat (first | (with_reducible first | exact HB.out | apply below_alloc | apply pw_below_drewN | apply below_drew1) | exact HB.out)⟩
                    · rw [if_neg c45] at H
                      have c45b0 : (t317 == 2) = false := beq_eq_false_iff_ne.mpr c45
                      have c45b1 : (t317 != 2) = true := bne_iff_ne.mpr c45
                      obtain rfl := Option.some.inj H
                      exact absurd hr.out (by decide)
                  · rw [if_neg c44] at H
                    have c44b0 : (t316 == 0) = false := beq_eq_false_iff_ne.mpr c44
                    have c44b1 : (t316 != 0) = true := bne_iff_ne.mpr c44
                    obtain rfl := Option.some.inj H
                    exact absurd hr.out (by decide)
                · rw [if_neg c43] at H
                  have c43b0 : (t315 == 0) = false := beq_eq_false_iff_ne.mpr c43
                  have c43b1 : (t315 != 0) = true := bne_iff_ne.mpr c43
                  obtain rfl := Option.some.inj H
                  exact absurd hr.out (by decide)
              · rw [if_neg c42] at H
                have c42b0 : (t314 == 2) = false := beq_eq_false_iff_ne.mpr c42
                have c42b1 : (t314 != 2) = true := bne_iff_ne.mpr c42
                obtain rfl := Option.some.inj H
                exact absurd hr.out (by decide)
            · rw [if_neg c41] at H
              have c41b0 : (t313 == 0) = false := beq_eq_false_iff_ne.mpr c41
              have c41b1 : (t313 != 0) = true := bne_iff_ne.mpr c41
              obtain rfl := Option.some.inj H
              exact absurd hr.out (by decide)
          · rw [if_neg c40] at H
            have c40b0 : (t310 == 2) = false := beq_eq_false_iff_ne.mpr c40
            have c40b1 : (t310 != 2) = true := bne_iff_ne.mpr c40
            obtain rfl := Option.some.inj H
            exact absurd hr.out (by decide)
        · rw [if_neg c39] at H
          have c39b0 : ((t309.length : Int) == 0) = false := beq_eq_false_iff_ne.mpr c39
          have c39b1 : ((t309.length : Int) != 0) = true := bne_iff_ne.mpr c39
          have c39b2 : ¬ (t309 = []) := fun h_ => c39 (by rw [h_]; rfl)
          obtain rfl := Option.some.inj H
          exact absurd hr.out (by decide)
      · rw [if_neg c38] at H
        have c38b0 : (t306 == 2) = false := beq_eq_false_iff_ne.mpr c38
        have c38b1 : (t306 != 2) = true := bne_iff_ne.mpr c38
        obtain rfl := Option.some.inj H
        exact absurd hr.out (by decide)
    · rw [if_neg c37] at H
      have c37b0 : ((t305.length : Int) == 0) = false := beq_eq_false_iff_ne.mpr c37
      have c37b1 : ((t305.length : Int) != 0) = true := bne_iff_ne.mpr c37
      have c37b2 : ¬ (t305 = []) := fun h_ => c37 (by rw [h_]; rfl)
      obtain rfl := Option.some.inj H
      exact absurd hr.out (by decide)

/-- THE ONE PURE STATEMENT of galloonlaw01_TrimPalindromes: yours. -/
def galloonlaw01_TrimPalindromes.Pure : Prop := ∀ (a0 : ByteArray), a0.size ≤ 140737488351232 → ∃ k, galloonlaw01_TrimPalindromes.f k a0 = some true
theorem galloonlaw01_TrimPalindromes.walk (P : galloonlaw01_TrimPalindromes.Pure) (a0 : ByteArray) (w : World) (w0 : a0.size ≤ 140737488351232) (hg : Glob w) :
    Calls Try.prog 6 #[.string a0] w fun e w' => e = .returned (.bool true) ∧ Below w.heap.size w w' := by
  obtain ⟨k, h⟩ := P a0 w0
  refine (galloonlaw01_TrimPalindromes.calls k a0 true w h ⟨rfl⟩ hg).mono ?_
  rintro e w' ⟨rfl, hd⟩
  exact ⟨rfl, hd⟩

end Go.Proofs.Ytbdlhgdfnnbjiaa.PY
