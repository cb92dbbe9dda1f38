-- Made by the session's own driver (wip/tools/p2.py) out of the translation; Lean checks it.
import Derived.Test.YtbdlhgdfnnbjiaaPYx0
import Derived.Test.YtbdlhgdfnnbjiaaPYx3
import Derived.Test.YtbdlhgdfnnbjiaaPYx5
import Derived.Test.YtbdlhgdfnnbjiaaPYx8
import Derived.Test.YtbdlhgdfnnbjiaaPYx10
import Derived.Test.YtbdlhgdfnnbjiaaPYx16
import Derived.Test.YtbdlhgdfnnbjiaaGLongest
import Derived.Test.YtbdlhgdfnnbjiaaGOccurrences
import Derived.Test.YtbdlhgdfnnbjiaaGPalindromes
namespace Go.Proofs.Ytbdlhgdfnnbjiaa.PY
open Go.RowKit Go.Proofs.YtbdlhgdfnnbjiaaW.PrintWords Go.Proofs.YtbdlhgdfnnbjiaaW.PrintLast Go.Proofs.YtbdlhgdfnnbjiaaW.PrintMore
attribute [local go_sem] max2_int min2_int max_two min_two max_three min_three max_four min_four   -- for this text's walks alone
set_option linter.unusedVariables false
set_option linter.unusedSimpArgs false

/-! ### galloonlaw01_TrimRich: function 9 -/
mutual
def galloonlaw01_TrimRich.j0 : Nat → ByteArray → List Int → List Int → Int → Int → Int → Bool → Option (Bool)
  | 0, _, _, _, _, _, _, _ => none
  | k + 1, x3, x8, x10, x12, x14, x15, x110 => if x110 = true then (some false) else (galloonlaw01_TrimRich.l0 k x3 x8 x10 x12 x14 x15 0 0 0)
def galloonlaw01_TrimRich.l0 : Nat → ByteArray → List Int → List Int → Int → Int → Int → Int → Int → Int → Option (Bool)
  | 0, _, _, _, _, _, _, _, _, _ => none
  | k + 1, x3, x8, x10, x12, x14, x15, x17, x18, x19 => if x19 < (x10.length : Int) then (if 0 ≤ x19 then (galloonlaw01_TrimRich.l0 k x3 x8 x10 x12 x14 x15 (wrap64 (x17 + (wrap64 (Int.tdiv (wrap64 ((rd x10 x19) + 1)) 2)))) (mx x18 (rd x10 x19)) (wrap64 (x19 + 1))) else (none)) else (galloonlaw01_TrimRich.l1 k x3 x8 x12 x14 x15 x17 x18 0 0)
def galloonlaw01_TrimRich.l1 : Nat → ByteArray → List Int → Int → Int → Int → Int → Int → Int → Int → Option (Bool)
  | 0, _, _, _, _, _, _, _, _, _ => none
  | k + 1, x3, x8, x12, x14, x15, x17, x18, x20, x21 => if x21 < (x8.length : Int) then (if 0 ≤ x21 then (if (rd x8 x21) < 1 then (some false) else (if (rd x8 x21) > (wrap64 (x21 + 1)) then (some false) else (galloonlaw01_TrimRich.l1 k x3 x8 x12 x14 x15 x17 x18 (mx x20 (rd x8 x21)) (wrap64 (x21 + 1))))) else (none)) else (if x17 = x12 then (if x18 = x15 then (if x20 = x15 then (if x14 ≥ 0 then (if (wrap64 (x14 + x15)) ≤ (x3.size : Int) then (if 0 ≤ x14 then (if x14 ≤ (wrap64 (x14 + x15)) then ((galloonref01_Palindrome.f k (x3.extract (x14 : Int).toNat ((wrap64 (x14 + x15)) : Int).toNat)).bind fun t426 => (if t426 = true then ((galloonlaw01_awake.f k).bind fun t427 => (some t427)) else (some false))) else (none)) else (none)) else (some false)) else (some false)) else (some false)) else (some false)) else (some false))
end
def galloonlaw01_TrimRich.f (k : Nat) (a0 : ByteArray) : Option (Bool) := (galloonlaw01_tame.f k a0 100).bind fun t401 => ((trim_Palindromes.f t401).bind fun bt402 => ((trim_Rich.f k t401).bind fun bt406 => ((trim_Ends.f k t401).bind fun bt408 => ((trim_Centers.f k t401).bind fun bt412 => ((trim_Occurrences.f t401).bind fun bt416 => ((trim_Longest.f t401).bind fun bt418 => (if bt402.2 = 0 then (if bt406.2 = 0 then (if bt408.2 = 0 then (if bt412.2 = 0 then (if bt416.2 = 0 then (if bt418.2.2 = 0 then (if (bt402.1.length : Int) > (t401.size : Int) then (galloonlaw01_TrimRich.j0 k t401 bt408.1 bt412.1 bt416.1 bt418.1 bt418.2.1 true) else (if (((bt402.1.length : Int) == (t401.size : Int)) != (bt406.1 == (-1))) = true then (galloonlaw01_TrimRich.j0 k t401 bt408.1 bt412.1 bt416.1 bt418.1 bt418.2.1 true) else (if bt406.1 < (-1) then (galloonlaw01_TrimRich.j0 k t401 bt408.1 bt412.1 bt416.1 bt418.1 bt418.2.1 true) else (if bt406.1 ≥ (t401.size : Int) then (galloonlaw01_TrimRich.j0 k t401 bt408.1 bt412.1 bt416.1 bt418.1 bt418.2.1 true) else (galloonlaw01_TrimRich.j0 k t401 bt408.1 bt412.1 bt416.1 bt418.1 bt418.2.1 ((bt408.1.length : Int) != (t401.size : Int))))))) else (galloonlaw01_TrimRich.j0 k t401 bt408.1 bt412.1 bt416.1 bt418.1 bt418.2.1 true)) else (galloonlaw01_TrimRich.j0 k t401 bt408.1 bt412.1 bt416.1 bt418.1 bt418.2.1 true)) else (galloonlaw01_TrimRich.j0 k t401 bt408.1 bt412.1 bt416.1 bt418.1 bt418.2.1 true)) else (galloonlaw01_TrimRich.j0 k t401 bt408.1 bt412.1 bt416.1 bt418.1 bt418.2.1 true)) else (galloonlaw01_TrimRich.j0 k t401 bt408.1 bt412.1 bt416.1 bt418.1 bt418.2.1 true)) else (galloonlaw01_TrimRich.j0 k t401 bt408.1 bt412.1 bt416.1 bt418.1 bt418.2.1 true))))))))
theorem galloonlaw01_TrimRich.mono_l : ∀ k, (∀ y0 y1 y2 y3 y4 y5 y6, LeO (galloonlaw01_TrimRich.j0 k y0 y1 y2 y3 y4 y5 y6) (galloonlaw01_TrimRich.j0 (k + 1) y0 y1 y2 y3 y4 y5 y6)) ∧ (∀ y0 y1 y2 y3 y4 y5 y6 y7 y8, LeO (galloonlaw01_TrimRich.l0 k y0 y1 y2 y3 y4 y5 y6 y7 y8) (galloonlaw01_TrimRich.l0 (k + 1) y0 y1 y2 y3 y4 y5 y6 y7 y8)) ∧ (∀ y0 y1 y2 y3 y4 y5 y6 y7 y8, LeO (galloonlaw01_TrimRich.l1 k y0 y1 y2 y3 y4 y5 y6 y7 y8) (galloonlaw01_TrimRich.l1 (k + 1) y0 y1 y2 y3 y4 y5 y6 y7 y8))
  | 0 => ⟨fun _ _ _ _ _ _ _ r h => by simp [galloonlaw01_TrimRich.j0] at h, fun _ _ _ _ _ _ _ _ _ r h => by simp [galloonlaw01_TrimRich.l0] at h, fun _ _ _ _ _ _ _ _ _ r h => by simp [galloonlaw01_TrimRich.l1] at h⟩
  | k + 1 => by
    obtain ⟨ih0, ih1, ih2⟩ := galloonlaw01_TrimRich.mono_l k
    refine ⟨?_, ?_, ?_⟩
    · intro y0 y1 y2 y3 y4 y5 y6
      unfold galloonlaw01_TrimRich.j0
      repeat' first
      | (with_reducible exact ih0 _ _ _ _ _ _ _)
      | (with_reducible exact ih1 _ _ _ _ _ _ _ _ _)
      | (with_reducible exact ih2 _ _ _ _ _ _ _ _ _)
      | (with_reducible exact galloonlaw01_awake.mono _)
      | (with_reducible exact galloonlaw01_tame.mono _ _ _)
      | (with_reducible exact galloonref01_Palindrome.mono _ _)
      | (with_reducible exact trim_Centers.mono _ _)
      | (with_reducible exact trim_Ends.mono _ _)
      | (with_reducible exact trim_Rich.mono _ _)
      | (with_reducible exact LeO.refl _)
      | (with_reducible exact LeO.none _)
      | (with_reducible refine LeO.ite ?_ ?_)
      | (with_reducible refine LeO.bind ?_ (fun _ => ?_))
      | exact ih0 _ _ _ _ _ _ _
      | exact ih1 _ _ _ _ _ _ _ _ _
      | exact ih2 _ _ _ _ _ _ _ _ _
      | exact galloonlaw01_awake.mono _
      | exact galloonlaw01_tame.mono _ _ _
      | exact galloonref01_Palindrome.mono _ _
      | exact trim_Centers.mono _ _
      | exact trim_Ends.mono _ _
      | exact trim_Rich.mono _ _
      | exact LeO.none _
      | refine LeO.ite ?_ ?_
      | refine LeO.bind ?_ (fun _ => ?_)
    · intro y0 y1 y2 y3 y4 y5 y6 y7 y8
      unfold galloonlaw01_TrimRich.l0
      repeat' first
      | (with_reducible exact ih0 _ _ _ _ _ _ _)
      | (with_reducible exact ih1 _ _ _ _ _ _ _ _ _)
      | (with_reducible exact ih2 _ _ _ _ _ _ _ _ _)
      | (with_reducible exact galloonlaw01_awake.mono _)
      | (with_reducible exact galloonlaw01_tame.mono _ _ _)
      | (with_reducible exact galloonref01_Palindrome.mono _ _)
      | (with_reducible exact trim_Centers.mono _ _)
      | (with_reducible exact trim_Ends.mono _ _)
      | (with_reducible exact trim_Rich.mono _ _)
      | (with_reducible exact LeO.refl _)
      | (with_reducible exact LeO.none _)
      | (with_reducible refine LeO.ite ?_ ?_)
      | (with_reducible refine LeO.bind ?_ (fun _ => ?_))
      | exact ih0 _ _ _ _ _ _ _
      | exact ih1 _ _ _ _ _ _ _ _ _
      | exact ih2 _ _ _ _ _ _ _ _ _
      | exact galloonlaw01_awake.mono _
      | exact galloonlaw01_tame.mono _ _ _
      | exact galloonref01_Palindrome.mono _ _
      | exact trim_Centers.mono _ _
      | exact trim_Ends.mono _ _
      | exact trim_Rich.mono _ _
      | exact LeO.none _
      | refine LeO.ite ?_ ?_
      | refine LeO.bind ?_ (fun _ => ?_)
    · intro y0 y1 y2 y3 y4 y5 y6 y7 y8
      unfold galloonlaw01_TrimRich.l1
      repeat' first
      | (with_reducible exact ih0 _ _ _ _ _ _ _)
      | (with_reducible exact ih1 _ _ _ _ _ _ _ _ _)
      | (with_reducible exact ih2 _ _ _ _ _ _ _ _ _)
      | (with_reducible exact galloonlaw01_awake.mono _)
      | (with_reducible exact galloonlaw01_tame.mono _ _ _)
      | (with_reducible exact galloonref01_Palindrome.mono _ _)
      | (with_reducible exact trim_Centers.mono _ _)
      | (with_reducible exact trim_Ends.mono _ _)
      | (with_reducible exact trim_Rich.mono _ _)
      | (with_reducible exact LeO.refl _)
      | (with_reducible exact LeO.none _)
      | (with_reducible refine LeO.ite ?_ ?_)
      | (with_reducible refine LeO.bind ?_ (fun _ => ?_))
      | exact ih0 _ _ _ _ _ _ _
      | exact ih1 _ _ _ _ _ _ _ _ _
      | exact ih2 _ _ _ _ _ _ _ _ _
      | exact galloonlaw01_awake.mono _
      | exact galloonlaw01_tame.mono _ _ _
      | exact galloonref01_Palindrome.mono _ _
      | exact trim_Centers.mono _ _
      | exact trim_Ends.mono _ _
      | exact trim_Rich.mono _ _
      | exact LeO.none _
      | refine LeO.ite ?_ ?_
      | refine LeO.bind ?_ (fun _ => ?_)
theorem galloonlaw01_TrimRich.mono : ∀ a0 k, LeO (galloonlaw01_TrimRich.f k a0) (galloonlaw01_TrimRich.f (k + 1) a0) := by
  intro a0 k
  obtain ⟨ih0, ih1, ih2⟩ := galloonlaw01_TrimRich.mono_l k
  unfold galloonlaw01_TrimRich.f
  repeat' first
      | (with_reducible exact ih0 _ _ _ _ _ _ _)
      | (with_reducible exact ih1 _ _ _ _ _ _ _ _ _)
      | (with_reducible exact ih2 _ _ _ _ _ _ _ _ _)
      | (with_reducible exact galloonlaw01_awake.mono _)
      | (with_reducible exact galloonlaw01_tame.mono _ _ _)
      | (with_reducible exact galloonref01_Palindrome.mono _ _)
      | (with_reducible exact trim_Centers.mono _ _)
      | (with_reducible exact trim_Ends.mono _ _)
      | (with_reducible exact trim_Rich.mono _ _)
      | (with_reducible exact LeO.refl _)
      | (with_reducible exact LeO.none _)
      | (with_reducible refine LeO.ite ?_ ?_)
      | (with_reducible refine LeO.bind ?_ (fun _ => ?_))
      | exact ih0 _ _ _ _ _ _ _
      | exact ih1 _ _ _ _ _ _ _ _ _
      | exact ih2 _ _ _ _ _ _ _ _ _
      | exact galloonlaw01_awake.mono _
      | exact galloonlaw01_tame.mono _ _ _
      | exact galloonref01_Palindrome.mono _ _
      | exact trim_Centers.mono _ _
      | exact trim_Ends.mono _ _
      | exact trim_Rich.mono _ _
      | exact LeO.none _
      | refine LeO.ite ?_ ?_
      | refine LeO.bind ?_ (fun _ => ?_)
set_option maxHeartbeats 8000000 in
set_option maxRecDepth 100000 in
theorem galloonlaw01_TrimRich.calls (k : Nat) (a0 : ByteArray) (r : Bool) (w : World) (h : galloonlaw01_TrimRich.f k a0 = some r) (hr : Aside0 (r = true)) (hg : Glob w) :
    Calls Try.prog 9 #[.string a0] w fun e w' => e = .returned (.bool r) ∧ Below w.heap.size w w' := by
  have HB := Aside0.mk (Below.refl w.heap.size w)
  have H : ((galloonlaw01_tame.f k a0 100).bind fun t401 => ((trim_Palindromes.f t401).bind fun bt402 => ((trim_Rich.f k t401).bind fun bt406 => ((trim_Ends.f k t401).bind fun bt408 => ((trim_Centers.f k t401).bind fun bt412 => ((trim_Occurrences.f t401).bind fun bt416 => ((trim_Longest.f t401).bind fun bt418 => (if bt402.2 = 0 then (if bt406.2 = 0 then (if bt408.2 = 0 then (if bt412.2 = 0 then (if bt416.2 = 0 then (if bt418.2.2 = 0 then (if (bt402.1.length : Int) > (t401.size : Int) then (galloonlaw01_TrimRich.j0 k t401 bt408.1 bt412.1 bt416.1 bt418.1 bt418.2.1 true) else (if (((bt402.1.length : Int) == (t401.size : Int)) != (bt406.1 == (-1))) = true then (galloonlaw01_TrimRich.j0 k t401 bt408.1 bt412.1 bt416.1 bt418.1 bt418.2.1 true) else (if bt406.1 < (-1) then (galloonlaw01_TrimRich.j0 k t401 bt408.1 bt412.1 bt416.1 bt418.1 bt418.2.1 true) else (if bt406.1 ≥ (t401.size : Int) then (galloonlaw01_TrimRich.j0 k t401 bt408.1 bt412.1 bt416.1 bt418.1 bt418.2.1 true) else (galloonlaw01_TrimRich.j0 k t401 bt408.1 bt412.1 bt416.1 bt418.1 bt418.2.1 ((bt408.1.length : Int) != (t401.size : Int))))))) else (galloonlaw01_TrimRich.j0 k t401 bt408.1 bt412.1 bt416.1 bt418.1 bt418.2.1 true)) else (galloonlaw01_TrimRich.j0 k t401 bt408.1 bt412.1 bt416.1 bt418.1 bt418.2.1 true)) else (galloonlaw01_TrimRich.j0 k t401 bt408.1 bt412.1 bt416.1 bt418.1 bt418.2.1 true)) else (galloonlaw01_TrimRich.j0 k t401 bt408.1 bt412.1 bt416.1 bt418.1 bt418.2.1 true)) else (galloonlaw01_TrimRich.j0 k t401 bt408.1 bt412.1 bt416.1 bt418.1 bt418.2.1 true)) else (galloonlaw01_TrimRich.j0 k t401 bt408.1 bt412.1 bt416.1 bt418.1 bt418.2.1 true))))))))) = some r := h
  clear h
  replace H := Option.bind_eq_some_iff.mp H
  obtain ⟨t401, A20, H⟩ := H
  replace H : ((trim_Palindromes.f t401).bind fun bt402 => ((trim_Rich.f k t401).bind fun bt406 => ((trim_Ends.f k t401).bind fun bt408 => ((trim_Centers.f k t401).bind fun bt412 => ((trim_Occurrences.f t401).bind fun bt416 => ((trim_Longest.f t401).bind fun bt418 => (if bt402.2 = 0 then (if bt406.2 = 0 then (if bt408.2 = 0 then (if bt412.2 = 0 then (if bt416.2 = 0 then (if bt418.2.2 = 0 then (if (bt402.1.length : Int) > (t401.size : Int) then (galloonlaw01_TrimRich.j0 k t401 bt408.1 bt412.1 bt416.1 bt418.1 bt418.2.1 true) else (if (((bt402.1.length : Int) == (t401.size : Int)) != (bt406.1 == (-1))) = true then (galloonlaw01_TrimRich.j0 k t401 bt408.1 bt412.1 bt416.1 bt418.1 bt418.2.1 true) else (if bt406.1 < (-1) then (galloonlaw01_TrimRich.j0 k t401 bt408.1 bt412.1 bt416.1 bt418.1 bt418.2.1 true) else (if bt406.1 ≥ (t401.size : Int) then (galloonlaw01_TrimRich.j0 k t401 bt408.1 bt412.1 bt416.1 bt418.1 bt418.2.1 true) else (galloonlaw01_TrimRich.j0 k t401 bt408.1 bt412.1 bt416.1 bt418.1 bt418.2.1 ((bt408.1.length : Int) != (t401.size : Int))))))) else (galloonlaw01_TrimRich.j0 k t401 bt408.1 bt412.1 bt416.1 bt418.1 bt418.2.1 true)) else (galloonlaw01_TrimRich.j0 k t401 bt408.1 bt412.1 bt416.1 bt418.1 bt418.2.1 true)) else (galloonlaw01_TrimRich.j0 k t401 bt408.1 bt412.1 bt416.1 bt418.1 bt418.2.1 true)) else (galloonlaw01_TrimRich.j0 k t401 bt408.1 bt412.1 bt416.1 bt418.1 bt418.2.1 true)) else (galloonlaw01_TrimRich.j0 k t401 bt408.1 bt412.1 bt416.1 bt418.1 bt418.2.1 true)) else (galloonlaw01_TrimRich.j0 k t401 bt408.1 bt412.1 bt416.1 bt418.1 bt418.2.1 true)))))))) = some r := H
  have A2 := Aside0.mk A20
  clear A20
  replace H := Option.bind_eq_some_iff.mp H
  obtain ⟨⟨t402, t403⟩, A30, H⟩ := H
  replace H : ((trim_Rich.f k t401).bind fun bt406 => ((trim_Ends.f k t401).bind fun bt408 => ((trim_Centers.f k t401).bind fun bt412 => ((trim_Occurrences.f t401).bind fun bt416 => ((trim_Longest.f t401).bind fun bt418 => (if t403 = 0 then (if bt406.2 = 0 then (if bt408.2 = 0 then (if bt412.2 = 0 then (if bt416.2 = 0 then (if bt418.2.2 = 0 then (if (t402.length : Int) > (t401.size : Int) then (galloonlaw01_TrimRich.j0 k t401 bt408.1 bt412.1 bt416.1 bt418.1 bt418.2.1 true) else (if (((t402.length : Int) == (t401.size : Int)) != (bt406.1 == (-1))) = true then (galloonlaw01_TrimRich.j0 k t401 bt408.1 bt412.1 bt416.1 bt418.1 bt418.2.1 true) else (if bt406.1 < (-1) then (galloonlaw01_TrimRich.j0 k t401 bt408.1 bt412.1 bt416.1 bt418.1 bt418.2.1 true) else (if bt406.1 ≥ (t401.size : Int) then (galloonlaw01_TrimRich.j0 k t401 bt408.1 bt412.1 bt416.1 bt418.1 bt418.2.1 true) else (galloonlaw01_TrimRich.j0 k t401 bt408.1 bt412.1 bt416.1 bt418.1 bt418.2.1 ((bt408.1.length : Int) != (t401.size : Int))))))) else (galloonlaw01_TrimRich.j0 k t401 bt408.1 bt412.1 bt416.1 bt418.1 bt418.2.1 true)) else (galloonlaw01_TrimRich.j0 k t401 bt408.1 bt412.1 bt416.1 bt418.1 bt418.2.1 true)) else (galloonlaw01_TrimRich.j0 k t401 bt408.1 bt412.1 bt416.1 bt418.1 bt418.2.1 true)) else (galloonlaw01_TrimRich.j0 k t401 bt408.1 bt412.1 bt416.1 bt418.1 bt418.2.1 true)) else (galloonlaw01_TrimRich.j0 k t401 bt408.1 bt412.1 bt416.1 bt418.1 bt418.2.1 true)) else (galloonlaw01_TrimRich.j0 k t401 bt408.1 bt412.1 bt416.1 bt418.1 bt418.2.1 true))))))) = some r := H
  have A3 := Aside0.mk A30
  clear A30
  replace H := Option.bind_eq_some_iff.mp H
  obtain ⟨⟨t406, t407⟩, A40, H⟩ := H
  replace H : ((trim_Ends.f k t401).bind fun bt408 => ((trim_Centers.f k t401).bind fun bt412 => ((trim_Occurrences.f t401).bind fun bt416 => ((trim_Longest.f t401).bind fun bt418 => (if t403 = 0 then (if t407 = 0 then (if bt408.2 = 0 then (if bt412.2 = 0 then (if bt416.2 = 0 then (if bt418.2.2 = 0 then (if (t402.length : Int) > (t401.size : Int) then (galloonlaw01_TrimRich.j0 k t401 bt408.1 bt412.1 bt416.1 bt418.1 bt418.2.1 true) else (if (((t402.length : Int) == (t401.size : Int)) != (t406 == (-1))) = true then (galloonlaw01_TrimRich.j0 k t401 bt408.1 bt412.1 bt416.1 bt418.1 bt418.2.1 true) else (if t406 < (-1) then (galloonlaw01_TrimRich.j0 k t401 bt408.1 bt412.1 bt416.1 bt418.1 bt418.2.1 true) else (if t406 ≥ (t401.size : Int) then (galloonlaw01_TrimRich.j0 k t401 bt408.1 bt412.1 bt416.1 bt418.1 bt418.2.1 true) else (galloonlaw01_TrimRich.j0 k t401 bt408.1 bt412.1 bt416.1 bt418.1 bt418.2.1 ((bt408.1.length : Int) != (t401.size : Int))))))) else (galloonlaw01_TrimRich.j0 k t401 bt408.1 bt412.1 bt416.1 bt418.1 bt418.2.1 true)) else (galloonlaw01_TrimRich.j0 k t401 bt408.1 bt412.1 bt416.1 bt418.1 bt418.2.1 true)) else (galloonlaw01_TrimRich.j0 k t401 bt408.1 bt412.1 bt416.1 bt418.1 bt418.2.1 true)) else (galloonlaw01_TrimRich.j0 k t401 bt408.1 bt412.1 bt416.1 bt418.1 bt418.2.1 true)) else (galloonlaw01_TrimRich.j0 k t401 bt408.1 bt412.1 bt416.1 bt418.1 bt418.2.1 true)) else (galloonlaw01_TrimRich.j0 k t401 bt408.1 bt412.1 bt416.1 bt418.1 bt418.2.1 true)))))) = some r := H
  have A4 := Aside0.mk A40
  clear A40
  replace H := Option.bind_eq_some_iff.mp H
  obtain ⟨⟨t408, t409⟩, A50, H⟩ := H
  replace H : ((trim_Centers.f k t401).bind fun bt412 => ((trim_Occurrences.f t401).bind fun bt416 => ((trim_Longest.f t401).bind fun bt418 => (if t403 = 0 then (if t407 = 0 then (if t409 = 0 then (if bt412.2 = 0 then (if bt416.2 = 0 then (if bt418.2.2 = 0 then (if (t402.length : Int) > (t401.size : Int) then (galloonlaw01_TrimRich.j0 k t401 t408 bt412.1 bt416.1 bt418.1 bt418.2.1 true) else (if (((t402.length : Int) == (t401.size : Int)) != (t406 == (-1))) = true then (galloonlaw01_TrimRich.j0 k t401 t408 bt412.1 bt416.1 bt418.1 bt418.2.1 true) else (if t406 < (-1) then (galloonlaw01_TrimRich.j0 k t401 t408 bt412.1 bt416.1 bt418.1 bt418.2.1 true) else (if t406 ≥ (t401.size : Int) then (galloonlaw01_TrimRich.j0 k t401 t408 bt412.1 bt416.1 bt418.1 bt418.2.1 true) else (galloonlaw01_TrimRich.j0 k t401 t408 bt412.1 bt416.1 bt418.1 bt418.2.1 ((t408.length : Int) != (t401.size : Int))))))) else (galloonlaw01_TrimRich.j0 k t401 t408 bt412.1 bt416.1 bt418.1 bt418.2.1 true)) else (galloonlaw01_TrimRich.j0 k t401 t408 bt412.1 bt416.1 bt418.1 bt418.2.1 true)) else (galloonlaw01_TrimRich.j0 k t401 t408 bt412.1 bt416.1 bt418.1 bt418.2.1 true)) else (galloonlaw01_TrimRich.j0 k t401 t408 bt412.1 bt416.1 bt418.1 bt418.2.1 true)) else (galloonlaw01_TrimRich.j0 k t401 t408 bt412.1 bt416.1 bt418.1 bt418.2.1 true)) else (galloonlaw01_TrimRich.j0 k t401 t408 bt412.1 bt416.1 bt418.1 bt418.2.1 true))))) = some r := H
  have A5 := Aside0.mk A50
  clear A50
  replace H := Option.bind_eq_some_iff.mp H
  obtain ⟨⟨t412, t413⟩, A60, H⟩ := H
  replace H : ((trim_Occurrences.f t401).bind fun bt416 => ((trim_Longest.f t401).bind fun bt418 => (if t403 = 0 then (if t407 = 0 then (if t409 = 0 then (if t413 = 0 then (if bt416.2 = 0 then (if bt418.2.2 = 0 then (if (t402.length : Int) > (t401.size : Int) then (galloonlaw01_TrimRich.j0 k t401 t408 t412 bt416.1 bt418.1 bt418.2.1 true) else (if (((t402.length : Int) == (t401.size : Int)) != (t406 == (-1))) = true then (galloonlaw01_TrimRich.j0 k t401 t408 t412 bt416.1 bt418.1 bt418.2.1 true) else (if t406 < (-1) then (galloonlaw01_TrimRich.j0 k t401 t408 t412 bt416.1 bt418.1 bt418.2.1 true) else (if t406 ≥ (t401.size : Int) then (galloonlaw01_TrimRich.j0 k t401 t408 t412 bt416.1 bt418.1 bt418.2.1 true) else (galloonlaw01_TrimRich.j0 k t401 t408 t412 bt416.1 bt418.1 bt418.2.1 ((t408.length : Int) != (t401.size : Int))))))) else (galloonlaw01_TrimRich.j0 k t401 t408 t412 bt416.1 bt418.1 bt418.2.1 true)) else (galloonlaw01_TrimRich.j0 k t401 t408 t412 bt416.1 bt418.1 bt418.2.1 true)) else (galloonlaw01_TrimRich.j0 k t401 t408 t412 bt416.1 bt418.1 bt418.2.1 true)) else (galloonlaw01_TrimRich.j0 k t401 t408 t412 bt416.1 bt418.1 bt418.2.1 true)) else (galloonlaw01_TrimRich.j0 k t401 t408 t412 bt416.1 bt418.1 bt418.2.1 true)) else (galloonlaw01_TrimRich.j0 k t401 t408 t412 bt416.1 bt418.1 bt418.2.1 true)))) = some r := H
  have A6 := Aside0.mk A60
  clear A60
  replace H := Option.bind_eq_some_iff.mp H
  obtain ⟨⟨t416, t417⟩, A70, H⟩ := H
  replace H : ((trim_Longest.f t401).bind fun bt418 => (if t403 = 0 then (if t407 = 0 then (if t409 = 0 then (if t413 = 0 then (if t417 = 0 then (if bt418.2.2 = 0 then (if (t402.length : Int) > (t401.size : Int) then (galloonlaw01_TrimRich.j0 k t401 t408 t412 t416 bt418.1 bt418.2.1 true) else (if (((t402.length : Int) == (t401.size : Int)) != (t406 == (-1))) = true then (galloonlaw01_TrimRich.j0 k t401 t408 t412 t416 bt418.1 bt418.2.1 true) else (if t406 < (-1) then (galloonlaw01_TrimRich.j0 k t401 t408 t412 t416 bt418.1 bt418.2.1 true) else (if t406 ≥ (t401.size : Int) then (galloonlaw01_TrimRich.j0 k t401 t408 t412 t416 bt418.1 bt418.2.1 true) else (galloonlaw01_TrimRich.j0 k t401 t408 t412 t416 bt418.1 bt418.2.1 ((t408.length : Int) != (t401.size : Int))))))) else (galloonlaw01_TrimRich.j0 k t401 t408 t412 t416 bt418.1 bt418.2.1 true)) else (galloonlaw01_TrimRich.j0 k t401 t408 t412 t416 bt418.1 bt418.2.1 true)) else (galloonlaw01_TrimRich.j0 k t401 t408 t412 t416 bt418.1 bt418.2.1 true)) else (galloonlaw01_TrimRich.j0 k t401 t408 t412 t416 bt418.1 bt418.2.1 true)) else (galloonlaw01_TrimRich.j0 k t401 t408 t412 t416 bt418.1 bt418.2.1 true)) else (galloonlaw01_TrimRich.j0 k t401 t408 t412 t416 bt418.1 bt418.2.1 true))) = some r := H
  have A7 := Aside0.mk A70
  clear A70
  replace H := Option.bind_eq_some_iff.mp H
  obtain ⟨⟨t418, t419, t420⟩, A80, H⟩ := H
  replace H : (if t403 = 0 then (if t407 = 0 then (if t409 = 0 then (if t413 = 0 then (if t417 = 0 then (if t420 = 0 then (if (t402.length : Int) > (t401.size : Int) then (galloonlaw01_TrimRich.j0 k t401 t408 t412 t416 t418 t419 true) else (if (((t402.length : Int) == (t401.size : Int)) != (t406 == (-1))) = true then (galloonlaw01_TrimRich.j0 k t401 t408 t412 t416 t418 t419 true) else (if t406 < (-1) then (galloonlaw01_TrimRich.j0 k t401 t408 t412 t416 t418 t419 true) else (if t406 ≥ (t401.size : Int) then (galloonlaw01_TrimRich.j0 k t401 t408 t412 t416 t418 t419 true) else (galloonlaw01_TrimRich.j0 k t401 t408 t412 t416 t418 t419 ((t408.length : Int) != (t401.size : Int))))))) else (galloonlaw01_TrimRich.j0 k t401 t408 t412 t416 t418 t419 true)) else (galloonlaw01_TrimRich.j0 k t401 t408 t412 t416 t418 t419 true)) else (galloonlaw01_TrimRich.j0 k t401 t408 t412 t416 t418 t419 true)) else (galloonlaw01_TrimRich.j0 k t401 t408 t412 t416 t418 t419 true)) else (galloonlaw01_TrimRich.j0 k t401 t408 t412 t416 t418 t419 true)) else (galloonlaw01_TrimRich.j0 k t401 t408 t412 t416 t418 t419 true)) = some r := H
  have A8 := Aside0.mk A80
  clear A80
  have HC9 := Aside0.mk H
  clear H
  go_enter Try.func9, Try.ntmps9
  go_upto_region 8 with (first | ((with_reducible refine gate_callee (f := 30) rfl ?_); refine goesL_ (some 23) rfl rfl Try.func30 (by kernel_rfl) rfl #[.string a0, .int .i64 100] rfl (by (try simp only [List.map_toArray, List.map_cons, List.map_nil]); first | done | rfl | (simp only [List.length_drop, List.length_take]; rfl)) ?_; (with_reducible refine (galloonlaw01_tame.calls k a0 100 t401 _ A2.out).mono ?_); rintro e w10 ⟨rfl, hb⟩; refine ⟨_, rfl, ?_⟩; have n0_ := Aside0.mk (below_step (by repeat (first | (with_reducible first | exact HB.out | apply below_alloc | apply pw_below_drewN | apply below_drew1) | exact HB.out)) hb); clear HB; have HB := n0_; clear n0_; (try clear hb); (try clear hb2); (try clear hk); (try clear hi)) | ((with_reducible refine gate_callee (f := 33) rfl ?_); refine goesL_ (some 26) rfl rfl Try.func33 (by kernel_rfl) rfl #[.string t401] rfl (by (try simp only [List.map_toArray, List.map_cons, List.map_nil]); first | done | rfl | (simp only [List.length_drop, List.length_take]; rfl)) ?_; (with_reducible refine (trim_Palindromes.calls t401 t402 t403 _ A3.out).mono ?_); rintro e w11 ⟨v404, rfl, ho0, hb⟩; refine ⟨_, rfl, ?_⟩; have n0_ := Aside0.mk (Kd.R_lower ho0 (below_size (by repeat (first | (with_reducible first | exact HB.out | apply below_alloc | apply pw_below_drewN | apply below_drew1) | exact HB.out)))); have n1_ := Aside0.mk (below_step (by repeat (first | (with_reducible first | exact HB.out | apply below_alloc | apply pw_below_drewN | apply below_drew1) | exact HB.out)) hb); clear HB; have HO405 := n0_; have HB := n1_; clear n0_ n1_; (try clear hb); (try clear hb2); (try clear hk); (try clear hi); (try clear ho0)) | ((with_reducible refine gate_callee (f := 18) rfl ?_); refine goesL_ (some 31) rfl rfl Try.func18 (by kernel_rfl) rfl #[.string t401] rfl (by (try simp only [List.map_toArray, List.map_cons, List.map_nil]); first | done | rfl | (simp only [List.length_drop, List.length_take]; rfl)) ?_; (with_reducible refine (trim_Rich.calls k t401 t406 t407 _ A4.out (Glob.at hg (by repeat (first | (with_reducible first | exact HB.out | apply below_alloc | apply pw_below_drewN | apply below_drew1) | exact HB.out)))).mono ?_); rintro e w12 ⟨rfl, hb⟩; refine ⟨_, rfl, ?_⟩; have n0_ := Aside0.mk (Kd.R_below (by (with_reducible repeat (first | apply Kd.R_alloc | apply Kd.R_drewN | apply Kd.R_drew)); exact HO405.out) hb); have n1_ := Aside0.mk (below_step (by repeat (first | (with_reducible first | exact HB.out | apply below_alloc | apply pw_below_drewN | apply below_drew1) | exact HB.out)) hb); clear HO405; clear HB; have HO405 := n0_; have HB := n1_; clear n0_ n1_; (try clear hb); (try clear hb2); (try clear hk); (try clear hi)) | ((with_reducible refine gate_callee (f := 17) rfl ?_); refine goesL_ (some 36) rfl rfl Try.func17 (by kernel_rfl) rfl #[.string t401] rfl (by (try simp only [List.map_toArray, List.map_cons, List.map_nil]); first | done | rfl | (simp only [List.length_drop, List.length_take]; rfl)) ?_; (with_reducible refine (trim_Ends.calls k t401 t408 t409 _ A5.out).mono ?_); rintro e w13 ⟨v410, rfl, ho0, hb⟩; refine ⟨_, rfl, ?_⟩; have n0_ := Aside0.mk (Kd.R_below (by (with_reducible repeat (first | apply Kd.R_alloc | apply Kd.R_drewN | apply Kd.R_drew)); exact HO405.out) hb); have n1_ := Aside0.mk (Kd.R_lower ho0 (below_size (by repeat (first | (with_reducible first | exact HB.out | apply below_alloc | apply pw_below_drewN | apply below_drew1) | exact HB.out)))); have n2_ := Aside0.mk (below_step (by repeat (first | (with_reducible first | exact HB.out | apply below_alloc | apply pw_below_drewN | apply below_drew1) | exact HB.out)) hb); clear HO405; clear HB; have HO405 := n0_; have HO411 := n1_; have HB := n2_; clear n0_ n1_ n2_; (try clear hb); (try clear hb2); (try clear hk); (try clear hi); (try clear ho0)) | ((with_reducible refine gate_callee (f := 34) rfl ?_); refine goesL_ (some 41) rfl rfl Try.func34 (by kernel_rfl) rfl #[.string t401] rfl (by (try simp only [List.map_toArray, List.map_cons, List.map_nil]); first | done | rfl | (simp only [List.length_drop, List.length_take]; rfl)) ?_; (with_reducible refine (trim_Centers.calls k t401 t412 t413 _ A6.out).mono ?_); rintro e w14 ⟨v414, rfl, ho0, hb⟩; refine ⟨_, rfl, ?_⟩; have n0_ := Aside0.mk (Kd.R_below (by (with_reducible repeat (first | apply Kd.R_alloc | apply Kd.R_drewN | apply Kd.R_drew)); exact HO405.out) hb); have n1_ := Aside0.mk (Kd.R_elder' (by (with_reducible repeat (first | apply Kd.R_alloc | apply Kd.R_drewN | apply Kd.R_drew)); exact HO411.out) (Kd.R_base ho0) hb); have n2_ := Aside0.mk (Kd.R_lower (Kd.R_new' ho0 (Kd.R_lt (by (with_reducible repeat (first | apply Kd.R_alloc | apply Kd.R_drewN | apply Kd.R_drew)); exact HO411.out))) (below_size (by repeat (first | (with_reducible first | exact HB.out | apply below_alloc | apply pw_below_drewN | apply below_drew1) | exact HB.out)))); have n3_ := Aside0.mk (below_step (by repeat (first | (with_reducible first | exact HB.out | apply below_alloc | apply pw_below_drewN | apply below_drew1) | exact HB.out)) hb); clear HO405; clear HO411; clear HB; have HO405 := n0_; have HO411 := n1_; have HO415 := n2_; have HB := n3_; clear n0_ n1_ n2_ n3_; (try clear hb); (try clear hb2); (try clear hk); (try clear hi); (try clear ho0)) | ((with_reducible refine gate_callee (f := 35) rfl ?_); refine goesL_ (some 46) rfl rfl Try.func35 (by kernel_rfl) rfl #[.string t401] rfl (by (try simp only [List.map_toArray, List.map_cons, List.map_nil]); first | done | rfl | (simp only [List.length_drop, List.length_take]; rfl)) ?_; (with_reducible refine (trim_Occurrences.calls t401 t416 t417 _ A7.out).mono ?_); rintro e w15 ⟨rfl, hb⟩; refine ⟨_, rfl, ?_⟩; have n0_ := Aside0.mk (Kd.R_below (by (with_reducible repeat (first | apply Kd.R_alloc | apply Kd.R_drewN | apply Kd.R_drew)); exact HO405.out) hb); have n1_ := Aside0.mk (Kd.R_below (by (with_reducible repeat (first | apply Kd.R_alloc | apply Kd.R_drewN | apply Kd.R_drew)); exact HO411.out) hb); have n2_ := Aside0.mk (Kd.R_below (by (with_reducible repeat (first | apply Kd.R_alloc | apply Kd.R_drewN | apply Kd.R_drew)); exact HO415.out) hb); have n3_ := Aside0.mk (below_step (by repeat (first | (with_reducible first | exact HB.out | apply below_alloc | apply pw_below_drewN | apply below_drew1) | exact HB.out)) hb); clear HO405; clear HO411; clear HO415; clear HB; have HO405 := n0_; have HO411 := n1_; have HO415 := n2_; have HB := n3_; clear n0_ n1_ n2_ n3_; (try clear hb); (try clear hb2); (try clear hk); (try clear hi)) | ((with_reducible refine gate_callee (f := 36) rfl ?_); refine goesL_ (some 51) rfl rfl Try.func36 (by kernel_rfl) rfl #[.string t401] rfl (by (try simp only [List.map_toArray, List.map_cons, List.map_nil]); first | done | rfl | (simp only [List.length_drop, List.length_take]; rfl)) ?_; (with_reducible refine (trim_Longest.calls t401 t418 t419 t420 _ A8.out).mono ?_); rintro e w16 ⟨rfl, hb⟩; refine ⟨_, rfl, ?_⟩; have n0_ := Aside0.mk (Kd.R_below (by (with_reducible repeat (first | apply Kd.R_alloc | apply Kd.R_drewN | apply Kd.R_drew)); exact HO405.out) hb); have n1_ := Aside0.mk (Kd.R_below (by (with_reducible repeat (first | apply Kd.R_alloc | apply Kd.R_drewN | apply Kd.R_drew)); exact HO411.out) hb); have n2_ := Aside0.mk (Kd.R_below (by (with_reducible repeat (first | apply Kd.R_alloc | apply Kd.R_drewN | apply Kd.R_drew)); exact HO415.out) hb); have n3_ := Aside0.mk (below_step (by repeat (first | (with_reducible first | exact HB.out | apply below_alloc | apply pw_below_drewN | apply below_drew1) | exact HB.out)) hb); clear HO405; clear HO411; clear HO415; clear HB; have HO405 := n0_; have HO411 := n1_; have HO415 := n2_; have HB := n3_; clear n0_ n1_ n2_ n3_; (try clear hb); (try clear hb2); (try clear hk); (try clear hi)))
  (try simp only [Act.put, List.setIfInBounds_toArray, List.set_cons_zero, List.set_cons_succ])
  go_cut [110] (fun v110 wc => ∃ (kq : Nat) (x110_8 : Bool), v110 = .bool x110_8 ∧ Aside0 (galloonlaw01_TrimRich.j0 kq t401 t408 t412 t416 t418 t419 x110_8 = some r) ∧ Aside0 (kq ≤ k) ∧ Aside0 (Kd.R (Kd.int .i64) 3 wc w.heap.size (fun k_ => some k_ ≠ (v414 : Value).ownBlock) v410 t408) ∧ Aside0 (Kd.R (Kd.int .i64) 3 wc w.heap.size (fun k_ => some k_ ≠ (v410 : Value).ownBlock) v414 t412) ∧ Aside0 (Below w.heap.size w wc))
  case first =>
    have H := HC9.out
    clear HC9
    by_cases c17 : t403 = 0
    · rw [if_pos c17] at H
      have c17b0 : (t403 == 0) = true := beq_iff_eq.mpr c17
      have c17b1 : (t403 != 0) = false := bne_eq_false_iff_eq.mpr c17
      clear c17
      (first | rw [c17b0] | (simp only [i64_w, i32_w]; rw [c17b0]) | skip)
      by_cases c18 : t407 = 0
      · rw [if_pos c18] at H
        have c18b0 : (t407 == 0) = true := beq_iff_eq.mpr c18
        have c18b1 : (t407 != 0) = false := bne_eq_false_iff_eq.mpr c18
        clear c18
        by_cases c19 : t409 = 0
        · rw [if_pos c19] at H
          have c19b0 : (t409 == 0) = true := beq_iff_eq.mpr c19
          have c19b1 : (t409 != 0) = false := bne_eq_false_iff_eq.mpr c19
          clear c19
          by_cases c20 : t413 = 0
          · rw [if_pos c20] at H
            have c20b0 : (t413 == 0) = true := beq_iff_eq.mpr c20
            have c20b1 : (t413 != 0) = false := bne_eq_false_iff_eq.mpr c20
            clear c20
            by_cases c21 : t417 = 0
            · rw [if_pos c21] at H
              have c21b0 : (t417 == 0) = true := beq_iff_eq.mpr c21
              have c21b1 : (t417 != 0) = false := bne_eq_false_iff_eq.mpr c21
              clear c21
              by_cases c22 : t420 = 0
              · rw [if_pos c22] at H
                have c22b0 : (t420 == 0) = true := beq_iff_eq.mpr c22
                have c22b1 : (t420 != 0) = false := bne_eq_false_iff_eq.mpr c22
                clear c22
                by_cases c23 : (t402.length : Int) > (t401.size : Int)
                · rw [if_pos c23] at H
                  have c23b0 : decide ((t401.size : Int) < (t402.length : Int)) = true := decide_eq_true c23
                  have c23b1 : decide (t401.size < t402.length) = true := decide_eq_true (Int.ofNat_lt.mp c23)
                  clear c23
                  have H' := Aside0.mk H
                  clear H
                  obtain ⟨Ao24, co24, eo24⟩ := Kd.R_slice HO405.out
                  subst eo24
                  go_wp2
                  go_meet
                  case rel => exact ⟨_, (true), (by first | rfl | (simp; done) | (simp [*]; done)), H', ⟨by first | omega | exact Nat.le_refl _⟩, ⟨by (with_reducible repeat (first | apply Kd.R_alloc | apply Kd.R_drewN | apply Kd.R_drew)); exact Kd.R_mono HO411.out (fun _ hk => hk.2)⟩, ⟨by (with_reducible repeat (first | apply Kd.R_alloc | apply Kd.R_drewN | apply Kd.R_drew)); exact Kd.R_mono HO415.out (fun _ hk => hk.2)⟩, ⟨by repeat (first | (with_reducible first | exact HB.out | apply below_alloc | apply pw_below_drewN | apply below_drew1) | exact HB.out)⟩⟩
                · rw [if_neg c23] at H
                  have c23b0 : decide ((t401.size : Int) < (t402.length : Int)) = false := decide_eq_false c23
                  have c23b1 : decide (t401.size < t402.length) = false := decide_eq_false (fun h => c23 (Int.ofNat_lt.mpr h))
                  clear c23
                  by_cases c25 : (((t402.length : Int) == (t401.size : Int)) != (t406 == (-1))) = true
                  · rw [if_pos c25] at H
                    have c25b0 : (((t402.length : Int) == (t401.size : Int)) != (t406 == (-1))) = true := c25
                    (try (have c25b1 : decide (((t402.length : Int) == (t401.size : Int)) = (t406 == (-1))) = false := by simpa using c25))
                    (try (have c25b2 : (((t402.length : Int) == (t401.size : Int)) == (t406 == (-1))) = false := by simpa using c25))
                    (try (have c25b3 : ¬ (((t402.length : Int) == (t401.size : Int)) = (t406 == (-1))) := by simpa using c25))
                    clear c25
                    have H' := Aside0.mk H
                    clear H
                    obtain ⟨Ao26, co26, eo26⟩ := Kd.R_slice HO405.out
                    subst eo26
                    go_wp2
                    go_meet
                    case rel => exact ⟨_, (true), (by first | rfl | (simp; done) | (simp [*]; done)), H', ⟨by first | omega | exact Nat.le_refl _⟩, ⟨by (with_reducible repeat (first | apply Kd.R_alloc | apply Kd.R_drewN | apply Kd.R_drew)); exact Kd.R_mono HO411.out (fun _ hk => hk.2)⟩, ⟨by (with_reducible repeat (first | apply Kd.R_alloc | apply Kd.R_drewN | apply Kd.R_drew)); exact Kd.R_mono HO415.out (fun _ hk => hk.2)⟩, ⟨by repeat (first | (with_reducible first | exact HB.out | apply below_alloc | apply pw_below_drewN | apply below_drew1) | exact HB.out)⟩⟩
                  · rw [if_neg c25] at H
                    have c25b0 : (((t402.length : Int) == (t401.size : Int)) != (t406 == (-1))) = false := by simpa using c25
                    (try (have c25b1 : decide (((t402.length : Int) == (t401.size : Int)) = (t406 == (-1))) = true := by simpa using c25))
                    (try (have c25b2 : (((t402.length : Int) == (t401.size : Int)) == (t406 == (-1))) = true := by simpa using c25))
                    clear c25
                    by_cases c27 : t406 < (-1)
                    · rw [if_pos c27] at H
                      have c27b0 : decide (t406 < (-1)) = true := decide_eq_true c27
                      clear c27
                      have H' := Aside0.mk H
                      clear H
                      obtain ⟨Ao28, co28, eo28⟩ := Kd.R_slice HO405.out
                      subst eo28
                      go_wp2
                      go_meet
                      case rel => exact ⟨_, (true), (by first | rfl | (simp; done) | (simp [*]; done)), H', ⟨by first | omega | exact Nat.le_refl _⟩, ⟨by (with_reducible repeat (first | apply Kd.R_alloc | apply Kd.R_drewN | apply Kd.R_drew)); exact Kd.R_mono HO411.out (fun _ hk => hk.2)⟩, ⟨by (with_reducible repeat (first | apply Kd.R_alloc | apply Kd.R_drewN | apply Kd.R_drew)); exact Kd.R_mono HO415.out (fun _ hk => hk.2)⟩, ⟨by repeat (first | (with_reducible first | exact HB.out | apply below_alloc | apply pw_below_drewN | apply below_drew1) | exact HB.out)⟩⟩
                    · rw [if_neg c27] at H
                      have c27b0 : decide (t406 < (-1)) = false := decide_eq_false c27
                      clear c27
                      by_cases c29 : t406 ≥ (t401.size : Int)
                      · rw [if_pos c29] at H
                        have c29b0 : decide ((t401.size : Int) ≤ t406) = true := decide_eq_true c29
                        clear c29
                        have H' := Aside0.mk H
                        clear H
                        obtain ⟨Ao30, co30, eo30⟩ := Kd.R_slice HO405.out
                        subst eo30
                        go_wp2
                        go_meet
                        case rel => exact ⟨_, (true), (by first | rfl | (simp; done) | (simp [*]; done)), H', ⟨by first | omega | exact Nat.le_refl _⟩, ⟨by (with_reducible repeat (first | apply Kd.R_alloc | apply Kd.R_drewN | apply Kd.R_drew)); exact Kd.R_mono HO411.out (fun _ hk => hk.2)⟩, ⟨by (with_reducible repeat (first | apply Kd.R_alloc | apply Kd.R_drewN | apply Kd.R_drew)); exact Kd.R_mono HO415.out (fun _ hk => hk.2)⟩, ⟨by repeat (first | (with_reducible first | exact HB.out | apply below_alloc | apply pw_below_drewN | apply below_drew1) | exact HB.out)⟩⟩
                      · rw [if_neg c29] at H
                        have c29b0 : decide ((t401.size : Int) ≤ t406) = false := decide_eq_false c29
                        clear c29
                        have H' := Aside0.mk H
                        clear H
                        obtain ⟨Ao31, co31, eo31⟩ := Kd.R_slice HO405.out
                        subst eo31
                        obtain ⟨Ao32, co32, eo32⟩ := Kd.R_slice HO411.out
                        subst eo32
                        go_wp2
                        go_meet
                        case rel => exact ⟨_, (((t408.length : Int) != (t401.size : Int))), (by first | rfl | (simp; done) | (simp [*]; done)), H', ⟨by first | omega | exact Nat.le_refl _⟩, ⟨by (with_reducible repeat (first | apply Kd.R_alloc | apply Kd.R_drewN | apply Kd.R_drew)); exact Kd.R_mono HO411.out (fun _ hk => hk.2)⟩, ⟨by (with_reducible repeat (first | apply Kd.R_alloc | apply Kd.R_drewN | apply Kd.R_drew)); exact Kd.R_mono HO415.out (fun _ hk => hk.2)⟩, ⟨by repeat (first | (with_reducible first | exact HB.out | apply below_alloc | apply pw_below_drewN | apply below_drew1) | exact HB.out)⟩⟩
              · rw [if_neg c22] at H
                have c22b0 : (t420 == 0) = false := beq_eq_false_iff_ne.mpr c22
                have c22b1 : (t420 != 0) = true := bne_iff_ne.mpr c22
                have H' := Aside0.mk H
                clear H
                go_wp2
                go_meet
                case rel => exact ⟨_, (true), (by first | rfl | (simp; done) | (simp [*]; done)), H', ⟨by first | omega | exact Nat.le_refl _⟩, ⟨by (with_reducible repeat (first | apply Kd.R_alloc | apply Kd.R_drewN | apply Kd.R_drew)); exact Kd.R_mono HO411.out (fun _ hk => hk.2)⟩, ⟨by (with_reducible repeat (first | apply Kd.R_alloc | apply Kd.R_drewN | apply Kd.R_drew)); exact Kd.R_mono HO415.out (fun _ hk => hk.2)⟩, ⟨by repeat (first | (with_reducible first | exact HB.out | apply below_alloc | apply pw_below_drewN | apply below_drew1) | exact HB.out)⟩⟩
            · rw [if_neg c21] at H
              have c21b0 : (t417 == 0) = false := beq_eq_false_iff_ne.mpr c21
              have c21b1 : (t417 != 0) = true := bne_iff_ne.mpr c21
              have H' := Aside0.mk H
              clear H
              go_wp2
              go_meet
              case rel => exact ⟨_, (true), (by first | rfl | (simp; done) | (simp [*]; done)), H', ⟨by first | omega | exact Nat.le_refl _⟩, ⟨by (with_reducible repeat (first | apply Kd.R_alloc | apply Kd.R_drewN | apply Kd.R_drew)); exact Kd.R_mono HO411.out (fun _ hk => hk.2)⟩, ⟨by (with_reducible repeat (first | apply Kd.R_alloc | apply Kd.R_drewN | apply Kd.R_drew)); exact Kd.R_mono HO415.out (fun _ hk => hk.2)⟩, ⟨by repeat (first | (with_reducible first | exact HB.out | apply below_alloc | apply pw_below_drewN | apply below_drew1) | exact HB.out)⟩⟩
          · rw [if_neg c20] at H
            have c20b0 : (t413 == 0) = false := beq_eq_false_iff_ne.mpr c20
            have c20b1 : (t413 != 0) = true := bne_iff_ne.mpr c20
            have H' := Aside0.mk H
            clear H
            go_wp2
            go_meet
            case rel => exact ⟨_, (true), (by first | rfl | (simp; done) | (simp [*]; done)), H', ⟨by first | omega | exact Nat.le_refl _⟩, ⟨by (with_reducible repeat (first | apply Kd.R_alloc | apply Kd.R_drewN | apply Kd.R_drew)); exact Kd.R_mono HO411.out (fun _ hk => hk.2)⟩, ⟨by (with_reducible repeat (first | apply Kd.R_alloc | apply Kd.R_drewN | apply Kd.R_drew)); exact Kd.R_mono HO415.out (fun _ hk => hk.2)⟩, ⟨by repeat (first | (with_reducible first | exact HB.out | apply below_alloc | apply pw_below_drewN | apply below_drew1) | exact HB.out)⟩⟩
        · rw [if_neg c19] at H
          have c19b0 : (t409 == 0) = false := beq_eq_false_iff_ne.mpr c19
          have c19b1 : (t409 != 0) = true := bne_iff_ne.mpr c19
          have H' := Aside0.mk H
          clear H
          go_wp2
          go_meet
          case rel => exact ⟨_, (true), (by first | rfl | (simp; done) | (simp [*]; done)), H', ⟨by first | omega | exact Nat.le_refl _⟩, ⟨by (with_reducible repeat (first | apply Kd.R_alloc | apply Kd.R_drewN | apply Kd.R_drew)); exact Kd.R_mono HO411.out (fun _ hk => hk.2)⟩, ⟨by (with_reducible repeat (first | apply Kd.R_alloc | apply Kd.R_drewN | apply Kd.R_drew)); exact Kd.R_mono HO415.out (fun _ hk => hk.2)⟩, ⟨by repeat (first | (with_reducible first | exact HB.out | apply below_alloc | apply pw_below_drewN | apply below_drew1) | exact HB.out)⟩⟩
      · rw [if_neg c18] at H
        have c18b0 : (t407 == 0) = false := beq_eq_false_iff_ne.mpr c18
        have c18b1 : (t407 != 0) = true := bne_iff_ne.mpr c18
        have H' := Aside0.mk H
        clear H
        go_wp2
        go_meet
        case rel => exact ⟨_, (true), (by first | rfl | (simp; done) | (simp [*]; done)), H', ⟨by first | omega | exact Nat.le_refl _⟩, ⟨by (with_reducible repeat (first | apply Kd.R_alloc | apply Kd.R_drewN | apply Kd.R_drew)); exact Kd.R_mono HO411.out (fun _ hk => hk.2)⟩, ⟨by (with_reducible repeat (first | apply Kd.R_alloc | apply Kd.R_drewN | apply Kd.R_drew)); exact Kd.R_mono HO415.out (fun _ hk => hk.2)⟩, ⟨by repeat (first | (with_reducible first | exact HB.out | apply below_alloc | apply pw_below_drewN | apply below_drew1) | exact HB.out)⟩⟩
    · rw [if_neg c17] at H
      have c17b0 : (t403 == 0) = false := beq_eq_false_iff_ne.mpr c17
      have c17b1 : (t403 != 0) = true := bne_iff_ne.mpr c17
      (first | rw [c17b0] | (simp only [i64_w, i32_w]; rw [c17b0]) | skip)
      have H' := Aside0.mk H
      clear H
      go_wp2
      go_meet
      case rel => exact ⟨_, (true), (by first | rfl | (simp; done) | (simp [*]; done)), H', ⟨by first | omega | exact Nat.le_refl _⟩, ⟨by (with_reducible repeat (first | apply Kd.R_alloc | apply Kd.R_drewN | apply Kd.R_drew)); exact Kd.R_mono HO411.out (fun _ hk => hk.2)⟩, ⟨by (with_reducible repeat (first | apply Kd.R_alloc | apply Kd.R_drewN | apply Kd.R_drew)); exact Kd.R_mono HO415.out (fun _ hk => hk.2)⟩, ⟨by repeat (first | (with_reducible first | exact HB.out | apply below_alloc | apply pw_below_drewN | apply below_drew1) | exact HB.out)⟩⟩
  case rest =>
    clear HC9
    try clear c1
    try clear c2
    try clear p2
    try clear c3
    try clear c9
    try clear c17
    try clear c17b0
    try clear c17b1
    try clear c18
    try clear c18b0
    try clear c18b1
    try clear c19
    try clear c19b0
    try clear c19b1
    try clear c20
    try clear c20b0
    try clear c20b1
    try clear c21
    try clear c21b0
    try clear c21b1
    try clear c22
    try clear c22b0
    try clear c22b1
    try clear c23
    try clear c23b0
    try clear c23b1
    try clear c25
    try clear c25b0
    try clear c25b1
    try clear c25b2
    try clear c27
    try clear c27b0
    try clear c29
    try clear c29b0
    try clear c30
    obtain ⟨kq, x110_8, rfl, HA, HJ8, HO_8, HO_10, HB⟩ := hcut
    cases kq with
    | zero => exact absurd HA.out (by simp [galloonlaw01_TrimRich.j0])
    | succ kj8 =>
      have H := HA.out
      clear HA
      simp only [galloonlaw01_TrimRich.j0] at H
      by_cases c33 : x110_8 = true
      · subst c33
        have H1 : (some false) = some r := by rw [if_pos rfl] at H; exact H
        clear H
        have H := H1
        clear H1
        obtain rfl := Option.some.inj H
        exact absurd hr.out (by decide)
      · replace c33 := Bool.eq_false_iff.mpr c33
        subst c33
        have H1 : (galloonlaw01_TrimRich.l0 kj8 t401 t408 t412 t416 t418 t419 0 0 0) = some r := by rw [if_neg (show ¬ (false = true) by decide)] at H; exact H
        clear H
        have H := H1
        clear H1
        have H' := Aside0.mk H
        clear H
        go_wp2
        go_loopg [17, 18, 19] kj8 (fun kq v17 v18 v19 w' => ∃ (x17_2 : Int) (x18_2 : Int) (x19_2 : Int), v17 = .int .i64 x17_2 ∧ v18 = .int .i64 x18_2 ∧ v19 = .int .i64 x19_2 ∧ Aside0 (galloonlaw01_TrimRich.l0 kq t401 t408 t412 t416 t418 t419 x17_2 x18_2 x19_2 = some r) ∧ Aside0 (kq ≤ kj8) ∧ Aside0 (Kd.R (Kd.int .i64) 3 w' w.heap.size (fun k_ => some k_ ≠ (v414 : Value).ownBlock) v410 t408) ∧ Aside0 (Kd.R (Kd.int .i64) 3 w' w.heap.size (fun k_ => some k_ ≠ (v410 : Value).ownBlock) v414 t412) ∧ Aside0 (Below w.heap.size w w'))
        case atStart => exact ⟨(0), (0), (0), (by first | rfl | (simp; done) | (simp [*]; done)), (by first | rfl | (simp; done) | (simp [*]; done)), (by first | rfl | (simp; done) | (simp [*]; done)), H', ⟨Nat.le_refl _⟩, ⟨by (with_reducible repeat (first | apply Kd.R_alloc | apply Kd.R_drewN | apply Kd.R_drew)); exact HO_8.out⟩, ⟨by (with_reducible repeat (first | apply Kd.R_alloc | apply Kd.R_drewN | apply Kd.R_drew)); exact HO_10.out⟩, ⟨by repeat (first | (with_reducible first | exact HB.out | apply below_alloc | apply pw_below_drewN | apply below_drew1) | exact HB.out)⟩⟩
        case round =>
          clear H'
          try clear c1
          try clear c2
          try clear p2
          try clear c3
          try clear c9
          try clear c17
          try clear c17b0
          try clear c17b1
          try clear c18
          try clear c18b0
          try clear c18b1
          try clear c19
          try clear c19b0
          try clear c19b1
          try clear c20
          try clear c20b0
          try clear c20b1
          try clear c21
          try clear c21b0
          try clear c21b1
          try clear c22
          try clear c22b0
          try clear c22b1
          try clear c23
          try clear c23b0
          try clear c23b1
          try clear c25
          try clear c25b0
          try clear c25b1
          try clear c25b2
          try clear c27
          try clear c27b0
          try clear c29
          try clear c29b0
          try clear c30
          try clear c33
          try clear p2
          obtain ⟨x17_2, x18_2, x19_2, rfl, rfl, rfl, HA, HK2, HO_8, HO_10, HB⟩ := hrel
          cases gk with
          | zero => exact absurd HA.out (by simp [galloonlaw01_TrimRich.l0])
          | succ k2 =>
            have H := HA.out
            clear HA
            simp only [galloonlaw01_TrimRich.l0] at H
            by_cases c34 : x19_2 < (t412.length : Int)
            · rw [if_pos c34] at H
              have c34b0 : decide (x19_2 < (t412.length : Int)) = true := decide_eq_true c34
              clear c34
              by_cases c35 : 0 ≤ x19_2
              · rw [if_pos c35] at H
                have c35b0 : decide (0 ≤ x19_2) = true := decide_eq_true c35
                clear c35
                obtain ⟨ji36, hji36⟩ : ∃ j_ : Int, (mx x18_2 (rd t412 x19_2)) = j_ := ⟨_, rfl⟩
                replace H : (galloonlaw01_TrimRich.l0 k2 t401 t408 t412 t416 t418 t419 (wrap64 (x17_2 + (wrap64 (Int.tdiv (wrap64 ((rd t412 x19_2) + 1)) 2)))) ji36 (wrap64 (x19_2 + 1))) = some r := by first | (rw [hji36] at H; exact H) | (simp only [hji36] at H ⊢; exact H)
                have hji36_ : (if x18_2 < (rd t412 x19_2) then (rd t412 x19_2) else x18_2) = ji36 := hji36
                have H' := Aside0.mk H
                clear H
                obtain ⟨Ao37, co37, eo37⟩ := Kd.R_slice HO_10.out
                subst eo37
                have p421 : 0 ≤ (x19_2 : Int) := of_decide_eq_true (by first | (with_reducible assumption) | assumption)
                have q421 : x19_2 < (t412.length : Int) := of_decide_eq_true (by first | (with_reducible assumption) | assumption)
                obtain ⟨ad421, e421, hx421_0⟩ := Kd.at_int (Kd.R_reads' HO_10.out).2.2 x19_2 p421 q421
                cases e421
                replace p421 := eq_true p421
                replace q421 := eq_true q421
                have p422 : 0 ≤ (x19_2 : Int) := of_decide_eq_true (by first | (with_reducible assumption) | assumption)
                have q422 : x19_2 < (t412.length : Int) := of_decide_eq_true (by first | (with_reducible assumption) | assumption)
                obtain ⟨ad422, e422, hx422_0⟩ := Kd.at_int (Kd.R_reads' HO_10.out).2.2 x19_2 p422 q422
                obtain rfl : ad421 = ad422 := (by injection e422)
                replace p422 := eq_true p422
                replace q422 := eq_true q422
                go_wp2
                go_roundg k2
                case measure => have := HJ8.out; have := HK2.out; omega
                case rel => exact ⟨(wrap64 (x17_2 + (wrap64 (Int.tdiv (wrap64 ((rd t412 x19_2) + 1)) 2)))), (ji36), (wrap64 (x19_2 + 1)), (by first | rfl | (simp; done) | (simp [*]; done)), (by first | rfl | (simp; done) | (simp only [← hji36] <;> (first | rfl | simp)) | (simp [*]; done)), (by first | rfl | (simp; done) | (simp [*]; done)), H', ⟨by have := HJ8.out; have := HK2.out; omega⟩, ⟨by (with_reducible repeat (first | apply Kd.R_alloc | apply Kd.R_drewN | apply Kd.R_drew)); exact HO_8.out⟩, ⟨by (with_reducible repeat (first | apply Kd.R_alloc | apply Kd.R_drewN | apply Kd.R_drew)); exact HO_10.out⟩, ⟨by repeat (first | (with_reducible first | exact HB.out | apply below_alloc | apply pw_below_drewN | apply below_drew1) | exact HB.out)⟩⟩
              · rw [if_neg c35] at H
                exact absurd H (by simp)
            · rw [if_neg c34] at H
              have c34b0 : decide (x19_2 < (t412.length : Int)) = false := decide_eq_false c34
              clear c34
              have H' := Aside0.mk H
              clear H
              obtain ⟨Ao38, co38, eo38⟩ := Kd.R_slice HO_10.out
              subst eo38
              go_wp2
              go_loopg [20, 21] k2 (fun kq v20 v21 w' => ∃ (x20_3 : Int) (x21_3 : Int), v20 = .int .i64 x20_3 ∧ v21 = .int .i64 x21_3 ∧ Aside0 (galloonlaw01_TrimRich.l1 kq t401 t408 t416 t418 t419 x17_2 x18_2 x20_3 x21_3 = some r) ∧ Aside0 (kq ≤ k2) ∧ Aside0 (Kd.R (Kd.int .i64) 3 w' w.heap.size (fun _ => True) v410 t408) ∧ Aside0 (Below w.heap.size w w'))
              case atStart => exact ⟨(0), (0), (by first | rfl | (simp; done) | (simp [*]; done)), (by first | rfl | (simp; done) | (simp [*]; done)), H', ⟨Nat.le_refl _⟩, ⟨by (with_reducible repeat (first | apply Kd.R_alloc | apply Kd.R_drewN | apply Kd.R_drew)); exact Kd.R_mono HO_8.out (fun _ hk => trivial)⟩, ⟨by repeat (first | (with_reducible first | exact HB.out | apply below_alloc | apply pw_below_drewN | apply below_drew1) | exact HB.out)⟩⟩
              case round =>
                clear H'
                try clear c1
                try clear c2
                try clear p2
                try clear c3
                try clear p4
                try clear q4
                try clear hx4
                try clear p6
                try clear c9
                try clear c17
                try clear c17b0
                try clear c17b1
                try clear c18
                try clear c18b0
                try clear c18b1
                try clear c19
                try clear c19b0
                try clear c19b1
                try clear c20
                try clear c20b0
                try clear c20b1
                try clear c21
                try clear c21b0
                try clear c21b1
                try clear c22
                try clear c22b0
                try clear c22b1
                try clear c23
                try clear c23b0
                try clear c23b1
                try clear c25
                try clear c25b0
                try clear c25b1
                try clear c25b2
                try clear c27
                try clear c27b0
                try clear c29
                try clear c29b0
                try clear c30
                try clear c33
                try clear c34
                try clear c34b0
                try clear c35
                try clear c35b0
                try clear c36
                try clear hx421_0
                try clear hx422_0
                try clear p2
                try clear p421
                try clear p422
                try clear q421
                try clear q422
                obtain ⟨x20_3, x21_3, rfl, rfl, HA, HK3, HO_8, HB⟩ := hrel
                cases gk with
                | zero => exact absurd HA.out (by simp [galloonlaw01_TrimRich.l1])
                | succ k3 =>
                  have H := HA.out
                  clear HA
                  simp only [galloonlaw01_TrimRich.l1] at H
                  by_cases c39 : x21_3 < (t408.length : Int)
                  · rw [if_pos c39] at H
                    have c39b0 : decide (x21_3 < (t408.length : Int)) = true := decide_eq_true c39
                    clear c39
                    by_cases c40 : 0 ≤ x21_3
                    · rw [if_pos c40] at H
                      have c40b0 : decide (0 ≤ x21_3) = true := decide_eq_true c40
                      clear c40
                      by_cases c41 : (rd t408 x21_3) < 1
                      · rw [if_pos c41] at H
                        have c41b0 : decide ((rd t408 x21_3) < 1) = true := decide_eq_true c41
                        clear c41
                        obtain rfl := Option.some.inj H
                        exact absurd hr.out (by decide)
                      · rw [if_neg c41] at H
                        have c41b0 : decide ((rd t408 x21_3) < 1) = false := decide_eq_false c41
                        clear c41
                        by_cases c42 : (rd t408 x21_3) > (wrap64 (x21_3 + 1))
                        · rw [if_pos c42] at H
                          have c42b0 : decide ((wrap64 (x21_3 + 1)) < (rd t408 x21_3)) = true := decide_eq_true c42
                          clear c42
                          obtain rfl := Option.some.inj H
                          exact absurd hr.out (by decide)
                        · rw [if_neg c42] at H
                          have c42b0 : decide ((wrap64 (x21_3 + 1)) < (rd t408 x21_3)) = false := decide_eq_false c42
                          clear c42
                          obtain ⟨ji43, hji43⟩ : ∃ j_ : Int, (mx x20_3 (rd t408 x21_3)) = j_ := ⟨_, rfl⟩
                          replace H : (galloonlaw01_TrimRich.l1 k3 t401 t408 t416 t418 t419 x17_2 x18_2 ji43 (wrap64 (x21_3 + 1))) = some r := by first | (rw [hji43] at H; exact H) | (simp only [hji43] at H ⊢; exact H)
                          have hji43_ : (if x20_3 < (rd t408 x21_3) then (rd t408 x21_3) else x20_3) = ji43 := hji43
                          have H' := Aside0.mk H
                          clear H
                          obtain ⟨Ao44, co44, eo44⟩ := Kd.R_slice HO_8.out
                          subst eo44
                          have p423 : 0 ≤ (x21_3 : Int) := of_decide_eq_true (by first | (with_reducible assumption) | assumption)
                          have q423 : x21_3 < (t408.length : Int) := of_decide_eq_true (by first | (with_reducible assumption) | assumption)
                          obtain ⟨ad423, e423, hx423_0⟩ := Kd.at_int (Kd.R_reads' HO_8.out).2.2 x21_3 p423 q423
                          cases e423
                          replace p423 := eq_true p423
                          replace q423 := eq_true q423
                          have p424 : 0 ≤ (x21_3 : Int) := of_decide_eq_true (by first | (with_reducible assumption) | assumption)
                          have q424 : x21_3 < (t408.length : Int) := of_decide_eq_true (by first | (with_reducible assumption) | assumption)
                          obtain ⟨ad424, e424, hx424_0⟩ := Kd.at_int (Kd.R_reads' HO_8.out).2.2 x21_3 p424 q424
                          obtain rfl : ad423 = ad424 := (by injection e424)
                          replace p424 := eq_true p424
                          replace q424 := eq_true q424
                          have p425 : 0 ≤ (x21_3 : Int) := of_decide_eq_true (by first | (with_reducible assumption) | assumption)
                          have q425 : x21_3 < (t408.length : Int) := of_decide_eq_true (by first | (with_reducible assumption) | assumption)
                          obtain ⟨ad425, e425, hx425_0⟩ := Kd.at_int (Kd.R_reads' HO_8.out).2.2 x21_3 p425 q425
                          obtain rfl : ad423 = ad425 := (by injection e425)
                          replace p425 := eq_true p425
                          replace q425 := eq_true q425
                          go_wp2
                          go_roundg k3
                          case measure => have := HJ8.out; have := HK2.out; have := HK3.out; omega
                          case rel => exact ⟨(ji43), (wrap64 (x21_3 + 1)), (by first | rfl | (simp; done) | (simp only [← hji43] <;> (first | rfl | simp)) | (simp [*]; done)), (by first | rfl | (simp; done) | (simp [*]; done)), H', ⟨by have := HJ8.out; have := HK2.out; have := HK3.out; omega⟩, ⟨by (with_reducible repeat (first | apply Kd.R_alloc | apply Kd.R_drewN | apply Kd.R_drew)); exact HO_8.out⟩, ⟨by repeat (first | (with_reducible first | exact HB.out | apply below_alloc | apply pw_below_drewN | apply below_drew1) | exact HB.out)⟩⟩
                    · rw [if_neg c40] at H
                      exact absurd H (by simp)
                  · rw [if_neg c39] at H
                    have c39b0 : decide (x21_3 < (t408.length : Int)) = false := decide_eq_false c39
                    clear c39
                    by_cases c45 : x17_2 = t416
                    · rw [if_pos c45] at H
                      have c45b0 : (x17_2 == t416) = true := beq_iff_eq.mpr c45
                      have c45b1 : (x17_2 != t416) = false := bne_eq_false_iff_eq.mpr c45
                      clear c45
                      by_cases c46 : x18_2 = t419
                      · rw [if_pos c46] at H
                        have c46b0 : (x18_2 == t419) = true := beq_iff_eq.mpr c46
                        have c46b1 : (x18_2 != t419) = false := bne_eq_false_iff_eq.mpr c46
                        clear c46
                        by_cases c47 : x20_3 = t419
                        · rw [if_pos c47] at H
                          have c47b0 : (x20_3 == t419) = true := beq_iff_eq.mpr c47
                          have c47b1 : (x20_3 != t419) = false := bne_eq_false_iff_eq.mpr c47
                          clear c47
                          by_cases c48 : t418 ≥ 0
                          · rw [if_pos c48] at H
                            have c48b0 : decide (0 ≤ t418) = true := decide_eq_true c48
                            clear c48
                            by_cases c49 : (wrap64 (t418 + t419)) ≤ (t401.size : Int)
                            · rw [if_pos c49] at H
                              have c49b0 : decide ((wrap64 (t418 + t419)) ≤ (t401.size : Int)) = true := decide_eq_true c49
                              clear c49
                              by_cases c50 : 0 ≤ t418
                              · rw [if_pos c50] at H
                                have c50b0 := eq_true c50
                                have c50b1 : decide (0 ≤ t418) = true := decide_eq_true c50
                                clear c50
                                by_cases c51 : t418 ≤ (wrap64 (t418 + t419))
                                · rw [if_pos c51] at H
                                  have c51b0 := eq_true c51
                                  have c51b1 : decide (t418 ≤ (wrap64 (t418 + t419))) = true := decide_eq_true c51
                                  have c52b0 := eq_true (of_decide_eq_true (by first | (with_reducible assumption) | assumption) : (wrap64 (t418 + t419)) ≤ (t401.size : Int))
                                  replace H := Option.bind_eq_some_iff.mp H
                                  obtain ⟨t426, A530, H⟩ := H
                                  replace H : (if t426 = true then ((galloonlaw01_awake.f k3).bind fun t427 => (some t427)) else (some false)) = some r := H
                                  have A53 := Aside0.mk A530
                                  clear A530
                                  by_cases c54 : t426 = true
                                  · subst c54
                                    have H1 : ((galloonlaw01_awake.f k3).bind fun t427 => (some t427)) = some r := by rw [if_pos rfl] at H; exact H
                                    clear H
                                    have H := H1
                                    clear H1
                                    replace H := Option.bind_eq_some_iff.mp H
                                    obtain ⟨t427, A550, H⟩ := H
                                    replace H : (some t427) = some r := H
                                    have A55 := Aside0.mk A550
                                    clear A550
                                    obtain rfl := Option.some.inj H
                                    obtain ⟨Ao56, co56, eo56⟩ := Kd.R_slice HO_8.out
                                    subst eo56
                                    go_wp2_with (first | (go_at_call 32; (with_reducible refine (galloonref01_Palindrome.calls k3 (t401.extract (t418 : Int).toNat ((wrap64 (t418 + t419)) : Int).toNat) true _ A53.out).mono ?_); rintro e w' ⟨rfl, ⟨nd, rfl⟩⟩) | (go_at_call 20; (with_reducible refine (galloonlaw01_awake.calls k3  t427 _ A55.out (Glob.at hg (by repeat (first | (with_reducible first | exact HB.out | apply below_alloc | apply pw_below_drewN | apply below_drew1) | exact HB.out)))).mono ?_); rintro e w57 ⟨rfl, hb⟩; have n0_ := Aside0.mk (Kd.R_below (by (with_reducible repeat (first | apply Kd.R_alloc | apply Kd.R_drewN | apply Kd.R_drew)); exact HO_8.out) hb); have n1_ := Aside0.mk (below_step (by repeat (first | (with_reducible first | exact HB.out | apply below_alloc | apply pw_below_drewN | apply below_drew1) | exact HB.out)) hb); clear HO_8; clear HB; have HO_8 := n0_; have HB := n1_; clear n0_ n1_; (try clear hb); (try clear hb2); (try clear hk); (try clear hi)))
                                    go_ret
                                    exact ⟨by first | rfl | (simp [errW_none, errW_some] <;> rfl) | (simp [*, errW_none, errW_some] <;> rfl), by repeat (first | (with_reducible first | exact HB.out | apply below_alloc | apply pw_below_drewN | apply below_drew1) | exact HB.out)⟩
                                  · replace c54 := Bool.eq_false_iff.mpr c54
                                    subst c54
                                    have H1 : (some false) = some r := by rw [if_neg (show ¬ (false = true) by decide)] at H; exact H
                                    clear H
                                    have H := H1
                                    clear H1
                                    obtain rfl := Option.some.inj H
                                    exact absurd hr.out (by decide)
                                · rw [if_neg c51] at H
                                  exact absurd H (by simp)
                              · rw [if_neg c50] at H
                                exact absurd H (by simp)
                            · rw [if_neg c49] at H
                              have c49b0 : decide ((wrap64 (t418 + t419)) ≤ (t401.size : Int)) = false := decide_eq_false c49
                              clear c49
                              obtain rfl := Option.some.inj H
                              exact absurd hr.out (by decide)
                          · rw [if_neg c48] at H
                            have c48b0 : decide (0 ≤ t418) = false := decide_eq_false c48
                            clear c48
                            obtain rfl := Option.some.inj H
                            exact absurd hr.out (by decide)
                        · rw [if_neg c47] at H
                          have c47b0 : (x20_3 == t419) = false := beq_eq_false_iff_ne.mpr c47
                          have c47b1 : (x20_3 != t419) = true := bne_iff_ne.mpr c47
                          obtain rfl := Option.some.inj H
                          exact absurd hr.out (by decide)
                      · rw [if_neg c46] at H
                        have c46b0 : (x18_2 == t419) = false := beq_eq_false_iff_ne.mpr c46
                        have c46b1 : (x18_2 != t419) = true := bne_iff_ne.mpr c46
                        obtain rfl := Option.some.inj H
                        exact absurd hr.out (by decide)
                    · rw [if_neg c45] at H
                      have c45b0 : (x17_2 == t416) = false := beq_eq_false_iff_ne.mpr c45
                      have c45b1 : (x17_2 != t416) = true := bne_iff_ne.mpr c45
                      obtain rfl := Option.some.inj H
                      exact absurd hr.out (by decide)

/-- THE ONE PURE STATEMENT of galloonlaw01_TrimRich: yours. -/
def galloonlaw01_TrimRich.Pure : Prop := ∀ (a0 : ByteArray), a0.size ≤ 140737488351232 → ∃ k, galloonlaw01_TrimRich.f k a0 = some true
theorem galloonlaw01_TrimRich.walk (P : galloonlaw01_TrimRich.Pure) (a0 : ByteArray) (w : World) (w0 : a0.size ≤ 140737488351232) (hg : Glob w) :
    Calls Try.prog 9 #[.string a0] w fun e w' => e = .returned (.bool true) ∧ Below w.heap.size w w' := by
  obtain ⟨k, h⟩ := P a0 w0
  refine (galloonlaw01_TrimRich.calls k a0 true w h ⟨rfl⟩ hg).mono ?_
  rintro e w' ⟨rfl, hd⟩
  exact ⟨rfl, hd⟩

end Go.Proofs.Ytbdlhgdfnnbjiaa.PY
