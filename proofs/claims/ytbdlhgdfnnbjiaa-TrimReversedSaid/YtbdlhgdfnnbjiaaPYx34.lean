-- Made by the session's own driver (wip/tools/p2.py) out of the translation; Lean checks it.
import Derived.Test.YtbdlhgdfnnbjiaaPYx0
import Derived.Test.YtbdlhgdfnnbjiaaPYx8
import Derived.Test.YtbdlhgdfnnbjiaaPYx10
import Derived.Test.YtbdlhgdfnnbjiaaPYx13
import Derived.Test.YtbdlhgdfnnbjiaaPYx16
import Derived.Test.YtbdlhgdfnnbjiaaPYx32
import Derived.Test.YtbdlhgdfnnbjiaaPYx33
import Derived.Test.YtbdlhgdfnnbjiaaGInner
import Derived.Test.YtbdlhgdfnnbjiaaGPalindromes
namespace Go.Proofs.Ytbdlhgdfnnbjiaa.PY
open Go.RowKit Go.Proofs.YtbdlhgdfnnbjiaaW.PrintWords Go.Proofs.YtbdlhgdfnnbjiaaW.PrintLast Go.Proofs.YtbdlhgdfnnbjiaaW.PrintMore
attribute [local go_sem] max2_int min2_int max_two min_two max_three min_three max_four min_four   -- for this text's walks alone
set_option linter.unusedVariables false
set_option linter.unusedSimpArgs false

/-! ### galloonlaw01_TrimReversed: function 10 -/
mutual
def galloonlaw01_TrimReversed.j0 : Nat → List Int → List Int → Bool → Option (Bool)
  | 0, _, _, _ => none
  | k + 1, x9, x11, x144 => if x144 = true then (some false) else (galloonlaw01_TrimReversed.l0 k x9 x11 0)
def galloonlaw01_TrimReversed.l0 : Nat → List Int → List Int → Int → Option (Bool)
  | 0, _, _, _ => none
  | k + 1, x9, x11, x25 => if x25 < (x9.length : Int) then (if 0 ≤ x25 then (if 0 ≤ (wrap64 ((wrap64 ((x11.length : Int) - 1)) - x25)) then (if (wrap64 ((wrap64 ((x11.length : Int) - 1)) - x25)) < (x11.length : Int) then (if (rd x9 x25) = (rd x11 (wrap64 ((wrap64 ((x11.length : Int) - 1)) - x25))) then (galloonlaw01_TrimReversed.l0 k x9 x11 (wrap64 (x25 + 1))) else (some false)) else (none)) else (none)) else (none)) else ((galloonlaw01_awake.f k).bind fun t500 => (some t500))
end
def galloonlaw01_TrimReversed.f (k : Nat) (a0 : ByteArray) : Option (Bool) := (galloonlaw01_tame.f k a0 60).bind fun t463 => ((galloonref01_Reversed.f k t463).bind fun t464 => ((trim_Palindromes.f t463).bind fun bt465 => ((trim_Palindromes.f t464).bind fun bt469 => ((trim_Centers.f k t463).bind fun bt473 => ((trim_Centers.f k t464).bind fun bt477 => ((trim_Fewest.f k t463).bind fun bt481 => ((trim_Fewest.f k t464).bind fun bt485 => ((trim_Ways.f k t463).bind fun bt489 => ((trim_Ways.f k t464).bind fun bt491 => ((trim_Inner.f k t463).bind fun bt493 => ((trim_Inner.f k t464).bind fun bt495 => (if bt465.2 = 0 then (if bt469.2 = 0 then (if bt473.2 = 0 then (if bt477.2 = 0 then (if bt481.2 = 0 then (if bt485.2 = 0 then (if bt489.2 = bt491.2 then (if bt493.2 = 0 then (if bt495.2 = 0 then ((galloonlaw01_texts.f k bt465.1 bt469.1).bind fun t497 => (if t497 = true then (if (bt473.1.length : Int) = (bt477.1.length : Int) then (if (bt481.1.length : Int) = (bt485.1.length : Int) then (if bt489.1 = bt491.1 then (galloonlaw01_TrimReversed.j0 k bt473.1 bt477.1 (bt493.1.toList != bt495.1.toList)) else (galloonlaw01_TrimReversed.j0 k bt473.1 bt477.1 true)) else (galloonlaw01_TrimReversed.j0 k bt473.1 bt477.1 true)) else (galloonlaw01_TrimReversed.j0 k bt473.1 bt477.1 true)) else (galloonlaw01_TrimReversed.j0 k bt473.1 bt477.1 true))) else (galloonlaw01_TrimReversed.j0 k bt473.1 bt477.1 true)) else (galloonlaw01_TrimReversed.j0 k bt473.1 bt477.1 true)) else (galloonlaw01_TrimReversed.j0 k bt473.1 bt477.1 true)) else (galloonlaw01_TrimReversed.j0 k bt473.1 bt477.1 true)) else (galloonlaw01_TrimReversed.j0 k bt473.1 bt477.1 true)) else (galloonlaw01_TrimReversed.j0 k bt473.1 bt477.1 true)) else (galloonlaw01_TrimReversed.j0 k bt473.1 bt477.1 true)) else (galloonlaw01_TrimReversed.j0 k bt473.1 bt477.1 true)) else (galloonlaw01_TrimReversed.j0 k bt473.1 bt477.1 true)))))))))))))
theorem galloonlaw01_TrimReversed.mono_l : ∀ k, (∀ y0 y1 y2, LeO (galloonlaw01_TrimReversed.j0 k y0 y1 y2) (galloonlaw01_TrimReversed.j0 (k + 1) y0 y1 y2)) ∧ (∀ y0 y1 y2, LeO (galloonlaw01_TrimReversed.l0 k y0 y1 y2) (galloonlaw01_TrimReversed.l0 (k + 1) y0 y1 y2))
  | 0 => ⟨fun _ _ _ r h => by simp [galloonlaw01_TrimReversed.j0] at h, fun _ _ _ r h => by simp [galloonlaw01_TrimReversed.l0] at h⟩
  | k + 1 => by
    obtain ⟨ih0, ih1⟩ := galloonlaw01_TrimReversed.mono_l k
    refine ⟨?_, ?_⟩
    · intro y0 y1 y2
      unfold galloonlaw01_TrimReversed.j0
      repeat' first
      | (with_reducible exact ih0 _ _ _)
      | (with_reducible exact ih1 _ _ _)
      | (with_reducible exact galloonlaw01_awake.mono _)
      | (with_reducible exact galloonlaw01_tame.mono _ _ _)
      | (with_reducible exact galloonlaw01_texts.mono _ _ _)
      | (with_reducible exact galloonref01_Reversed.mono _ _)
      | (with_reducible exact trim_Centers.mono _ _)
      | (with_reducible exact trim_Fewest.mono _ _)
      | (with_reducible exact trim_Inner.mono _ _)
      | (with_reducible exact trim_Ways.mono _ _)
      | (with_reducible exact LeO.refl _)
      | (with_reducible exact LeO.none _)
      | (with_reducible refine LeO.ite ?_ ?_)
      | (with_reducible refine LeO.bind ?_ (fun _ => ?_))
      | exact ih0 _ _ _
      | exact ih1 _ _ _
      | exact galloonlaw01_awake.mono _
      | exact galloonlaw01_tame.mono _ _ _
      | exact galloonlaw01_texts.mono _ _ _
      | exact galloonref01_Reversed.mono _ _
      | exact trim_Centers.mono _ _
      | exact trim_Fewest.mono _ _
      | exact trim_Inner.mono _ _
      | exact trim_Ways.mono _ _
      | exact LeO.none _
      | refine LeO.ite ?_ ?_
      | refine LeO.bind ?_ (fun _ => ?_)
    · intro y0 y1 y2
      unfold galloonlaw01_TrimReversed.l0
      repeat' first
      | (with_reducible exact ih0 _ _ _)
      | (with_reducible exact ih1 _ _ _)
      | (with_reducible exact galloonlaw01_awake.mono _)
      | (with_reducible exact galloonlaw01_tame.mono _ _ _)
      | (with_reducible exact galloonlaw01_texts.mono _ _ _)
      | (with_reducible exact galloonref01_Reversed.mono _ _)
      | (with_reducible exact trim_Centers.mono _ _)
      | (with_reducible exact trim_Fewest.mono _ _)
      | (with_reducible exact trim_Inner.mono _ _)
      | (with_reducible exact trim_Ways.mono _ _)
      | (with_reducible exact LeO.refl _)
      | (with_reducible exact LeO.none _)
      | (with_reducible refine LeO.ite ?_ ?_)
      | (with_reducible refine LeO.bind ?_ (fun _ => ?_))
      | exact ih0 _ _ _
      | exact ih1 _ _ _
      | exact galloonlaw01_awake.mono _
      | exact galloonlaw01_tame.mono _ _ _
      | exact galloonlaw01_texts.mono _ _ _
      | exact galloonref01_Reversed.mono _ _
      | exact trim_Centers.mono _ _
      | exact trim_Fewest.mono _ _
      | exact trim_Inner.mono _ _
      | exact trim_Ways.mono _ _
      | exact LeO.none _
      | refine LeO.ite ?_ ?_
      | refine LeO.bind ?_ (fun _ => ?_)
theorem galloonlaw01_TrimReversed.mono : ∀ a0 k, LeO (galloonlaw01_TrimReversed.f k a0) (galloonlaw01_TrimReversed.f (k + 1) a0) := by
  intro a0 k
  obtain ⟨ih0, ih1⟩ := galloonlaw01_TrimReversed.mono_l k
  unfold galloonlaw01_TrimReversed.f
  repeat' first
      | (with_reducible exact ih0 _ _ _)
      | (with_reducible exact ih1 _ _ _)
      | (with_reducible exact galloonlaw01_awake.mono _)
      | (with_reducible exact galloonlaw01_tame.mono _ _ _)
      | (with_reducible exact galloonlaw01_texts.mono _ _ _)
      | (with_reducible exact galloonref01_Reversed.mono _ _)
      | (with_reducible exact trim_Centers.mono _ _)
      | (with_reducible exact trim_Fewest.mono _ _)
      | (with_reducible exact trim_Inner.mono _ _)
      | (with_reducible exact trim_Ways.mono _ _)
      | (with_reducible exact LeO.refl _)
      | (with_reducible exact LeO.none _)
      | (with_reducible refine LeO.ite ?_ ?_)
      | (with_reducible refine LeO.bind ?_ (fun _ => ?_))
      | exact ih0 _ _ _
      | exact ih1 _ _ _
      | exact galloonlaw01_awake.mono _
      | exact galloonlaw01_tame.mono _ _ _
      | exact galloonlaw01_texts.mono _ _ _
      | exact galloonref01_Reversed.mono _ _
      | exact trim_Centers.mono _ _
      | exact trim_Fewest.mono _ _
      | exact trim_Inner.mono _ _
      | exact trim_Ways.mono _ _
      | exact LeO.none _
      | refine LeO.ite ?_ ?_
      | refine LeO.bind ?_ (fun _ => ?_)
set_option maxHeartbeats 8000000 in
set_option maxRecDepth 100000 in
theorem galloonlaw01_TrimReversed.calls (k : Nat) (a0 : ByteArray) (r : Bool) (w : World) (h : galloonlaw01_TrimReversed.f k a0 = some r) (hr : Aside0 (r = true)) (hg : Glob w) :
    Calls Try.prog 10 #[.string a0] w fun e w' => e = .returned (.bool r) ∧ Below w.heap.size w w' := by
  have HB := Aside0.mk (Below.refl w.heap.size w)
  have H : ((galloonlaw01_tame.f k a0 60).bind fun t463 => ((galloonref01_Reversed.f k t463).bind fun t464 => ((trim_Palindromes.f t463).bind fun bt465 => ((trim_Palindromes.f t464).bind fun bt469 => ((trim_Centers.f k t463).bind fun bt473 => ((trim_Centers.f k t464).bind fun bt477 => ((trim_Fewest.f k t463).bind fun bt481 => ((trim_Fewest.f k t464).bind fun bt485 => ((trim_Ways.f k t463).bind fun bt489 => ((trim_Ways.f k t464).bind fun bt491 => ((trim_Inner.f k t463).bind fun bt493 => ((trim_Inner.f k t464).bind fun bt495 => (if bt465.2 = 0 then (if bt469.2 = 0 then (if bt473.2 = 0 then (if bt477.2 = 0 then (if bt481.2 = 0 then (if bt485.2 = 0 then (if bt489.2 = bt491.2 then (if bt493.2 = 0 then (if bt495.2 = 0 then ((galloonlaw01_texts.f k bt465.1 bt469.1).bind fun t497 => (if t497 = true then (if (bt473.1.length : Int) = (bt477.1.length : Int) then (if (bt481.1.length : Int) = (bt485.1.length : Int) then (if bt489.1 = bt491.1 then (galloonlaw01_TrimReversed.j0 k bt473.1 bt477.1 (bt493.1.toList != bt495.1.toList)) else (galloonlaw01_TrimReversed.j0 k bt473.1 bt477.1 true)) else (galloonlaw01_TrimReversed.j0 k bt473.1 bt477.1 true)) else (galloonlaw01_TrimReversed.j0 k bt473.1 bt477.1 true)) else (galloonlaw01_TrimReversed.j0 k bt473.1 bt477.1 true))) else (galloonlaw01_TrimReversed.j0 k bt473.1 bt477.1 true)) else (galloonlaw01_TrimReversed.j0 k bt473.1 bt477.1 true)) else (galloonlaw01_TrimReversed.j0 k bt473.1 bt477.1 true)) else (galloonlaw01_TrimReversed.j0 k bt473.1 bt477.1 true)) else (galloonlaw01_TrimReversed.j0 k bt473.1 bt477.1 true)) else (galloonlaw01_TrimReversed.j0 k bt473.1 bt477.1 true)) else (galloonlaw01_TrimReversed.j0 k bt473.1 bt477.1 true)) else (galloonlaw01_TrimReversed.j0 k bt473.1 bt477.1 true)) else (galloonlaw01_TrimReversed.j0 k bt473.1 bt477.1 true)))))))))))))) = some r := h
  clear h
  replace H := Option.bind_eq_some_iff.mp H
  obtain ⟨t463, A20, H⟩ := H
  replace H : ((galloonref01_Reversed.f k t463).bind fun t464 => ((trim_Palindromes.f t463).bind fun bt465 => ((trim_Palindromes.f t464).bind fun bt469 => ((trim_Centers.f k t463).bind fun bt473 => ((trim_Centers.f k t464).bind fun bt477 => ((trim_Fewest.f k t463).bind fun bt481 => ((trim_Fewest.f k t464).bind fun bt485 => ((trim_Ways.f k t463).bind fun bt489 => ((trim_Ways.f k t464).bind fun bt491 => ((trim_Inner.f k t463).bind fun bt493 => ((trim_Inner.f k t464).bind fun bt495 => (if bt465.2 = 0 then (if bt469.2 = 0 then (if bt473.2 = 0 then (if bt477.2 = 0 then (if bt481.2 = 0 then (if bt485.2 = 0 then (if bt489.2 = bt491.2 then (if bt493.2 = 0 then (if bt495.2 = 0 then ((galloonlaw01_texts.f k bt465.1 bt469.1).bind fun t497 => (if t497 = true then (if (bt473.1.length : Int) = (bt477.1.length : Int) then (if (bt481.1.length : Int) = (bt485.1.length : Int) then (if bt489.1 = bt491.1 then (galloonlaw01_TrimReversed.j0 k bt473.1 bt477.1 (bt493.1.toList != bt495.1.toList)) else (galloonlaw01_TrimReversed.j0 k bt473.1 bt477.1 true)) else (galloonlaw01_TrimReversed.j0 k bt473.1 bt477.1 true)) else (galloonlaw01_TrimReversed.j0 k bt473.1 bt477.1 true)) else (galloonlaw01_TrimReversed.j0 k bt473.1 bt477.1 true))) else (galloonlaw01_TrimReversed.j0 k bt473.1 bt477.1 true)) else (galloonlaw01_TrimReversed.j0 k bt473.1 bt477.1 true)) else (galloonlaw01_TrimReversed.j0 k bt473.1 bt477.1 true)) else (galloonlaw01_TrimReversed.j0 k bt473.1 bt477.1 true)) else (galloonlaw01_TrimReversed.j0 k bt473.1 bt477.1 true)) else (galloonlaw01_TrimReversed.j0 k bt473.1 bt477.1 true)) else (galloonlaw01_TrimReversed.j0 k bt473.1 bt477.1 true)) else (galloonlaw01_TrimReversed.j0 k bt473.1 bt477.1 true)) else (galloonlaw01_TrimReversed.j0 k bt473.1 bt477.1 true))))))))))))) = some r := H
  have A2 := Aside0.mk A20
  clear A20
  replace H := Option.bind_eq_some_iff.mp H
  obtain ⟨t464, A30, H⟩ := H
  replace H : ((trim_Palindromes.f t463).bind fun bt465 => ((trim_Palindromes.f t464).bind fun bt469 => ((trim_Centers.f k t463).bind fun bt473 => ((trim_Centers.f k t464).bind fun bt477 => ((trim_Fewest.f k t463).bind fun bt481 => ((trim_Fewest.f k t464).bind fun bt485 => ((trim_Ways.f k t463).bind fun bt489 => ((trim_Ways.f k t464).bind fun bt491 => ((trim_Inner.f k t463).bind fun bt493 => ((trim_Inner.f k t464).bind fun bt495 => (if bt465.2 = 0 then (if bt469.2 = 0 then (if bt473.2 = 0 then (if bt477.2 = 0 then (if bt481.2 = 0 then (if bt485.2 = 0 then (if bt489.2 = bt491.2 then (if bt493.2 = 0 then (if bt495.2 = 0 then ((galloonlaw01_texts.f k bt465.1 bt469.1).bind fun t497 => (if t497 = true then (if (bt473.1.length : Int) = (bt477.1.length : Int) then (if (bt481.1.length : Int) = (bt485.1.length : Int) then (if bt489.1 = bt491.1 then (galloonlaw01_TrimReversed.j0 k bt473.1 bt477.1 (bt493.1.toList != bt495.1.toList)) else (galloonlaw01_TrimReversed.j0 k bt473.1 bt477.1 true)) else (galloonlaw01_TrimReversed.j0 k bt473.1 bt477.1 true)) else (galloonlaw01_TrimReversed.j0 k bt473.1 bt477.1 true)) else (galloonlaw01_TrimReversed.j0 k bt473.1 bt477.1 true))) else (galloonlaw01_TrimReversed.j0 k bt473.1 bt477.1 true)) else (galloonlaw01_TrimReversed.j0 k bt473.1 bt477.1 true)) else (galloonlaw01_TrimReversed.j0 k bt473.1 bt477.1 true)) else (galloonlaw01_TrimReversed.j0 k bt473.1 bt477.1 true)) else (galloonlaw01_TrimReversed.j0 k bt473.1 bt477.1 true)) else (galloonlaw01_TrimReversed.j0 k bt473.1 bt477.1 true)) else (galloonlaw01_TrimReversed.j0 k bt473.1 bt477.1 true)) else (galloonlaw01_TrimReversed.j0 k bt473.1 bt477.1 true)) else (galloonlaw01_TrimReversed.j0 k bt473.1 bt477.1 true)))))))))))) = some r := H
  have A3 := Aside0.mk A30
  clear A30
  replace H := Option.bind_eq_some_iff.mp H
  obtain ⟨⟨t465, t466⟩, A40, H⟩ := H
  replace H : ((trim_Palindromes.f t464).bind fun bt469 => ((trim_Centers.f k t463).bind fun bt473 => ((trim_Centers.f k t464).bind fun bt477 => ((trim_Fewest.f k t463).bind fun bt481 => ((trim_Fewest.f k t464).bind fun bt485 => ((trim_Ways.f k t463).bind fun bt489 => ((trim_Ways.f k t464).bind fun bt491 => ((trim_Inner.f k t463).bind fun bt493 => ((trim_Inner.f k t464).bind fun bt495 => (if t466 = 0 then (if bt469.2 = 0 then (if bt473.2 = 0 then (if bt477.2 = 0 then (if bt481.2 = 0 then (if bt485.2 = 0 then (if bt489.2 = bt491.2 then (if bt493.2 = 0 then (if bt495.2 = 0 then ((galloonlaw01_texts.f k t465 bt469.1).bind fun t497 => (if t497 = true then (if (bt473.1.length : Int) = (bt477.1.length : Int) then (if (bt481.1.length : Int) = (bt485.1.length : Int) then (if bt489.1 = bt491.1 then (galloonlaw01_TrimReversed.j0 k bt473.1 bt477.1 (bt493.1.toList != bt495.1.toList)) else (galloonlaw01_TrimReversed.j0 k bt473.1 bt477.1 true)) else (galloonlaw01_TrimReversed.j0 k bt473.1 bt477.1 true)) else (galloonlaw01_TrimReversed.j0 k bt473.1 bt477.1 true)) else (galloonlaw01_TrimReversed.j0 k bt473.1 bt477.1 true))) else (galloonlaw01_TrimReversed.j0 k bt473.1 bt477.1 true)) else (galloonlaw01_TrimReversed.j0 k bt473.1 bt477.1 true)) else (galloonlaw01_TrimReversed.j0 k bt473.1 bt477.1 true)) else (galloonlaw01_TrimReversed.j0 k bt473.1 bt477.1 true)) else (galloonlaw01_TrimReversed.j0 k bt473.1 bt477.1 true)) else (galloonlaw01_TrimReversed.j0 k bt473.1 bt477.1 true)) else (galloonlaw01_TrimReversed.j0 k bt473.1 bt477.1 true)) else (galloonlaw01_TrimReversed.j0 k bt473.1 bt477.1 true)) else (galloonlaw01_TrimReversed.j0 k bt473.1 bt477.1 true))))))))))) = some r := H
  have A4 := Aside0.mk A40
  clear A40
  replace H := Option.bind_eq_some_iff.mp H
  obtain ⟨⟨t469, t470⟩, A50, H⟩ := H
  replace H : ((trim_Centers.f k t463).bind fun bt473 => ((trim_Centers.f k t464).bind fun bt477 => ((trim_Fewest.f k t463).bind fun bt481 => ((trim_Fewest.f k t464).bind fun bt485 => ((trim_Ways.f k t463).bind fun bt489 => ((trim_Ways.f k t464).bind fun bt491 => ((trim_Inner.f k t463).bind fun bt493 => ((trim_Inner.f k t464).bind fun bt495 => (if t466 = 0 then (if t470 = 0 then (if bt473.2 = 0 then (if bt477.2 = 0 then (if bt481.2 = 0 then (if bt485.2 = 0 then (if bt489.2 = bt491.2 then (if bt493.2 = 0 then (if bt495.2 = 0 then ((galloonlaw01_texts.f k t465 t469).bind fun t497 => (if t497 = true then (if (bt473.1.length : Int) = (bt477.1.length : Int) then (if (bt481.1.length : Int) = (bt485.1.length : Int) then (if bt489.1 = bt491.1 then (galloonlaw01_TrimReversed.j0 k bt473.1 bt477.1 (bt493.1.toList != bt495.1.toList)) else (galloonlaw01_TrimReversed.j0 k bt473.1 bt477.1 true)) else (galloonlaw01_TrimReversed.j0 k bt473.1 bt477.1 true)) else (galloonlaw01_TrimReversed.j0 k bt473.1 bt477.1 true)) else (galloonlaw01_TrimReversed.j0 k bt473.1 bt477.1 true))) else (galloonlaw01_TrimReversed.j0 k bt473.1 bt477.1 true)) else (galloonlaw01_TrimReversed.j0 k bt473.1 bt477.1 true)) else (galloonlaw01_TrimReversed.j0 k bt473.1 bt477.1 true)) else (galloonlaw01_TrimReversed.j0 k bt473.1 bt477.1 true)) else (galloonlaw01_TrimReversed.j0 k bt473.1 bt477.1 true)) else (galloonlaw01_TrimReversed.j0 k bt473.1 bt477.1 true)) else (galloonlaw01_TrimReversed.j0 k bt473.1 bt477.1 true)) else (galloonlaw01_TrimReversed.j0 k bt473.1 bt477.1 true)) else (galloonlaw01_TrimReversed.j0 k bt473.1 bt477.1 true)))))))))) = some r := H
  have A5 := Aside0.mk A50
  clear A50
  replace H := Option.bind_eq_some_iff.mp H
  obtain ⟨⟨t473, t474⟩, A60, H⟩ := H
  replace H : ((trim_Centers.f k t464).bind fun bt477 => ((trim_Fewest.f k t463).bind fun bt481 => ((trim_Fewest.f k t464).bind fun bt485 => ((trim_Ways.f k t463).bind fun bt489 => ((trim_Ways.f k t464).bind fun bt491 => ((trim_Inner.f k t463).bind fun bt493 => ((trim_Inner.f k t464).bind fun bt495 => (if t466 = 0 then (if t470 = 0 then (if t474 = 0 then (if bt477.2 = 0 then (if bt481.2 = 0 then (if bt485.2 = 0 then (if bt489.2 = bt491.2 then (if bt493.2 = 0 then (if bt495.2 = 0 then ((galloonlaw01_texts.f k t465 t469).bind fun t497 => (if t497 = true then (if (t473.length : Int) = (bt477.1.length : Int) then (if (bt481.1.length : Int) = (bt485.1.length : Int) then (if bt489.1 = bt491.1 then (galloonlaw01_TrimReversed.j0 k t473 bt477.1 (bt493.1.toList != bt495.1.toList)) else (galloonlaw01_TrimReversed.j0 k t473 bt477.1 true)) else (galloonlaw01_TrimReversed.j0 k t473 bt477.1 true)) else (galloonlaw01_TrimReversed.j0 k t473 bt477.1 true)) else (galloonlaw01_TrimReversed.j0 k t473 bt477.1 true))) else (galloonlaw01_TrimReversed.j0 k t473 bt477.1 true)) else (galloonlaw01_TrimReversed.j0 k t473 bt477.1 true)) else (galloonlaw01_TrimReversed.j0 k t473 bt477.1 true)) else (galloonlaw01_TrimReversed.j0 k t473 bt477.1 true)) else (galloonlaw01_TrimReversed.j0 k t473 bt477.1 true)) else (galloonlaw01_TrimReversed.j0 k t473 bt477.1 true)) else (galloonlaw01_TrimReversed.j0 k t473 bt477.1 true)) else (galloonlaw01_TrimReversed.j0 k t473 bt477.1 true)) else (galloonlaw01_TrimReversed.j0 k t473 bt477.1 true))))))))) = some r := H
  have A6 := Aside0.mk A60
  clear A60
  replace H := Option.bind_eq_some_iff.mp H
  obtain ⟨⟨t477, t478⟩, A70, H⟩ := H
  replace H : ((trim_Fewest.f k t463).bind fun bt481 => ((trim_Fewest.f k t464).bind fun bt485 => ((trim_Ways.f k t463).bind fun bt489 => ((trim_Ways.f k t464).bind fun bt491 => ((trim_Inner.f k t463).bind fun bt493 => ((trim_Inner.f k t464).bind fun bt495 => (if t466 = 0 then (if t470 = 0 then (if t474 = 0 then (if t478 = 0 then (if bt481.2 = 0 then (if bt485.2 = 0 then (if bt489.2 = bt491.2 then (if bt493.2 = 0 then (if bt495.2 = 0 then ((galloonlaw01_texts.f k t465 t469).bind fun t497 => (if t497 = true then (if (t473.length : Int) = (t477.length : Int) then (if (bt481.1.length : Int) = (bt485.1.length : Int) then (if bt489.1 = bt491.1 then (galloonlaw01_TrimReversed.j0 k t473 t477 (bt493.1.toList != bt495.1.toList)) else (galloonlaw01_TrimReversed.j0 k t473 t477 true)) else (galloonlaw01_TrimReversed.j0 k t473 t477 true)) else (galloonlaw01_TrimReversed.j0 k t473 t477 true)) else (galloonlaw01_TrimReversed.j0 k t473 t477 true))) else (galloonlaw01_TrimReversed.j0 k t473 t477 true)) else (galloonlaw01_TrimReversed.j0 k t473 t477 true)) else (galloonlaw01_TrimReversed.j0 k t473 t477 true)) else (galloonlaw01_TrimReversed.j0 k t473 t477 true)) else (galloonlaw01_TrimReversed.j0 k t473 t477 true)) else (galloonlaw01_TrimReversed.j0 k t473 t477 true)) else (galloonlaw01_TrimReversed.j0 k t473 t477 true)) else (galloonlaw01_TrimReversed.j0 k t473 t477 true)) else (galloonlaw01_TrimReversed.j0 k t473 t477 true)))))))) = some r := H
  have A7 := Aside0.mk A70
  clear A70
  replace H := Option.bind_eq_some_iff.mp H
  obtain ⟨⟨t481, t482⟩, A80, H⟩ := H
  replace H : ((trim_Fewest.f k t464).bind fun bt485 => ((trim_Ways.f k t463).bind fun bt489 => ((trim_Ways.f k t464).bind fun bt491 => ((trim_Inner.f k t463).bind fun bt493 => ((trim_Inner.f k t464).bind fun bt495 => (if t466 = 0 then (if t470 = 0 then (if t474 = 0 then (if t478 = 0 then (if t482 = 0 then (if bt485.2 = 0 then (if bt489.2 = bt491.2 then (if bt493.2 = 0 then (if bt495.2 = 0 then ((galloonlaw01_texts.f k t465 t469).bind fun t497 => (if t497 = true then (if (t473.length : Int) = (t477.length : Int) then (if (t481.length : Int) = (bt485.1.length : Int) then (if bt489.1 = bt491.1 then (galloonlaw01_TrimReversed.j0 k t473 t477 (bt493.1.toList != bt495.1.toList)) else (galloonlaw01_TrimReversed.j0 k t473 t477 true)) else (galloonlaw01_TrimReversed.j0 k t473 t477 true)) else (galloonlaw01_TrimReversed.j0 k t473 t477 true)) else (galloonlaw01_TrimReversed.j0 k t473 t477 true))) else (galloonlaw01_TrimReversed.j0 k t473 t477 true)) else (galloonlaw01_TrimReversed.j0 k t473 t477 true)) else (galloonlaw01_TrimReversed.j0 k t473 t477 true)) else (galloonlaw01_TrimReversed.j0 k t473 t477 true)) else (galloonlaw01_TrimReversed.j0 k t473 t477 true)) else (galloonlaw01_TrimReversed.j0 k t473 t477 true)) else (galloonlaw01_TrimReversed.j0 k t473 t477 true)) else (galloonlaw01_TrimReversed.j0 k t473 t477 true)) else (galloonlaw01_TrimReversed.j0 k t473 t477 true))))))) = some r := H
  have A8 := Aside0.mk A80
  clear A80
  replace H := Option.bind_eq_some_iff.mp H
  obtain ⟨⟨t485, t486⟩, A90, H⟩ := H
  replace H : ((trim_Ways.f k t463).bind fun bt489 => ((trim_Ways.f k t464).bind fun bt491 => ((trim_Inner.f k t463).bind fun bt493 => ((trim_Inner.f k t464).bind fun bt495 => (if t466 = 0 then (if t470 = 0 then (if t474 = 0 then (if t478 = 0 then (if t482 = 0 then (if t486 = 0 then (if bt489.2 = bt491.2 then (if bt493.2 = 0 then (if bt495.2 = 0 then ((galloonlaw01_texts.f k t465 t469).bind fun t497 => (if t497 = true then (if (t473.length : Int) = (t477.length : Int) then (if (t481.length : Int) = (t485.length : Int) then (if bt489.1 = bt491.1 then (galloonlaw01_TrimReversed.j0 k t473 t477 (bt493.1.toList != bt495.1.toList)) else (galloonlaw01_TrimReversed.j0 k t473 t477 true)) else (galloonlaw01_TrimReversed.j0 k t473 t477 true)) else (galloonlaw01_TrimReversed.j0 k t473 t477 true)) else (galloonlaw01_TrimReversed.j0 k t473 t477 true))) else (galloonlaw01_TrimReversed.j0 k t473 t477 true)) else (galloonlaw01_TrimReversed.j0 k t473 t477 true)) else (galloonlaw01_TrimReversed.j0 k t473 t477 true)) else (galloonlaw01_TrimReversed.j0 k t473 t477 true)) else (galloonlaw01_TrimReversed.j0 k t473 t477 true)) else (galloonlaw01_TrimReversed.j0 k t473 t477 true)) else (galloonlaw01_TrimReversed.j0 k t473 t477 true)) else (galloonlaw01_TrimReversed.j0 k t473 t477 true)) else (galloonlaw01_TrimReversed.j0 k t473 t477 true)))))) = some r := H
  have A9 := Aside0.mk A90
  clear A90
  replace H := Option.bind_eq_some_iff.mp H
  obtain ⟨⟨t489, t490⟩, A100, H⟩ := H
  replace H : ((trim_Ways.f k t464).bind fun bt491 => ((trim_Inner.f k t463).bind fun bt493 => ((trim_Inner.f k t464).bind fun bt495 => (if t466 = 0 then (if t470 = 0 then (if t474 = 0 then (if t478 = 0 then (if t482 = 0 then (if t486 = 0 then (if t490 = bt491.2 then (if bt493.2 = 0 then (if bt495.2 = 0 then ((galloonlaw01_texts.f k t465 t469).bind fun t497 => (if t497 = true then (if (t473.length : Int) = (t477.length : Int) then (if (t481.length : Int) = (t485.length : Int) then (if t489 = bt491.1 then (galloonlaw01_TrimReversed.j0 k t473 t477 (bt493.1.toList != bt495.1.toList)) else (galloonlaw01_TrimReversed.j0 k t473 t477 true)) else (galloonlaw01_TrimReversed.j0 k t473 t477 true)) else (galloonlaw01_TrimReversed.j0 k t473 t477 true)) else (galloonlaw01_TrimReversed.j0 k t473 t477 true))) else (galloonlaw01_TrimReversed.j0 k t473 t477 true)) else (galloonlaw01_TrimReversed.j0 k t473 t477 true)) else (galloonlaw01_TrimReversed.j0 k t473 t477 true)) else (galloonlaw01_TrimReversed.j0 k t473 t477 true)) else (galloonlaw01_TrimReversed.j0 k t473 t477 true)) else (galloonlaw01_TrimReversed.j0 k t473 t477 true)) else (galloonlaw01_TrimReversed.j0 k t473 t477 true)) else (galloonlaw01_TrimReversed.j0 k t473 t477 true)) else (galloonlaw01_TrimReversed.j0 k t473 t477 true))))) = some r := H
  have A10 := Aside0.mk A100
  clear A100
  replace H := Option.bind_eq_some_iff.mp H
  obtain ⟨⟨t491, t492⟩, A110, H⟩ := H
  replace H : ((trim_Inner.f k t463).bind fun bt493 => ((trim_Inner.f k t464).bind fun bt495 => (if t466 = 0 then (if t470 = 0 then (if t474 = 0 then (if t478 = 0 then (if t482 = 0 then (if t486 = 0 then (if t490 = t492 then (if bt493.2 = 0 then (if bt495.2 = 0 then ((galloonlaw01_texts.f k t465 t469).bind fun t497 => (if t497 = true then (if (t473.length : Int) = (t477.length : Int) then (if (t481.length : Int) = (t485.length : Int) then (if t489 = t491 then (galloonlaw01_TrimReversed.j0 k t473 t477 (bt493.1.toList != bt495.1.toList)) else (galloonlaw01_TrimReversed.j0 k t473 t477 true)) else (galloonlaw01_TrimReversed.j0 k t473 t477 true)) else (galloonlaw01_TrimReversed.j0 k t473 t477 true)) else (galloonlaw01_TrimReversed.j0 k t473 t477 true))) else (galloonlaw01_TrimReversed.j0 k t473 t477 true)) else (galloonlaw01_TrimReversed.j0 k t473 t477 true)) else (galloonlaw01_TrimReversed.j0 k t473 t477 true)) else (galloonlaw01_TrimReversed.j0 k t473 t477 true)) else (galloonlaw01_TrimReversed.j0 k t473 t477 true)) else (galloonlaw01_TrimReversed.j0 k t473 t477 true)) else (galloonlaw01_TrimReversed.j0 k t473 t477 true)) else (galloonlaw01_TrimReversed.j0 k t473 t477 true)) else (galloonlaw01_TrimReversed.j0 k t473 t477 true)))) = some r := H
  have A11 := Aside0.mk A110
  clear A110
  replace H := Option.bind_eq_some_iff.mp H
  obtain ⟨⟨t493, t494⟩, A120, H⟩ := H
  replace H : ((trim_Inner.f k t464).bind fun bt495 => (if t466 = 0 then (if t470 = 0 then (if t474 = 0 then (if t478 = 0 then (if t482 = 0 then (if t486 = 0 then (if t490 = t492 then (if t494 = 0 then (if bt495.2 = 0 then ((galloonlaw01_texts.f k t465 t469).bind fun t497 => (if t497 = true then (if (t473.length : Int) = (t477.length : Int) then (if (t481.length : Int) = (t485.length : Int) then (if t489 = t491 then (galloonlaw01_TrimReversed.j0 k t473 t477 (t493.toList != bt495.1.toList)) else (galloonlaw01_TrimReversed.j0 k t473 t477 true)) else (galloonlaw01_TrimReversed.j0 k t473 t477 true)) else (galloonlaw01_TrimReversed.j0 k t473 t477 true)) else (galloonlaw01_TrimReversed.j0 k t473 t477 true))) else (galloonlaw01_TrimReversed.j0 k t473 t477 true)) else (galloonlaw01_TrimReversed.j0 k t473 t477 true)) else (galloonlaw01_TrimReversed.j0 k t473 t477 true)) else (galloonlaw01_TrimReversed.j0 k t473 t477 true)) else (galloonlaw01_TrimReversed.j0 k t473 t477 true)) else (galloonlaw01_TrimReversed.j0 k t473 t477 true)) else (galloonlaw01_TrimReversed.j0 k t473 t477 true)) else (galloonlaw01_TrimReversed.j0 k t473 t477 true)) else (galloonlaw01_TrimReversed.j0 k t473 t477 true))) = some r := H
  have A12 := Aside0.mk A120
  clear A120
  replace H := Option.bind_eq_some_iff.mp H
  obtain ⟨⟨t495, t496⟩, A130, H⟩ := H
  replace H : (if t466 = 0 then (if t470 = 0 then (if t474 = 0 then (if t478 = 0 then (if t482 = 0 then (if t486 = 0 then (if t490 = t492 then (if t494 = 0 then (if t496 = 0 then ((galloonlaw01_texts.f k t465 t469).bind fun t497 => (if t497 = true then (if (t473.length : Int) = (t477.length : Int) then (if (t481.length : Int) = (t485.length : Int) then (if t489 = t491 then (galloonlaw01_TrimReversed.j0 k t473 t477 (t493.toList != t495.toList)) else (galloonlaw01_TrimReversed.j0 k t473 t477 true)) else (galloonlaw01_TrimReversed.j0 k t473 t477 true)) else (galloonlaw01_TrimReversed.j0 k t473 t477 true)) else (galloonlaw01_TrimReversed.j0 k t473 t477 true))) else (galloonlaw01_TrimReversed.j0 k t473 t477 true)) else (galloonlaw01_TrimReversed.j0 k t473 t477 true)) else (galloonlaw01_TrimReversed.j0 k t473 t477 true)) else (galloonlaw01_TrimReversed.j0 k t473 t477 true)) else (galloonlaw01_TrimReversed.j0 k t473 t477 true)) else (galloonlaw01_TrimReversed.j0 k t473 t477 true)) else (galloonlaw01_TrimReversed.j0 k t473 t477 true)) else (galloonlaw01_TrimReversed.j0 k t473 t477 true)) else (galloonlaw01_TrimReversed.j0 k t473 t477 true)) = some r := H
  have A13 := Aside0.mk A130
  clear A130
  have HC14 := Aside0.mk H
  clear H
  go_enter Try.func10, Try.ntmps10
  go_upto_region 13 with (first | (go_at_call 30; (with_reducible refine (galloonlaw01_tame.calls k a0 60 t463 _ A2.out).mono ?_); rintro e w15 ⟨rfl, hb⟩; have n0_ := Aside0.mk (below_step (by repeat (first | (with_reducible first | exact HB.out | apply below_alloc | apply pw_below_drewN | apply below_drew1) | exact HB.out)) hb); clear HB; have HB := n0_; clear n0_; (try clear hb); (try clear hb2); (try clear hk); (try clear hi)) | (go_at_call 49; (with_reducible refine (galloonref01_Reversed.calls k t463 t464 _ A3.out).mono ?_); rintro e w16 ⟨rfl, hb⟩; have n0_ := Aside0.mk (below_step (by repeat (first | (with_reducible first | exact HB.out | apply below_alloc | apply pw_below_drewN | apply below_drew1) | exact HB.out)) hb); clear HB; have HB := n0_; clear n0_; (try clear hb); (try clear hb2); (try clear hk); (try clear hi)) | (go_at_call 33; (with_reducible refine (trim_Palindromes.calls t463 t465 t466 _ A4.out).mono ?_); rintro e w17 ⟨v467, rfl, ho0, hb⟩; have n0_ := Aside0.mk (Kd.R_lower ho0 (below_size (by repeat (first | (with_reducible first | exact HB.out | apply below_alloc | apply pw_below_drewN | apply below_drew1) | exact HB.out)))); have n1_ := Aside0.mk (below_step (by repeat (first | (with_reducible first | exact HB.out | apply below_alloc | apply pw_below_drewN | apply below_drew1) | exact HB.out)) hb); clear HB; have HO468 := n0_; have HB := n1_; clear n0_ n1_; (try clear hb); (try clear hb2); (try clear hk); (try clear hi); (try clear ho0)) | (go_at_call 33; (with_reducible refine (trim_Palindromes.calls t464 t469 t470 _ A5.out).mono ?_); rintro e w18 ⟨v471, rfl, ho0, hb⟩; have n0_ := Aside0.mk (Kd.R_elder' (by (with_reducible repeat (first | apply Kd.R_alloc | apply Kd.R_drewN | apply Kd.R_drew)); exact HO468.out) (Kd.R_base ho0) hb); have n1_ := Aside0.mk (Kd.R_lower (Kd.R_new' ho0 (Kd.R_lt (by (with_reducible repeat (first | apply Kd.R_alloc | apply Kd.R_drewN | apply Kd.R_drew)); exact HO468.out))) (below_size (by repeat (first | (with_reducible first | exact HB.out | apply below_alloc | apply pw_below_drewN | apply below_drew1) | exact HB.out)))); have n2_ := Aside0.mk (below_step (by repeat (first | (with_reducible first | exact HB.out | apply below_alloc | apply pw_below_drewN | apply below_drew1) | exact HB.out)) hb); clear HO468; clear HB; have HO468 := n0_; have HO472 := n1_; have HB := n2_; clear n0_ n1_ n2_; (try clear hb); (try clear hb2); (try clear hk); (try clear hi); (try clear ho0)) | (go_at_call 34; (with_reducible refine (trim_Centers.calls k t463 t473 t474 _ A6.out).mono ?_); rintro e w19 ⟨v475, rfl, ho0, hb⟩; have n0_ := Aside0.mk (Kd.R_below (by (with_reducible repeat (first | apply Kd.R_alloc | apply Kd.R_drewN | apply Kd.R_drew)); exact HO468.out) hb); have n1_ := Aside0.mk (Kd.R_below (by (with_reducible repeat (first | apply Kd.R_alloc | apply Kd.R_drewN | apply Kd.R_drew)); exact HO472.out) hb); have n2_ := Aside0.mk (Kd.R_lower ho0 (below_size (by repeat (first | (with_reducible first | exact HB.out | apply below_alloc | apply pw_below_drewN | apply below_drew1) | exact HB.out)))); have n3_ := Aside0.mk (below_step (by repeat (first | (with_reducible first | exact HB.out | apply below_alloc | apply pw_below_drewN | apply below_drew1) | exact HB.out)) hb); clear HO468; clear HO472; clear HB; have HO468 := n0_; have HO472 := n1_; have HO476 := n2_; have HB := n3_; clear n0_ n1_ n2_ n3_; (try clear hb); (try clear hb2); (try clear hk); (try clear hi); (try clear ho0)) | (go_at_call 34; (with_reducible refine (trim_Centers.calls k t464 t477 t478 _ A7.out).mono ?_); rintro e w20 ⟨v479, rfl, ho0, hb⟩; have n0_ := Aside0.mk (Kd.R_below (by (with_reducible repeat (first | apply Kd.R_alloc | apply Kd.R_drewN | apply Kd.R_drew)); exact HO468.out) hb); have n1_ := Aside0.mk (Kd.R_below (by (with_reducible repeat (first | apply Kd.R_alloc | apply Kd.R_drewN | apply Kd.R_drew)); exact HO472.out) hb); have n2_ := Aside0.mk (Kd.R_elder' (by (with_reducible repeat (first | apply Kd.R_alloc | apply Kd.R_drewN | apply Kd.R_drew)); exact HO476.out) (Kd.R_base ho0) hb); have n3_ := Aside0.mk (Kd.R_lower (Kd.R_new' ho0 (Kd.R_lt (by (with_reducible repeat (first | apply Kd.R_alloc | apply Kd.R_drewN | apply Kd.R_drew)); exact HO476.out))) (below_size (by repeat (first | (with_reducible first | exact HB.out | apply below_alloc | apply pw_below_drewN | apply below_drew1) | exact HB.out)))); have n4_ := Aside0.mk (below_step (by repeat (first | (with_reducible first | exact HB.out | apply below_alloc | apply pw_below_drewN | apply below_drew1) | exact HB.out)) hb); clear HO468; clear HO472; clear HO476; clear HB; have HO468 := n0_; have HO472 := n1_; have HO476 := n2_; have HO480 := n3_; have HB := n4_; clear n0_ n1_ n2_ n3_ n4_; (try clear hb); (try clear hb2); (try clear hk); (try clear hi); (try clear ho0)) | (go_at_call 50; (with_reducible refine (trim_Fewest.calls k t463 t481 t482 _ A8.out).mono ?_); rintro e w21 ⟨v483, rfl, ho0, hb⟩; have n0_ := Aside0.mk (Kd.R_elder' (by (with_reducible repeat (first | apply Kd.R_alloc | apply Kd.R_drewN | apply Kd.R_drew)); exact HO468.out) (Kd.R_base ho0) hb); have n1_ := Aside0.mk (Kd.R_elder' (by (with_reducible repeat (first | apply Kd.R_alloc | apply Kd.R_drewN | apply Kd.R_drew)); exact HO472.out) (Kd.R_base ho0) hb); have n2_ := Aside0.mk (Kd.R_below (by (with_reducible repeat (first | apply Kd.R_alloc | apply Kd.R_drewN | apply Kd.R_drew)); exact HO476.out) hb); have n3_ := Aside0.mk (Kd.R_below (by (with_reducible repeat (first | apply Kd.R_alloc | apply Kd.R_drewN | apply Kd.R_drew)); exact HO480.out) hb); have n4_ := Aside0.mk (Kd.R_lower (Kd.R_new' (Kd.R_new' ho0 (Kd.R_lt (by (with_reducible repeat (first | apply Kd.R_alloc | apply Kd.R_drewN | apply Kd.R_drew)); exact HO468.out))) (Kd.R_lt (by (with_reducible repeat (first | apply Kd.R_alloc | apply Kd.R_drewN | apply Kd.R_drew)); exact HO472.out))) (below_size (by repeat (first | (with_reducible first | exact HB.out | apply below_alloc | apply pw_below_drewN | apply below_drew1) | exact HB.out)))); have n5_ := Aside0.mk (below_step (by repeat (first | (with_reducible first | exact HB.out | apply below_alloc | apply pw_below_drewN | apply below_drew1) | exact HB.out)) hb); clear HO468; clear HO472; clear HO476; clear HO480; clear HB; have HO468 := n0_; have HO472 := n1_; have HO476 := n2_; have HO480 := n3_; have HO484 := n4_; have HB := n5_; clear n0_ n1_ n2_ n3_ n4_ n5_; (try clear hb); (try clear hb2); (try clear hk); (try clear hi); (try clear ho0)) | (go_at_call 50; (with_reducible refine (trim_Fewest.calls k t464 t485 t486 _ A9.out).mono ?_); rintro e w22 ⟨v487, rfl, ho0, hb⟩; have n0_ := Aside0.mk (Kd.R_elder' (by (with_reducible repeat (first | apply Kd.R_alloc | apply Kd.R_drewN | apply Kd.R_drew)); exact HO468.out) (Kd.R_base ho0) hb); have n1_ := Aside0.mk (Kd.R_elder' (by (with_reducible repeat (first | apply Kd.R_alloc | apply Kd.R_drewN | apply Kd.R_drew)); exact HO472.out) (Kd.R_base ho0) hb); have n2_ := Aside0.mk (Kd.R_below (by (with_reducible repeat (first | apply Kd.R_alloc | apply Kd.R_drewN | apply Kd.R_drew)); exact HO476.out) hb); have n3_ := Aside0.mk (Kd.R_below (by (with_reducible repeat (first | apply Kd.R_alloc | apply Kd.R_drewN | apply Kd.R_drew)); exact HO480.out) hb); have n4_ := Aside0.mk (Kd.R_elder' (by (with_reducible repeat (first | apply Kd.R_alloc | apply Kd.R_drewN | apply Kd.R_drew)); exact HO484.out) (Kd.R_base ho0) hb); have n5_ := Aside0.mk (Kd.R_lower (Kd.R_new' (Kd.R_new' (Kd.R_new' ho0 (Kd.R_lt (by (with_reducible repeat (first | apply Kd.R_alloc | apply Kd.R_drewN | apply Kd.R_drew)); exact HO468.out))) (Kd.R_lt (by (with_reducible repeat (first | apply Kd.R_alloc | apply Kd.R_drewN | apply Kd.R_drew)); exact HO472.out))) (Kd.R_lt (by (with_reducible repeat (first | apply Kd.R_alloc | apply Kd.R_drewN | apply Kd.R_drew)); exact HO484.out))) (below_size (by repeat (first | (with_reducible first | exact HB.out | apply below_alloc | apply pw_below_drewN | apply below_drew1) | exact HB.out)))); have n6_ := Aside0.mk (below_step (by repeat (first | (with_reducible first | exact HB.out | apply below_alloc | apply pw_below_drewN | apply below_drew1) | exact HB.out)) hb); clear HO468; clear HO472; clear HO476; clear HO480; clear HO484; clear HB; have HO468 := n0_; have HO472 := n1_; have HO476 := n2_; have HO480 := n3_; have HO484 := n4_; have HO488 := n5_; have HB := n6_; clear n0_ n1_ n2_ n3_ n4_ n5_ n6_; (try clear hb); (try clear hb2); (try clear hk); (try clear hi); (try clear ho0)) | (go_at_call 51; (with_reducible refine (trim_Ways.calls k t463 t489 t490 _ A10.out).mono ?_); rintro e w23 ⟨rfl, hb⟩; have n0_ := Aside0.mk (Kd.R_below (by (with_reducible repeat (first | apply Kd.R_alloc | apply Kd.R_drewN | apply Kd.R_drew)); exact HO468.out) hb); have n1_ := Aside0.mk (Kd.R_below (by (with_reducible repeat (first | apply Kd.R_alloc | apply Kd.R_drewN | apply Kd.R_drew)); exact HO472.out) hb); have n2_ := Aside0.mk (Kd.R_below (by (with_reducible repeat (first | apply Kd.R_alloc | apply Kd.R_drewN | apply Kd.R_drew)); exact HO476.out) hb); have n3_ := Aside0.mk (Kd.R_below (by (with_reducible repeat (first | apply Kd.R_alloc | apply Kd.R_drewN | apply Kd.R_drew)); exact HO480.out) hb); have n4_ := Aside0.mk (Kd.R_below (by (with_reducible repeat (first | apply Kd.R_alloc | apply Kd.R_drewN | apply Kd.R_drew)); exact HO484.out) hb); have n5_ := Aside0.mk (Kd.R_below (by (with_reducible repeat (first | apply Kd.R_alloc | apply Kd.R_drewN | apply Kd.R_drew)); exact HO488.out) hb); have n6_ := Aside0.mk (below_step (by repeat (first | (with_reducible first | exact HB.out | apply below_alloc | apply pw_below_drewN | apply below_drew1) | exact HB.out)) hb); clear HO468; clear HO472; clear HO476; clear HO480; clear HO484; clear HO488; clear HB; have HO468 := n0_; have HO472 := n1_; have HO476 := n2_; have HO480 := n3_; have HO484 := n4_; have HO488 := n5_; have HB := n6_; clear n0_ n1_ n2_ n3_ n4_ n5_ n6_; (try clear hb); (try clear hb2); (try clear hk); (try clear hi)) | (go_at_call 51; (with_reducible refine (trim_Ways.calls k t464 t491 t492 _ A11.out).mono ?_); rintro e w24 ⟨rfl, hb⟩; have n0_ := Aside0.mk (Kd.R_below (by (with_reducible repeat (first | apply Kd.R_alloc | apply Kd.R_drewN | apply Kd.R_drew)); exact HO468.out) hb); have n1_ := Aside0.mk (Kd.R_below (by (with_reducible repeat (first | apply Kd.R_alloc | apply Kd.R_drewN | apply Kd.R_drew)); exact HO472.out) hb); have n2_ := Aside0.mk (Kd.R_below (by (with_reducible repeat (first | apply Kd.R_alloc | apply Kd.R_drewN | apply Kd.R_drew)); exact HO476.out) hb); have n3_ := Aside0.mk (Kd.R_below (by (with_reducible repeat (first | apply Kd.R_alloc | apply Kd.R_drewN | apply Kd.R_drew)); exact HO480.out) hb); have n4_ := Aside0.mk (Kd.R_below (by (with_reducible repeat (first | apply Kd.R_alloc | apply Kd.R_drewN | apply Kd.R_drew)); exact HO484.out) hb); have n5_ := Aside0.mk (Kd.R_below (by (with_reducible repeat (first | apply Kd.R_alloc | apply Kd.R_drewN | apply Kd.R_drew)); exact HO488.out) hb); have n6_ := Aside0.mk (below_step (by repeat (first | (with_reducible first | exact HB.out | apply below_alloc | apply pw_below_drewN | apply below_drew1) | exact HB.out)) hb); clear HO468; clear HO472; clear HO476; clear HO480; clear HO484; clear HO488; clear HB; have HO468 := n0_; have HO472 := n1_; have HO476 := n2_; have HO480 := n3_; have HO484 := n4_; have HO488 := n5_; have HB := n6_; clear n0_ n1_ n2_ n3_ n4_ n5_ n6_; (try clear hb); (try clear hb2); (try clear hk); (try clear hi)) | (go_at_call 42; (with_reducible refine (trim_Inner.calls k t463 t493 t494 _ A12.out).mono ?_); rintro e w25 ⟨rfl, hb⟩; have n0_ := Aside0.mk (Kd.R_below (by (with_reducible repeat (first | apply Kd.R_alloc | apply Kd.R_drewN | apply Kd.R_drew)); exact HO468.out) hb); have n1_ := Aside0.mk (Kd.R_below (by (with_reducible repeat (first | apply Kd.R_alloc | apply Kd.R_drewN | apply Kd.R_drew)); exact HO472.out) hb); have n2_ := Aside0.mk (Kd.R_below (by (with_reducible repeat (first | apply Kd.R_alloc | apply Kd.R_drewN | apply Kd.R_drew)); exact HO476.out) hb); have n3_ := Aside0.mk (Kd.R_below (by (with_reducible repeat (first | apply Kd.R_alloc | apply Kd.R_drewN | apply Kd.R_drew)); exact HO480.out) hb); have n4_ := Aside0.mk (Kd.R_below (by (with_reducible repeat (first | apply Kd.R_alloc | apply Kd.R_drewN | apply Kd.R_drew)); exact HO484.out) hb); have n5_ := Aside0.mk (Kd.R_below (by (with_reducible repeat (first | apply Kd.R_alloc | apply Kd.R_drewN | apply Kd.R_drew)); exact HO488.out) hb); have n6_ := Aside0.mk (below_step (by repeat (first | (with_reducible first | exact HB.out | apply below_alloc | apply pw_below_drewN | apply below_drew1) | exact HB.out)) hb); clear HO468; clear HO472; clear HO476; clear HO480; clear HO484; clear HO488; clear HB; have HO468 := n0_; have HO472 := n1_; have HO476 := n2_; have HO480 := n3_; have HO484 := n4_; have HO488 := n5_; have HB := n6_; clear n0_ n1_ n2_ n3_ n4_ n5_ n6_; (try clear hb); (try clear hb2); (try clear hk); (try clear hi)) | (go_at_call 42; (with_reducible refine (trim_Inner.calls k t464 t495 t496 _ A13.out).mono ?_); rintro e w26 ⟨rfl, hb⟩; have n0_ := Aside0.mk (Kd.R_below (by (with_reducible repeat (first | apply Kd.R_alloc | apply Kd.R_drewN | apply Kd.R_drew)); exact HO468.out) hb); have n1_ := Aside0.mk (Kd.R_below (by (with_reducible repeat (first | apply Kd.R_alloc | apply Kd.R_drewN | apply Kd.R_drew)); exact HO472.out) hb); have n2_ := Aside0.mk (Kd.R_below (by (with_reducible repeat (first | apply Kd.R_alloc | apply Kd.R_drewN | apply Kd.R_drew)); exact HO476.out) hb); have n3_ := Aside0.mk (Kd.R_below (by (with_reducible repeat (first | apply Kd.R_alloc | apply Kd.R_drewN | apply Kd.R_drew)); exact HO480.out) hb); have n4_ := Aside0.mk (Kd.R_below (by (with_reducible repeat (first | apply Kd.R_alloc | apply Kd.R_drewN | apply Kd.R_drew)); exact HO484.out) hb); have n5_ := Aside0.mk (Kd.R_below (by (with_reducible repeat (first | apply Kd.R_alloc | apply Kd.R_drewN | apply Kd.R_drew)); exact HO488.out) hb); have n6_ := Aside0.mk (below_step (by repeat (first | (with_reducible first | exact HB.out | apply below_alloc | apply pw_below_drewN | apply below_drew1) | exact HB.out)) hb); clear HO468; clear HO472; clear HO476; clear HO480; clear HO484; clear HO488; clear HB; have HO468 := n0_; have HO472 := n1_; have HO476 := n2_; have HO480 := n3_; have HO484 := n4_; have HO488 := n5_; have HB := n6_; clear n0_ n1_ n2_ n3_ n4_ n5_ n6_; (try clear hb); (try clear hb2); (try clear hk); (try clear hi)))
  repeat (go_quiet (first | (go_at_call 30; (with_reducible refine (galloonlaw01_tame.calls k a0 60 t463 _ A2.out).mono ?_); rintro e w15 ⟨rfl, hb⟩; have n0_ := Aside0.mk (below_step (by repeat (first | (with_reducible first | exact HB.out | apply below_alloc | apply pw_below_drewN | apply below_drew1) | exact HB.out)) hb); clear HB; have HB := n0_; clear n0_; (try clear hb); (try clear hb2); (try clear hk); (try clear hi)) | (go_at_call 49; (with_reducible refine (galloonref01_Reversed.calls k t463 t464 _ A3.out).mono ?_); rintro e w16 ⟨rfl, hb⟩; have n0_ := Aside0.mk (below_step (by repeat (first | (with_reducible first | exact HB.out | apply below_alloc | apply pw_below_drewN | apply below_drew1) | exact HB.out)) hb); clear HB; have HB := n0_; clear n0_; (try clear hb); (try clear hb2); (try clear hk); (try clear hi)) | (go_at_call 33; (with_reducible refine (trim_Palindromes.calls t463 t465 t466 _ A4.out).mono ?_); rintro e w17 ⟨v467, rfl, ho0, hb⟩; have n0_ := Aside0.mk (Kd.R_lower ho0 (below_size (by repeat (first | (with_reducible first | exact HB.out | apply below_alloc | apply pw_below_drewN | apply below_drew1) | exact HB.out)))); have n1_ := Aside0.mk (below_step (by repeat (first | (with_reducible first | exact HB.out | apply below_alloc | apply pw_below_drewN | apply below_drew1) | exact HB.out)) hb); clear HB; have HO468 := n0_; have HB := n1_; clear n0_ n1_; (try clear hb); (try clear hb2); (try clear hk); (try clear hi); (try clear ho0)) | (go_at_call 33; (with_reducible refine (trim_Palindromes.calls t464 t469 t470 _ A5.out).mono ?_); rintro e w18 ⟨v471, rfl, ho0, hb⟩; have n0_ := Aside0.mk (Kd.R_elder' (by (with_reducible repeat (first | apply Kd.R_alloc | apply Kd.R_drewN | apply Kd.R_drew)); exact HO468.out) (Kd.R_base ho0) hb); have n1_ := Aside0.mk (Kd.R_lower (Kd.R_new' ho0 (Kd.R_lt (by (with_reducible repeat (first | apply Kd.R_alloc | apply Kd.R_drewN | apply Kd.R_drew)); exact HO468.out))) (below_size (by repeat (first | (with_reducible first | exact HB.out | apply below_alloc | apply pw_below_drewN | apply below_drew1) | exact HB.out)))); have n2_ := Aside0.mk (below_step (by repeat (first | (with_reducible first | exact HB.out | apply below_alloc | apply pw_below_drewN | apply below_drew1) | exact HB.out)) hb); clear HO468; clear HB; have HO468 := n0_; have HO472 := n1_; have HB := n2_; clear n0_ n1_ n2_; (try clear hb); (try clear hb2); (try clear hk); (try clear hi); (try clear ho0)) | (go_at_call 34; (with_reducible refine (trim_Centers.calls k t463 t473 t474 _ A6.out).mono ?_); rintro e w19 ⟨v475, rfl, ho0, hb⟩; have n0_ := Aside0.mk (Kd.R_below (by (with_reducible repeat (first | apply Kd.R_alloc | apply Kd.R_drewN | apply Kd.R_drew)); exact HO468.out) hb); have n1_ := Aside0.mk (Kd.R_below (by (with_reducible repeat (first | apply Kd.R_alloc | apply Kd.R_drewN | apply Kd.R_drew)); exact HO472.out) hb); have n2_ := Aside0.mk (Kd.R_lower ho0 (below_size (by repeat (first | (with_reducible first | exact HB.out | apply below_alloc | apply pw_below_drewN | apply below_drew1) | exact HB.out)))); have n3_ := Aside0.mk (below_step (by repeat (first | (with_reducible first | exact HB.out | apply below_alloc | apply pw_below_drewN | apply below_drew1) | exact HB.out)) hb); clear HO468; clear HO472; clear HB; have HO468 := n0_; have HO472 := n1_; have HO476 := n2_; have HB := n3_; clear n0_ n1_ n2_ n3_; (try clear hb); (try clear hb2); (try clear hk); (try clear hi); (try clear ho0)) | (go_at_call 34; (with_reducible refine (trim_Centers.calls k t464 t477 t478 _ A7.out).mono ?_); rintro e w20 ⟨v479, rfl, ho0, hb⟩; have n0_ := Aside0.mk (Kd.R_below (by (with_reducible repeat (first | apply Kd.R_alloc | apply Kd.R_drewN | apply Kd.R_drew)); exact HO468.out) hb); have n1_ := Aside0.mk (Kd.R_below (by (with_reducible repeat (first | apply Kd.R_alloc | apply Kd.R_drewN | apply Kd.R_drew)); exact HO472.out) hb); have n2_ := Aside0.mk (Kd.R_elder' (by (with_reducible repeat (first | apply Kd.R_alloc | apply Kd.R_drewN | apply Kd.R_drew)); exact HO476.out) (Kd.R_base ho0) hb); have n3_ := Aside0.mk (Kd.R_lower (Kd.R_new' ho0 (Kd.R_lt (by (with_reducible repeat (first | apply Kd.R_alloc | apply Kd.R_drewN | apply Kd.R_drew)); exact HO476.out))) (below_size (by repeat (first | (with_reducible first | exact HB.out | apply below_alloc | apply pw_below_drewN | apply below_drew1) | exact HB.out)))); have n4_ := Aside0.mk (below_step (by repeat (first | (with_reducible first | exact HB.out | apply below_alloc | apply pw_below_drewN | apply below_drew1) | exact HB.out)) hb); clear HO468; clear HO472; clear HO476; clear HB; have HO468 := n0_; have HO472 := n1_; have HO476 := n2_; have HO480 := n3_; have HB := n4_; clear n0_ n1_ n2_ n3_ n4_; (try clear hb); (try clear hb2); (try clear hk); (try clear hi); (try clear ho0)) | (go_at_call 50; (with_reducible refine (trim_Fewest.calls k t463 t481 t482 _ A8.out).mono ?_); rintro e w21 ⟨v483, rfl, ho0, hb⟩; have n0_ := Aside0.mk (Kd.R_elder' (by (with_reducible repeat (first | apply Kd.R_alloc | apply Kd.R_drewN | apply Kd.R_drew)); exact HO468.out) (Kd.R_base ho0) hb); have n1_ := Aside0.mk (Kd.R_elder' (by (with_reducible repeat (first | apply Kd.R_alloc | apply Kd.R_drewN | apply Kd.R_drew)); exact HO472.out) (Kd.R_base ho0) hb); have n2_ := Aside0.mk (Kd.R_below (by (with_reducible repeat (first | apply Kd.R_alloc | apply Kd.R_drewN | apply Kd.R_drew)); exact HO476.out) hb); have n3_ := Aside0.mk (Kd.R_below (by (with_reducible repeat (first | apply Kd.R_alloc | apply Kd.R_drewN | apply Kd.R_drew)); exact HO480.out) hb); have n4_ := Aside0.mk (Kd.R_lower (Kd.R_new' (Kd.R_new' ho0 (Kd.R_lt (by (with_reducible repeat (first | apply Kd.R_alloc | apply Kd.R_drewN | apply Kd.R_drew)); exact HO468.out))) (Kd.R_lt (by (with_reducible repeat (first | apply Kd.R_alloc | apply Kd.R_drewN | apply Kd.R_drew)); exact HO472.out))) (below_size (by repeat (first | (with_reducible first | exact HB.out | apply below_alloc | apply pw_below_drewN | apply below_drew1) | exact HB.out)))); have n5_ := Aside0.mk (below_step (by repeat (first | (with_reducible first | exact HB.out | apply below_alloc | apply pw_below_drewN | apply below_drew1) | exact HB.out)) hb); clear HO468; clear HO472; clear HO476; clear HO480; clear HB; have HO468 := n0_; have HO472 := n1_; have HO476 := n2_; have HO480 := n3_; have HO484 := n4_; have HB := n5_; clear n0_ n1_ n2_ n3_ n4_ n5_; (try clear hb); (try clear hb2); (try clear hk); (try clear hi); (try clear ho0)) | (go_at_call 50; (with_reducible refine (trim_Fewest.calls k t464 t485 t486 _ A9.out).mono ?_); rintro e w22 ⟨v487, rfl, ho0, hb⟩; have n0_ := Aside0.mk (Kd.R_elder' (by (with_reducible repeat (first | apply Kd.R_alloc | apply Kd.R_drewN | apply Kd.R_drew)); exact HO468.out) (Kd.R_base ho0) hb); have n1_ := Aside0.mk (Kd.R_elder' (by (with_reducible repeat (first | apply Kd.R_alloc | apply Kd.R_drewN | apply Kd.R_drew)); exact HO472.out) (Kd.R_base ho0) hb); have n2_ := Aside0.mk (Kd.R_below (by (with_reducible repeat (first | apply Kd.R_alloc | apply Kd.R_drewN | apply Kd.R_drew)); exact HO476.out) hb); have n3_ := Aside0.mk (Kd.R_below (by (with_reducible repeat (first | apply Kd.R_alloc | apply Kd.R_drewN | apply Kd.R_drew)); exact HO480.out) hb); have n4_ := Aside0.mk (Kd.R_elder' (by (with_reducible repeat (first | apply Kd.R_alloc | apply Kd.R_drewN | apply Kd.R_drew)); exact HO484.out) (Kd.R_base ho0) hb); have n5_ := Aside0.mk (Kd.R_lower (Kd.R_new' (Kd.R_new' (Kd.R_new' ho0 (Kd.R_lt (by (with_reducible repeat (first | apply Kd.R_alloc | apply Kd.R_drewN | apply Kd.R_drew)); exact HO468.out))) (Kd.R_lt (by (with_reducible repeat (first | apply Kd.R_alloc | apply Kd.R_drewN | apply Kd.R_drew)); exact HO472.out))) (Kd.R_lt (by (with_reducible repeat (first | apply Kd.R_alloc | apply Kd.R_drewN | apply Kd.R_drew)); exact HO484.out))) (below_size (by repeat (first | (with_reducible first | exact HB.out | apply below_alloc | apply pw_below_drewN | apply below_drew1) | exact HB.out)))); have n6_ := Aside0.mk (below_step (by repeat (first | (with_reducible first | exact HB.out | apply below_alloc | apply pw_below_drewN | apply below_drew1) | exact HB.out)) hb); clear HO468; clear HO472; clear HO476; clear HO480; clear HO484; clear HB; have HO468 := n0_; have HO472 := n1_; have HO476 := n2_; have HO480 := n3_; have HO484 := n4_; have HO488 := n5_; have HB := n6_; clear n0_ n1_ n2_ n3_ n4_ n5_ n6_; (try clear hb); (try clear hb2); (try clear hk); (try clear hi); (try clear ho0)) | (go_at_call 51; (with_reducible refine (trim_Ways.calls k t463 t489 t490 _ A10.out).mono ?_); rintro e w23 ⟨rfl, hb⟩; have n0_ := Aside0.mk (Kd.R_below (by (with_reducible repeat (first | apply Kd.R_alloc | apply Kd.R_drewN | apply Kd.R_drew)); exact HO468.out) hb); have n1_ := Aside0.mk (Kd.R_below (by (with_reducible repeat (first | apply Kd.R_alloc | apply Kd.R_drewN | apply Kd.R_drew)); exact HO472.out) hb); have n2_ := Aside0.mk (Kd.R_below (by (with_reducible repeat (first | apply Kd.R_alloc | apply Kd.R_drewN | apply Kd.R_drew)); exact HO476.out) hb); have n3_ := Aside0.mk (Kd.R_below (by (with_reducible repeat (first | apply Kd.R_alloc | apply Kd.R_drewN | apply Kd.R_drew)); exact HO480.out) hb); have n4_ := Aside0.mk (Kd.R_below (by (with_reducible repeat (first | apply Kd.R_alloc | apply Kd.R_drewN | apply Kd.R_drew)); exact HO484.out) hb); have n5_ := Aside0.mk (Kd.R_below (by (with_reducible repeat (first | apply Kd.R_alloc | apply Kd.R_drewN | apply Kd.R_drew)); exact HO488.out) hb); have n6_ := Aside0.mk (below_step (by repeat (first | (with_reducible first | exact HB.out | apply below_alloc | apply pw_below_drewN | apply below_drew1) | exact HB.out)) hb); clear HO468; clear HO472; clear HO476; clear HO480; clear HO484; clear HO488; clear HB; have HO468 := n0_; have HO472 := n1_; have HO476 := n2_; have HO480 := n3_; have HO484 := n4_; have HO488 := n5_; have HB := n6_; clear n0_ n1_ n2_ n3_ n4_ n5_ n6_; (try clear hb); (try clear hb2); (try clear hk); (try clear hi)) | (go_at_call 51; (with_reducible refine (trim_Ways.calls k t464 t491 t492 _ A11.out).mono ?_); rintro e w24 ⟨rfl, hb⟩; have n0_ := Aside0.mk (Kd.R_below (by (with_reducible repeat (first | apply Kd.R_alloc | apply Kd.R_drewN | apply Kd.R_drew)); exact HO468.out) hb); have n1_ := Aside0.mk (Kd.R_below (by (with_reducible repeat (first | apply Kd.R_alloc | apply Kd.R_drewN | apply Kd.R_drew)); exact HO472.out) hb); have n2_ := Aside0.mk (Kd.R_below (by (with_reducible repeat (first | apply Kd.R_alloc | apply Kd.R_drewN | apply Kd.R_drew)); exact HO476.out) hb); have n3_ := Aside0.mk (Kd.R_below (by (with_reducible repeat (first | apply Kd.R_alloc | apply Kd.R_drewN | apply Kd.R_drew)); exact HO480.out) hb); have n4_ := Aside0.mk (Kd.R_below (by (with_reducible repeat (first | apply Kd.R_alloc | apply Kd.R_drewN | apply Kd.R_drew)); exact HO484.out) hb); have n5_ := Aside0.mk (Kd.R_below (by (with_reducible repeat (first | apply Kd.R_alloc | apply Kd.R_drewN | apply Kd.R_drew)); exact HO488.out) hb); have n6_ := Aside0.mk (below_step (by repeat (first | (with_reducible first | exact HB.out | apply below_alloc | apply pw_below_drewN | apply below_drew1) | exact HB.out)) hb); clear HO468; clear HO472; clear HO476; clear HO480; clear HO484; clear HO488; clear HB; have HO468 := n0_; have HO472 := n1_; have HO476 := n2_; have HO480 := n3_; have HO484 := n4_; have HO488 := n5_; have HB := n6_; clear n0_ n1_ n2_ n3_ n4_ n5_ n6_; (try clear hb); (try clear hb2); (try clear hk); (try clear hi)) | (go_at_call 42; (with_reducible refine (trim_Inner.calls k t463 t493 t494 _ A12.out).mono ?_); rintro e w25 ⟨rfl, hb⟩; have n0_ := Aside0.mk (Kd.R_below (by (with_reducible repeat (first | apply Kd.R_alloc | apply Kd.R_drewN | apply Kd.R_drew)); exact HO468.out) hb); have n1_ := Aside0.mk (Kd.R_below (by (with_reducible repeat (first | apply Kd.R_alloc | apply Kd.R_drewN | apply Kd.R_drew)); exact HO472.out) hb); have n2_ := Aside0.mk (Kd.R_below (by (with_reducible repeat (first | apply Kd.R_alloc | apply Kd.R_drewN | apply Kd.R_drew)); exact HO476.out) hb); have n3_ := Aside0.mk (Kd.R_below (by (with_reducible repeat (first | apply Kd.R_alloc | apply Kd.R_drewN | apply Kd.R_drew)); exact HO480.out) hb); have n4_ := Aside0.mk (Kd.R_below (by (with_reducible repeat (first | apply Kd.R_alloc | apply Kd.R_drewN | apply Kd.R_drew)); exact HO484.out) hb); have n5_ := Aside0.mk (Kd.R_below (by (with_reducible repeat (first | apply Kd.R_alloc | apply Kd.R_drewN | apply Kd.R_drew)); exact HO488.out) hb); have n6_ := Aside0.mk (below_step (by repeat (first | (with_reducible first | exact HB.out | apply below_alloc | apply pw_below_drewN | apply below_drew1) | exact HB.out)) hb); clear HO468; clear HO472; clear HO476; clear HO480; clear HO484; clear HO488; clear HB; have HO468 := n0_; have HO472 := n1_; have HO476 := n2_; have HO480 := n3_; have HO484 := n4_; have HO488 := n5_; have HB := n6_; clear n0_ n1_ n2_ n3_ n4_ n5_ n6_; (try clear hb); (try clear hb2); (try clear hk); (try clear hi)) | (go_at_call 42; (with_reducible refine (trim_Inner.calls k t464 t495 t496 _ A13.out).mono ?_); rintro e w26 ⟨rfl, hb⟩; have n0_ := Aside0.mk (Kd.R_below (by (with_reducible repeat (first | apply Kd.R_alloc | apply Kd.R_drewN | apply Kd.R_drew)); exact HO468.out) hb); have n1_ := Aside0.mk (Kd.R_below (by (with_reducible repeat (first | apply Kd.R_alloc | apply Kd.R_drewN | apply Kd.R_drew)); exact HO472.out) hb); have n2_ := Aside0.mk (Kd.R_below (by (with_reducible repeat (first | apply Kd.R_alloc | apply Kd.R_drewN | apply Kd.R_drew)); exact HO476.out) hb); have n3_ := Aside0.mk (Kd.R_below (by (with_reducible repeat (first | apply Kd.R_alloc | apply Kd.R_drewN | apply Kd.R_drew)); exact HO480.out) hb); have n4_ := Aside0.mk (Kd.R_below (by (with_reducible repeat (first | apply Kd.R_alloc | apply Kd.R_drewN | apply Kd.R_drew)); exact HO484.out) hb); have n5_ := Aside0.mk (Kd.R_below (by (with_reducible repeat (first | apply Kd.R_alloc | apply Kd.R_drewN | apply Kd.R_drew)); exact HO488.out) hb); have n6_ := Aside0.mk (below_step (by repeat (first | (with_reducible first | exact HB.out | apply below_alloc | apply pw_below_drewN | apply below_drew1) | exact HB.out)) hb); clear HO468; clear HO472; clear HO476; clear HO480; clear HO484; clear HO488; clear HB; have HO468 := n0_; have HO472 := n1_; have HO476 := n2_; have HO480 := n3_; have HO484 := n4_; have HO488 := n5_; have HB := n6_; clear n0_ n1_ n2_ n3_ n4_ n5_ n6_; (try clear hb); (try clear hb2); (try clear hk); (try clear hi))); go_upto_region 13 with (first | (go_at_call 30; (with_reducible refine (galloonlaw01_tame.calls k a0 60 t463 _ A2.out).mono ?_); rintro e w15 ⟨rfl, hb⟩; have n0_ := Aside0.mk (below_step (by repeat (first | (with_reducible first | exact HB.out | apply below_alloc | apply pw_below_drewN | apply below_drew1) | exact HB.out)) hb); clear HB; have HB := n0_; clear n0_; (try clear hb); (try clear hb2); (try clear hk); (try clear hi)) | (go_at_call 49; (with_reducible refine (galloonref01_Reversed.calls k t463 t464 _ A3.out).mono ?_); rintro e w16 ⟨rfl, hb⟩; have n0_ := Aside0.mk (below_step (by repeat (first | (with_reducible first | exact HB.out | apply below_alloc | apply pw_below_drewN | apply below_drew1) | exact HB.out)) hb); clear HB; have HB := n0_; clear n0_; (try clear hb); (try clear hb2); (try clear hk); (try clear hi)) | (go_at_call 33; (with_reducible refine (trim_Palindromes.calls t463 t465 t466 _ A4.out).mono ?_); rintro e w17 ⟨v467, rfl, ho0, hb⟩; have n0_ := Aside0.mk (Kd.R_lower ho0 (below_size (by repeat (first | (with_reducible first | exact HB.out | apply below_alloc | apply pw_below_drewN | apply below_drew1) | exact HB.out)))); have n1_ := Aside0.mk (below_step (by repeat (first | (with_reducible first | exact HB.out | apply below_alloc | apply pw_below_drewN | apply below_drew1) | exact HB.out)) hb); clear HB; have HO468 := n0_; have HB := n1_; clear n0_ n1_; (try clear hb); (try clear hb2); (try clear hk); (try clear hi); (try clear ho0)) | (go_at_call 33; (with_reducible refine (trim_Palindromes.calls t464 t469 t470 _ A5.out).mono ?_); rintro e w18 ⟨v471, rfl, ho0, hb⟩; have n0_ := Aside0.mk (Kd.R_elder' (by (with_reducible repeat (first | apply Kd.R_alloc | apply Kd.R_drewN | apply Kd.R_drew)); exact HO468.out) (Kd.R_base ho0) hb); have n1_ := Aside0.mk (Kd.R_lower (Kd.R_new' ho0 (Kd.R_lt (by (with_reducible repeat (first | apply Kd.R_alloc | apply Kd.R_drewN | apply Kd.R_drew)); exact HO468.out))) (below_size (by repeat (first | (with_reducible first | exact HB.out | apply below_alloc | apply pw_below_drewN | apply below_drew1) | exact HB.out)))); have n2_ := Aside0.mk (below_step (by repeat (first | (with_reducible first | exact HB.out | apply below_alloc | apply pw_below_drewN | apply below_drew1) | exact HB.out)) hb); clear HO468; clear HB; have HO468 := n0_; have HO472 := n1_; have HB := n2_; clear n0_ n1_ n2_; (try clear hb); (try clear hb2); (try clear hk); (try clear hi); (try clear ho0)) | (go_at_call 34; (with_reducible refine (trim_Centers.calls k t463 t473 t474 _ A6.out).mono ?_); rintro e w19 ⟨v475, rfl, ho0, hb⟩; have n0_ := Aside0.mk (Kd.R_below (by (with_reducible repeat (first | apply Kd.R_alloc | apply Kd.R_drewN | apply Kd.R_drew)); exact HO468.out) hb); have n1_ := Aside0.mk (Kd.R_below (by (with_reducible repeat (first | apply Kd.R_alloc | apply Kd.R_drewN | apply Kd.R_drew)); exact HO472.out) hb); have n2_ := Aside0.mk (Kd.R_lower ho0 (below_size (by repeat (first | (with_reducible first | exact HB.out | apply below_alloc | apply pw_below_drewN | apply below_drew1) | exact HB.out)))); have n3_ := Aside0.mk (below_step (by repeat (first | (with_reducible first | exact HB.out | apply below_alloc | apply pw_below_drewN | apply below_drew1) | exact HB.out)) hb); clear HO468; clear HO472; clear HB; have HO468 := n0_; have HO472 := n1_; have HO476 := n2_; have HB := n3_; clear n0_ n1_ n2_ n3_; (try clear hb); (try clear hb2); (try clear hk); (try clear hi); (try clear ho0)) | (go_at_call 34; (with_reducible refine (trim_Centers.calls k t464 t477 t478 _ A7.out).mono ?_); rintro e w20 ⟨v479, rfl, ho0, hb⟩; have n0_ := Aside0.mk (Kd.R_below (by (with_reducible repeat (first | apply Kd.R_alloc | apply Kd.R_drewN | apply Kd.R_drew)); exact HO468.out) hb); have n1_ := Aside0.mk (Kd.R_below (by (with_reducible repeat (first | apply Kd.R_alloc | apply Kd.R_drewN | apply Kd.R_drew)); exact HO472.out) hb); have n2_ := Aside0.mk (Kd.R_elder' (by (with_reducible repeat (first | apply Kd.R_alloc | apply Kd.R_drewN | apply Kd.R_drew)); exact HO476.out) (Kd.R_base ho0) hb); have n3_ := Aside0.mk (Kd.R_lower (Kd.R_new' ho0 (Kd.R_lt (by (with_reducible repeat (first | apply Kd.R_alloc | apply Kd.R_drewN | apply Kd.R_drew)); exact HO476.out))) (below_size (by repeat (first | (with_reducible first | exact HB.out | apply below_alloc | apply pw_below_drewN | apply below_drew1) | exact HB.out)))); have n4_ := Aside0.mk (below_step (by repeat (first | (with_reducible first | exact HB.out | apply below_alloc | apply pw_below_drewN | apply below_drew1) | exact HB.out)) hb); clear HO468; clear HO472; clear HO476; clear HB; have HO468 := n0_; have HO472 := n1_; have HO476 := n2_; have HO480 := n3_; have HB := n4_; clear n0_ n1_ n2_ n3_ n4_; (try clear hb); (try clear hb2); (try clear hk); (try clear hi); (try clear ho0)) | (go_at_call 50; (with_reducible refine (trim_Fewest.calls k t463 t481 t482 _ A8.out).mono ?_); rintro e w21 ⟨v483, rfl, ho0, hb⟩; have n0_ := Aside0.mk (Kd.R_elder' (by (with_reducible repeat (first | apply Kd.R_alloc | apply Kd.R_drewN | apply Kd.R_drew)); exact HO468.out) (Kd.R_base ho0) hb); have n1_ := Aside0.mk (Kd.R_elder' (by (with_reducible repeat (first | apply Kd.R_alloc | apply Kd.R_drewN | apply Kd.R_drew)); exact HO472.out) (Kd.R_base ho0) hb); have n2_ := Aside0.mk (Kd.R_below (by (with_reducible repeat (first | apply Kd.R_alloc | apply Kd.R_drewN | apply Kd.R_drew)); exact HO476.out) hb); have n3_ := Aside0.mk (Kd.R_below (by (with_reducible repeat (first | apply Kd.R_alloc | apply Kd.R_drewN | apply Kd.R_drew)); exact HO480.out) hb); have n4_ := Aside0.mk (Kd.R_lower (Kd.R_new' (Kd.R_new' ho0 (Kd.R_lt (by (with_reducible repeat (first | apply Kd.R_alloc | apply Kd.R_drewN | apply Kd.R_drew)); exact HO468.out))) (Kd.R_lt (by (with_reducible repeat (first | apply Kd.R_alloc | apply Kd.R_drewN | apply Kd.R_drew)); exact HO472.out))) (below_size (by repeat (first | (with_reducible first | exact HB.out | apply below_alloc | apply pw_below_drewN | apply below_drew1) | exact HB.out)))); have n5_ := Aside0.mk (below_step (by repeat (first | (with_reducible first | exact HB.out | apply below_alloc | apply pw_below_drewN | apply below_drew1) | exact HB.out)) hb); clear HO468; clear HO472; clear HO476; clear HO480; clear HB; have HO468 := n0_; have HO472 := n1_; have HO476 := n2_; have HO480 := n3_; have HO484 := n4_; have HB := n5_; clear n0_ n1_ n2_ n3_ n4_ n5_; (try clear hb); (try clear hb2); (try clear hk); (try clear hi); (try clear ho0)) | (go_at_call 50; (with_reducible refine (trim_Fewest.calls k t464 t485 t486 _ A9.out).mono ?_); rintro e w22 ⟨v487, rfl, ho0, hb⟩; have n0_ := Aside0.mk (Kd.R_elder' (by (with_reducible repeat (first | apply Kd.R_alloc | apply Kd.R_drewN | apply Kd.R_drew)); exact HO468.out) (Kd.R_base ho0) hb); have n1_ := Aside0.mk (Kd.R_elder' (by (with_reducible repeat (first | apply Kd.R_alloc | apply Kd.R_drewN | apply Kd.R_drew)); exact HO472.out) (Kd.R_base ho0) hb); have n2_ := Aside0.mk (Kd.R_below (by (with_reducible repeat (first | apply Kd.R_alloc | apply Kd.R_drewN | apply Kd.R_drew)); exact HO476.out) hb); have n3_ := Aside0.mk (Kd.R_below (by (with_reducible repeat (first | apply Kd.R_alloc | apply Kd.R_drewN | apply Kd.R_drew)); exact HO480.out) hb); have n4_ := Aside0.mk (Kd.R_elder' (by (with_reducible repeat (first | apply Kd.R_alloc | apply Kd.R_drewN | apply Kd.R_drew)); exact HO484.out) (Kd.R_base ho0) hb); have n5_ := Aside0.mk (Kd.R_lower (Kd.R_new' (Kd.R_new' (Kd.R_new' ho0 (Kd.R_lt (by (with_reducible repeat (first | apply Kd.R_alloc | apply Kd.R_drewN | apply Kd.R_drew)); exact HO468.out))) (Kd.R_lt (by (with_reducible repeat (first | apply Kd.R_alloc | apply Kd.R_drewN | apply Kd.R_drew)); exact HO472.out))) (Kd.R_lt (by (with_reducible repeat (first | apply Kd.R_alloc | apply Kd.R_drewN | apply Kd.R_drew)); exact HO484.out))) (below_size (by repeat (first | (with_reducible first | exact HB.out | apply below_alloc | apply pw_below_drewN | apply below_drew1) | exact HB.out)))); have n6_ := Aside0.mk (below_step (by repeat (first | (with_reducible first | exact HB.out | apply below_alloc | apply pw_below_drewN | apply below_drew1) | exact HB.out)) hb); clear HO468; clear HO472; clear HO476; clear HO480; clear HO484; clear HB; have HO468 := n0_; have HO472 := n1_; have HO476 := n2_; have HO480 := n3_; have HO484 := n4_; have HO488 := n5_; have HB := n6_; clear n0_ n1_ n2_ n3_ n4_ n5_ n6_; (try clear hb); (try clear hb2); (try clear hk); (try clear hi); (try clear ho0)) | (go_at_call 51; (with_reducible refine (trim_Ways.calls k t463 t489 t490 _ A10.out).mono ?_); rintro e w23 ⟨rfl, hb⟩; have n0_ := Aside0.mk (Kd.R_below (by (with_reducible repeat (first | apply Kd.R_alloc | apply Kd.R_drewN | apply Kd.R_drew)); exact HO468.out) hb); have n1_ := Aside0.mk (Kd.R_below (by (with_reducible repeat (first | apply Kd.R_alloc | apply Kd.R_drewN | apply Kd.R_drew)); exact HO472.out) hb); have n2_ := Aside0.mk (Kd.R_below (by (with_reducible repeat (first | apply Kd.R_alloc | apply Kd.R_drewN | apply Kd.R_drew)); exact HO476.out) hb); have n3_ := Aside0.mk (Kd.R_below (by (with_reducible repeat (first | apply Kd.R_alloc | apply Kd.R_drewN | apply Kd.R_drew)); exact HO480.out) hb); have n4_ := Aside0.mk (Kd.R_below (by (with_reducible repeat (first | apply Kd.R_alloc | apply Kd.R_drewN | apply Kd.R_drew)); exact HO484.out) hb); have n5_ := Aside0.mk (Kd.R_below (by (with_reducible repeat (first | apply Kd.R_alloc | apply Kd.R_drewN | apply Kd.R_drew)); exact HO488.out) hb); have n6_ := Aside0.mk (below_step (by repeat (first | (with_reducible first | exact HB.out | apply below_alloc | apply pw_below_drewN | apply below_drew1) | exact HB.out)) hb); clear HO468; clear HO472; clear HO476; clear HO480; clear HO484; clear HO488; clear HB; have HO468 := n0_; have HO472 := n1_; have HO476 := n2_; have HO480 := n3_; have HO484 := n4_; have HO488 := n5_; have HB := n6_; clear n0_ n1_ n2_ n3_ n4_ n5_ n6_; (try clear hb); (try clear hb2); (try clear hk); (try clear hi)) | (go_at_call 51; (with_reducible refine (trim_Ways.calls k t464 t491 t492 _ A11.out).mono ?_); rintro e w24 ⟨rfl, hb⟩; have n0_ := Aside0.mk (Kd.R_below (by (with_reducible repeat (first | apply Kd.R_alloc | apply Kd.R_drewN | apply Kd.R_drew)); exact HO468.out) hb); have n1_ := Aside0.mk (Kd.R_below (by (with_reducible repeat (first | apply Kd.R_alloc | apply Kd.R_drewN | apply Kd.R_drew)); exact HO472.out) hb); have n2_ := Aside0.mk (Kd.R_below (by (with_reducible repeat (first | apply Kd.R_alloc | apply Kd.R_drewN | apply Kd.R_drew)); exact HO476.out) hb); have n3_ := Aside0.mk (Kd.R_below (by (with_reducible repeat (first | apply Kd.R_alloc | apply Kd.R_drewN | apply Kd.R_drew)); exact HO480.out) hb); have n4_ := Aside0.mk (Kd.R_below (by (with_reducible repeat (first | apply Kd.R_alloc | apply Kd.R_drewN | apply Kd.R_drew)); exact HO484.out) hb); have n5_ := Aside0.mk (Kd.R_below (by (with_reducible repeat (first | apply Kd.R_alloc | apply Kd.R_drewN | apply Kd.R_drew)); exact HO488.out) hb); have n6_ := Aside0.mk (below_step (by repeat (first | (with_reducible first | exact HB.out | apply below_alloc | apply pw_below_drewN | apply below_drew1) | exact HB.out)) hb); clear HO468; clear HO472; clear HO476; clear HO480; clear HO484; clear HO488; clear HB; have HO468 := n0_; have HO472 := n1_; have HO476 := n2_; have HO480 := n3_; have HO484 := n4_; have HO488 := n5_; have HB := n6_; clear n0_ n1_ n2_ n3_ n4_ n5_ n6_; (try clear hb); (try clear hb2); (try clear hk); (try clear hi)) | (go_at_call 42; (with_reducible refine (trim_Inner.calls k t463 t493 t494 _ A12.out).mono ?_); rintro e w25 ⟨rfl, hb⟩; have n0_ := Aside0.mk (Kd.R_below (by (with_reducible repeat (first | apply Kd.R_alloc | apply Kd.R_drewN | apply Kd.R_drew)); exact HO468.out) hb); have n1_ := Aside0.mk (Kd.R_below (by (with_reducible repeat (first | apply Kd.R_alloc | apply Kd.R_drewN | apply Kd.R_drew)); exact HO472.out) hb); have n2_ := Aside0.mk (Kd.R_below (by (with_reducible repeat (first | apply Kd.R_alloc | apply Kd.R_drewN | apply Kd.R_drew)); exact HO476.out) hb); have n3_ := Aside0.mk (Kd.R_below (by (with_reducible repeat (first | apply Kd.R_alloc | apply Kd.R_drewN | apply Kd.R_drew)); exact HO480.out) hb); have n4_ := Aside0.mk (Kd.R_below (by (with_reducible repeat (first | apply Kd.R_alloc | apply Kd.R_drewN | apply Kd.R_drew)); exact HO484.out) hb); have n5_ := Aside0.mk (Kd.R_below (by (with_reducible repeat (first | apply Kd.R_alloc | apply Kd.R_drewN | apply Kd.R_drew)); exact HO488.out) hb); have n6_ := Aside0.mk (below_step (by repeat (first | (with_reducible first | exact HB.out | apply below_alloc | apply pw_below_drewN | apply below_drew1) | exact HB.out)) hb); clear HO468; clear HO472; clear HO476; clear HO480; clear HO484; clear HO488; clear HB; have HO468 := n0_; have HO472 := n1_; have HO476 := n2_; have HO480 := n3_; have HO484 := n4_; have HO488 := n5_; have HB := n6_; clear n0_ n1_ n2_ n3_ n4_ n5_ n6_; (try clear hb); (try clear hb2); (try clear hk); (try clear hi)) | (go_at_call 42; (with_reducible refine (trim_Inner.calls k t464 t495 t496 _ A13.out).mono ?_); rintro e w26 ⟨rfl, hb⟩; have n0_ := Aside0.mk (Kd.R_below (by (with_reducible repeat (first | apply Kd.R_alloc | apply Kd.R_drewN | apply Kd.R_drew)); exact HO468.out) hb); have n1_ := Aside0.mk (Kd.R_below (by (with_reducible repeat (first | apply Kd.R_alloc | apply Kd.R_drewN | apply Kd.R_drew)); exact HO472.out) hb); have n2_ := Aside0.mk (Kd.R_below (by (with_reducible repeat (first | apply Kd.R_alloc | apply Kd.R_drewN | apply Kd.R_drew)); exact HO476.out) hb); have n3_ := Aside0.mk (Kd.R_below (by (with_reducible repeat (first | apply Kd.R_alloc | apply Kd.R_drewN | apply Kd.R_drew)); exact HO480.out) hb); have n4_ := Aside0.mk (Kd.R_below (by (with_reducible repeat (first | apply Kd.R_alloc | apply Kd.R_drewN | apply Kd.R_drew)); exact HO484.out) hb); have n5_ := Aside0.mk (Kd.R_below (by (with_reducible repeat (first | apply Kd.R_alloc | apply Kd.R_drewN | apply Kd.R_drew)); exact HO488.out) hb); have n6_ := Aside0.mk (below_step (by repeat (first | (with_reducible first | exact HB.out | apply below_alloc | apply pw_below_drewN | apply below_drew1) | exact HB.out)) hb); clear HO468; clear HO472; clear HO476; clear HO480; clear HO484; clear HO488; clear HB; have HO468 := n0_; have HO472 := n1_; have HO476 := n2_; have HO480 := n3_; have HO484 := n4_; have HO488 := n5_; have HB := n6_; clear n0_ n1_ n2_ n3_ n4_ n5_ n6_; (try clear hb); (try clear hb2); (try clear hk); (try clear hi))))
  (try simp only [Act.put, List.setIfInBounds_toArray, List.set_cons_zero, List.set_cons_succ])
  go_cut [144] (fun v144 wc => ∃ (kq : Nat) (x144_13 : Bool), v144 = .bool x144_13 ∧ Aside0 (galloonlaw01_TrimReversed.j0 kq t473 t477 x144_13 = some r) ∧ Aside0 (kq ≤ k) ∧ Aside0 (Kd.R (Kd.int .i64) 3 wc w.heap.size (fun k_ => some k_ ≠ (v479 : Value).ownBlock) v475 t473) ∧ Aside0 (Kd.R (Kd.int .i64) 3 wc w.heap.size (fun k_ => some k_ ≠ (v475 : Value).ownBlock) v479 t477) ∧ Aside0 (Below w.heap.size w wc))
  case first =>
    have H := HC14.out
    clear HC14
    by_cases c27 : t466 = 0
    · rw [if_pos c27] at H
      have c27b0 : (t466 == 0) = true := beq_iff_eq.mpr c27
      have c27b1 : (t466 != 0) = false := bne_eq_false_iff_eq.mpr c27
      clear c27
      (first | rw [c27b0] | (simp only [i64_w, i32_w]; rw [c27b0]) | skip)
      by_cases c28 : t470 = 0
      · rw [if_pos c28] at H
        have c28b0 : (t470 == 0) = true := beq_iff_eq.mpr c28
        have c28b1 : (t470 != 0) = false := bne_eq_false_iff_eq.mpr c28
        clear c28
        by_cases c29 : t474 = 0
        · rw [if_pos c29] at H
          have c29b0 : (t474 == 0) = true := beq_iff_eq.mpr c29
          have c29b1 : (t474 != 0) = false := bne_eq_false_iff_eq.mpr c29
          clear c29
          by_cases c30 : t478 = 0
          · rw [if_pos c30] at H
            have c30b0 : (t478 == 0) = true := beq_iff_eq.mpr c30
            have c30b1 : (t478 != 0) = false := bne_eq_false_iff_eq.mpr c30
            clear c30
            by_cases c31 : t482 = 0
            · rw [if_pos c31] at H
              have c31b0 : (t482 == 0) = true := beq_iff_eq.mpr c31
              have c31b1 : (t482 != 0) = false := bne_eq_false_iff_eq.mpr c31
              clear c31
              by_cases c32 : t486 = 0
              · rw [if_pos c32] at H
                have c32b0 : (t486 == 0) = true := beq_iff_eq.mpr c32
                have c32b1 : (t486 != 0) = false := bne_eq_false_iff_eq.mpr c32
                clear c32
                by_cases c33 : t490 = t492
                · rw [if_pos c33] at H
                  have c33b0 : (t490 == t492) = true := beq_iff_eq.mpr c33
                  have c33b1 : (t490 != t492) = false := bne_eq_false_iff_eq.mpr c33
                  clear c33
                  by_cases c34 : t494 = 0
                  · rw [if_pos c34] at H
                    have c34b0 : (t494 == 0) = true := beq_iff_eq.mpr c34
                    have c34b1 : (t494 != 0) = false := bne_eq_false_iff_eq.mpr c34
                    clear c34
                    by_cases c35 : t496 = 0
                    · rw [if_pos c35] at H
                      have c35b0 : (t496 == 0) = true := beq_iff_eq.mpr c35
                      have c35b1 : (t496 != 0) = false := bne_eq_false_iff_eq.mpr c35
                      clear c35
                      replace H := Option.bind_eq_some_iff.mp H
                      obtain ⟨t497, A360, H⟩ := H
                      replace H : (if t497 = true then (if (t473.length : Int) = (t477.length : Int) then (if (t481.length : Int) = (t485.length : Int) then (if t489 = t491 then (galloonlaw01_TrimReversed.j0 k t473 t477 (t493.toList != t495.toList)) else (galloonlaw01_TrimReversed.j0 k t473 t477 true)) else (galloonlaw01_TrimReversed.j0 k t473 t477 true)) else (galloonlaw01_TrimReversed.j0 k t473 t477 true)) else (galloonlaw01_TrimReversed.j0 k t473 t477 true)) = some r := H
                      have A36 := Aside0.mk A360
                      clear A360
                      by_cases c37 : t497 = true
                      · subst c37
                        have H1 : (if (t473.length : Int) = (t477.length : Int) then (if (t481.length : Int) = (t485.length : Int) then (if t489 = t491 then (galloonlaw01_TrimReversed.j0 k t473 t477 (t493.toList != t495.toList)) else (galloonlaw01_TrimReversed.j0 k t473 t477 true)) else (galloonlaw01_TrimReversed.j0 k t473 t477 true)) else (galloonlaw01_TrimReversed.j0 k t473 t477 true)) = some r := by rw [if_pos rfl] at H; exact H
                        clear H
                        have H := H1
                        clear H1
                        by_cases c38 : (t473.length : Int) = (t477.length : Int)
                        · rw [if_pos c38] at H
                          have c38b0 : ((t473.length : Int) == (t477.length : Int)) = true := beq_iff_eq.mpr c38
                          have c38b1 : ((t473.length : Int) != (t477.length : Int)) = false := bne_eq_false_iff_eq.mpr c38
                          have c38b2 : (t473.length == t477.length) = true := by first | simpa using c38 | (simp at c38 ⊢; omega)
                          clear c38
                          by_cases c39 : (t481.length : Int) = (t485.length : Int)
                          · rw [if_pos c39] at H
                            have c39b0 : ((t481.length : Int) == (t485.length : Int)) = true := beq_iff_eq.mpr c39
                            have c39b1 : ((t481.length : Int) != (t485.length : Int)) = false := bne_eq_false_iff_eq.mpr c39
                            have c39b2 : (t481.length == t485.length) = true := by first | simpa using c39 | (simp at c39 ⊢; omega)
                            clear c39
                            by_cases c40 : t489 = t491
                            · rw [if_pos c40] at H
                              have c40b0 : (t489 == t491) = true := beq_iff_eq.mpr c40
                              have c40b1 : (t489 != t491) = false := bne_eq_false_iff_eq.mpr c40
                              clear c40
                              have H' := Aside0.mk H
                              clear H
                              obtain ⟨Ao41, co41, eo41⟩ := Kd.R_slice HO468.out
                              subst eo41
                              obtain ⟨Ao42, co42, eo42⟩ := Kd.R_slice HO472.out
                              subst eo42
                              go_wp2_with (first | (go_at_call 38; (with_reducible refine (galloonlaw01_texts.calls k _ _ t465 _ _ t469 true _ ?side1 ?side2 ?side3 ?side4 A36.out).mono ?_); (case side1 => repeat (first | exact (Kd.R_reads' HO468.out).2.2 | (with_reducible refine Kd.C_alloc ?_ _) | (with_reducible refine Kd.C_drewN ?_ _) | (with_reducible refine Kd.C_drew ?_))); (case side2 => exact (Kd.R_reads' HO468.out).2.1); (case side3 => repeat (first | exact (Kd.R_reads' HO472.out).2.2 | (with_reducible refine Kd.C_alloc ?_ _) | (with_reducible refine Kd.C_drewN ?_ _) | (with_reducible refine Kd.C_drew ?_))); (case side4 => exact (Kd.R_reads' HO472.out).2.1); rintro e w' ⟨rfl, ⟨nd, rfl⟩⟩; (try first | exact ⟨rfl, _, World.drewN_drewN _ _ _⟩ | exact ⟨rfl, _, Eq.trans (World.drewN_drewN _ _ _) (congrArg (World.drewN _) (Nat.add_assoc _ _ _))⟩); obtain ⟨Ao43, co43, eo43⟩ := Kd.R_slice HO476.out; subst eo43; obtain ⟨Ao44, co44, eo44⟩ := Kd.R_slice HO480.out; subst eo44; obtain ⟨Ao45, co45, eo45⟩ := Kd.R_slice HO484.out; subst eo45; obtain ⟨Ao46, co46, eo46⟩ := Kd.R_slice HO488.out; subst eo46))
                              repeat (go_quiet (first | (go_at_call 38; (with_reducible refine (galloonlaw01_texts.calls k _ _ t465 _ _ t469 true _ ?side1 ?side2 ?side3 ?side4 A36.out).mono ?_); (case side1 => repeat (first | exact (Kd.R_reads' HO468.out).2.2 | (with_reducible refine Kd.C_alloc ?_ _) | (with_reducible refine Kd.C_drewN ?_ _) | (with_reducible refine Kd.C_drew ?_))); (case side2 => exact (Kd.R_reads' HO468.out).2.1); (case side3 => repeat (first | exact (Kd.R_reads' HO472.out).2.2 | (with_reducible refine Kd.C_alloc ?_ _) | (with_reducible refine Kd.C_drewN ?_ _) | (with_reducible refine Kd.C_drew ?_))); (case side4 => exact (Kd.R_reads' HO472.out).2.1); rintro e w' ⟨rfl, ⟨nd, rfl⟩⟩; (try first | exact ⟨rfl, _, World.drewN_drewN _ _ _⟩ | exact ⟨rfl, _, Eq.trans (World.drewN_drewN _ _ _) (congrArg (World.drewN _) (Nat.add_assoc _ _ _))⟩); obtain ⟨Ao43, co43, eo43⟩ := Kd.R_slice HO476.out; subst eo43; obtain ⟨Ao44, co44, eo44⟩ := Kd.R_slice HO480.out; subst eo44; obtain ⟨Ao45, co45, eo45⟩ := Kd.R_slice HO484.out; subst eo45; obtain ⟨Ao46, co46, eo46⟩ := Kd.R_slice HO488.out; subst eo46)); try go_wp2_with (first | (go_at_call 38; (with_reducible refine (galloonlaw01_texts.calls k _ _ t465 _ _ t469 true _ ?side1 ?side2 ?side3 ?side4 A36.out).mono ?_); (case side1 => repeat (first | exact (Kd.R_reads' HO468.out).2.2 | (with_reducible refine Kd.C_alloc ?_ _) | (with_reducible refine Kd.C_drewN ?_ _) | (with_reducible refine Kd.C_drew ?_))); (case side2 => exact (Kd.R_reads' HO468.out).2.1); (case side3 => repeat (first | exact (Kd.R_reads' HO472.out).2.2 | (with_reducible refine Kd.C_alloc ?_ _) | (with_reducible refine Kd.C_drewN ?_ _) | (with_reducible refine Kd.C_drew ?_))); (case side4 => exact (Kd.R_reads' HO472.out).2.1); rintro e w' ⟨rfl, ⟨nd, rfl⟩⟩; (try first | exact ⟨rfl, _, World.drewN_drewN _ _ _⟩ | exact ⟨rfl, _, Eq.trans (World.drewN_drewN _ _ _) (congrArg (World.drewN _) (Nat.add_assoc _ _ _))⟩); obtain ⟨Ao43, co43, eo43⟩ := Kd.R_slice HO476.out; subst eo43; obtain ⟨Ao44, co44, eo44⟩ := Kd.R_slice HO480.out; subst eo44; obtain ⟨Ao45, co45, eo45⟩ := Kd.R_slice HO484.out; subst eo45; obtain ⟨Ao46, co46, eo46⟩ := Kd.R_slice HO488.out; subst eo46)))
                              go_meet
                              case rel => exact ⟨_, ((t493.toList != t495.toList)), (by first | rfl | (simp; done) | (simp [*]; done)), H', ⟨by first | omega | exact Nat.le_refl _⟩, ⟨by (with_reducible repeat (first | apply Kd.R_alloc | apply Kd.R_drewN | apply Kd.R_drew)); exact Kd.R_mono HO476.out (fun _ hk => hk.2)⟩, ⟨by (with_reducible repeat (first | apply Kd.R_alloc | apply Kd.R_drewN | apply Kd.R_drew)); exact Kd.R_mono HO480.out (fun _ hk => hk.2)⟩, ⟨by repeat (first | (with_reducible first | exact HB.out | apply below_alloc | apply pw_below_drewN | apply below_drew1) | exact HB.out)⟩⟩
                            · rw [if_neg c40] at H
                              have c40b0 : (t489 == t491) = false := beq_eq_false_iff_ne.mpr c40
                              have c40b1 : (t489 != t491) = true := bne_iff_ne.mpr c40
                              have H' := Aside0.mk H
                              clear H
                              obtain ⟨Ao47, co47, eo47⟩ := Kd.R_slice HO468.out
                              subst eo47
                              obtain ⟨Ao48, co48, eo48⟩ := Kd.R_slice HO472.out
                              subst eo48
                              go_wp2_with (first | (go_at_call 38; (with_reducible refine (galloonlaw01_texts.calls k _ _ t465 _ _ t469 true _ ?side1 ?side2 ?side3 ?side4 A36.out).mono ?_); (case side1 => repeat (first | exact (Kd.R_reads' HO468.out).2.2 | (with_reducible refine Kd.C_alloc ?_ _) | (with_reducible refine Kd.C_drewN ?_ _) | (with_reducible refine Kd.C_drew ?_))); (case side2 => exact (Kd.R_reads' HO468.out).2.1); (case side3 => repeat (first | exact (Kd.R_reads' HO472.out).2.2 | (with_reducible refine Kd.C_alloc ?_ _) | (with_reducible refine Kd.C_drewN ?_ _) | (with_reducible refine Kd.C_drew ?_))); (case side4 => exact (Kd.R_reads' HO472.out).2.1); rintro e w' ⟨rfl, ⟨nd, rfl⟩⟩; (try first | exact ⟨rfl, _, World.drewN_drewN _ _ _⟩ | exact ⟨rfl, _, Eq.trans (World.drewN_drewN _ _ _) (congrArg (World.drewN _) (Nat.add_assoc _ _ _))⟩); obtain ⟨Ao49, co49, eo49⟩ := Kd.R_slice HO476.out; subst eo49; obtain ⟨Ao50, co50, eo50⟩ := Kd.R_slice HO480.out; subst eo50; obtain ⟨Ao51, co51, eo51⟩ := Kd.R_slice HO484.out; subst eo51; obtain ⟨Ao52, co52, eo52⟩ := Kd.R_slice HO488.out; subst eo52))
                              repeat (go_quiet (first | (go_at_call 38; (with_reducible refine (galloonlaw01_texts.calls k _ _ t465 _ _ t469 true _ ?side1 ?side2 ?side3 ?side4 A36.out).mono ?_); (case side1 => repeat (first | exact (Kd.R_reads' HO468.out).2.2 | (with_reducible refine Kd.C_alloc ?_ _) | (with_reducible refine Kd.C_drewN ?_ _) | (with_reducible refine Kd.C_drew ?_))); (case side2 => exact (Kd.R_reads' HO468.out).2.1); (case side3 => repeat (first | exact (Kd.R_reads' HO472.out).2.2 | (with_reducible refine Kd.C_alloc ?_ _) | (with_reducible refine Kd.C_drewN ?_ _) | (with_reducible refine Kd.C_drew ?_))); (case side4 => exact (Kd.R_reads' HO472.out).2.1); rintro e w' ⟨rfl, ⟨nd, rfl⟩⟩; (try first | exact ⟨rfl, _, World.drewN_drewN _ _ _⟩ | exact ⟨rfl, _, Eq.trans (World.drewN_drewN _ _ _) (congrArg (World.drewN _) (Nat.add_assoc _ _ _))⟩); obtain ⟨Ao49, co49, eo49⟩ := Kd.R_slice HO476.out; subst eo49; obtain ⟨Ao50, co50, eo50⟩ := Kd.R_slice HO480.out; subst eo50; obtain ⟨Ao51, co51, eo51⟩ := Kd.R_slice HO484.out; subst eo51; obtain ⟨Ao52, co52, eo52⟩ := Kd.R_slice HO488.out; subst eo52)); try go_wp2_with (first | (go_at_call 38; (with_reducible refine (galloonlaw01_texts.calls k _ _ t465 _ _ t469 true _ ?side1 ?side2 ?side3 ?side4 A36.out).mono ?_); (case side1 => repeat (first | exact (Kd.R_reads' HO468.out).2.2 | (with_reducible refine Kd.C_alloc ?_ _) | (with_reducible refine Kd.C_drewN ?_ _) | (with_reducible refine Kd.C_drew ?_))); (case side2 => exact (Kd.R_reads' HO468.out).2.1); (case side3 => repeat (first | exact (Kd.R_reads' HO472.out).2.2 | (with_reducible refine Kd.C_alloc ?_ _) | (with_reducible refine Kd.C_drewN ?_ _) | (with_reducible refine Kd.C_drew ?_))); (case side4 => exact (Kd.R_reads' HO472.out).2.1); rintro e w' ⟨rfl, ⟨nd, rfl⟩⟩; (try first | exact ⟨rfl, _, World.drewN_drewN _ _ _⟩ | exact ⟨rfl, _, Eq.trans (World.drewN_drewN _ _ _) (congrArg (World.drewN _) (Nat.add_assoc _ _ _))⟩); obtain ⟨Ao49, co49, eo49⟩ := Kd.R_slice HO476.out; subst eo49; obtain ⟨Ao50, co50, eo50⟩ := Kd.R_slice HO480.out; subst eo50; obtain ⟨Ao51, co51, eo51⟩ := Kd.R_slice HO484.out; subst eo51; obtain ⟨Ao52, co52, eo52⟩ := Kd.R_slice HO488.out; subst eo52)))
                              go_meet
                              case rel => exact ⟨_, (true), (by first | rfl | (simp; done) | (simp [*]; done)), H', ⟨by first | omega | exact Nat.le_refl _⟩, ⟨by (with_reducible repeat (first | apply Kd.R_alloc | apply Kd.R_drewN | apply Kd.R_drew)); exact Kd.R_mono HO476.out (fun _ hk => hk.2)⟩, ⟨by (with_reducible repeat (first | apply Kd.R_alloc | apply Kd.R_drewN | apply Kd.R_drew)); exact Kd.R_mono HO480.out (fun _ hk => hk.2)⟩, ⟨by repeat (first | (with_reducible first | exact HB.out | apply below_alloc | apply pw_below_drewN | apply below_drew1) | exact HB.out)⟩⟩
                          · rw [if_neg c39] at H
                            have c39b0 : ((t481.length : Int) == (t485.length : Int)) = false := beq_eq_false_iff_ne.mpr c39
                            have c39b1 : ((t481.length : Int) != (t485.length : Int)) = true := bne_iff_ne.mpr c39
                            have c39b2 : (t481.length == t485.length) = false := by first | simpa using c39 | (simp at c39 ⊢; omega)
                            have H' := Aside0.mk H
                            clear H
                            obtain ⟨Ao53, co53, eo53⟩ := Kd.R_slice HO468.out
                            subst eo53
                            obtain ⟨Ao54, co54, eo54⟩ := Kd.R_slice HO472.out
                            subst eo54
                            go_wp2_with (first | (go_at_call 38; (with_reducible refine (galloonlaw01_texts.calls k _ _ t465 _ _ t469 true _ ?side1 ?side2 ?side3 ?side4 A36.out).mono ?_); (case side1 => repeat (first | exact (Kd.R_reads' HO468.out).2.2 | (with_reducible refine Kd.C_alloc ?_ _) | (with_reducible refine Kd.C_drewN ?_ _) | (with_reducible refine Kd.C_drew ?_))); (case side2 => exact (Kd.R_reads' HO468.out).2.1); (case side3 => repeat (first | exact (Kd.R_reads' HO472.out).2.2 | (with_reducible refine Kd.C_alloc ?_ _) | (with_reducible refine Kd.C_drewN ?_ _) | (with_reducible refine Kd.C_drew ?_))); (case side4 => exact (Kd.R_reads' HO472.out).2.1); rintro e w' ⟨rfl, ⟨nd, rfl⟩⟩; (try first | exact ⟨rfl, _, World.drewN_drewN _ _ _⟩ | exact ⟨rfl, _, Eq.trans (World.drewN_drewN _ _ _) (congrArg (World.drewN _) (Nat.add_assoc _ _ _))⟩); obtain ⟨Ao55, co55, eo55⟩ := Kd.R_slice HO476.out; subst eo55; obtain ⟨Ao56, co56, eo56⟩ := Kd.R_slice HO480.out; subst eo56; obtain ⟨Ao57, co57, eo57⟩ := Kd.R_slice HO484.out; subst eo57; obtain ⟨Ao58, co58, eo58⟩ := Kd.R_slice HO488.out; subst eo58))
                            repeat (go_quiet (first | (go_at_call 38; (with_reducible refine (galloonlaw01_texts.calls k _ _ t465 _ _ t469 true _ ?side1 ?side2 ?side3 ?side4 A36.out).mono ?_); (case side1 => repeat (first | exact (Kd.R_reads' HO468.out).2.2 | (with_reducible refine Kd.C_alloc ?_ _) | (with_reducible refine Kd.C_drewN ?_ _) | (with_reducible refine Kd.C_drew ?_))); (case side2 => exact (Kd.R_reads' HO468.out).2.1); (case side3 => repeat (first | exact (Kd.R_reads' HO472.out).2.2 | (with_reducible refine Kd.C_alloc ?_ _) | (with_reducible refine Kd.C_drewN ?_ _) | (with_reducible refine Kd.C_drew ?_))); (case side4 => exact (Kd.R_reads' HO472.out).2.1); rintro e w' ⟨rfl, ⟨nd, rfl⟩⟩; (try first | exact ⟨rfl, _, World.drewN_drewN _ _ _⟩ | exact ⟨rfl, _, Eq.trans (World.drewN_drewN _ _ _) (congrArg (World.drewN _) (Nat.add_assoc _ _ _))⟩); obtain ⟨Ao55, co55, eo55⟩ := Kd.R_slice HO476.out; subst eo55; obtain ⟨Ao56, co56, eo56⟩ := Kd.R_slice HO480.out; subst eo56; obtain ⟨Ao57, co57, eo57⟩ := Kd.R_slice HO484.out; subst eo57; obtain ⟨Ao58, co58, eo58⟩ := Kd.R_slice HO488.out; subst eo58)); try go_wp2_with (first | (go_at_call 38; (with_reducible refine (galloonlaw01_texts.calls k _ _ t465 _ _ t469 true _ ?side1 ?side2 ?side3 ?side4 A36.out).mono ?_); (case side1 => repeat (first | exact (Kd.R_reads' HO468.out).2.2 | (with_reducible refine Kd.C_alloc ?_ _) | (with_reducible refine Kd.C_drewN ?_ _) | (with_reducible refine Kd.C_drew ?_))); (case side2 => exact (Kd.R_reads' HO468.out).2.1); (case side3 => repeat (first | exact (Kd.R_reads' HO472.out).2.2 | (with_reducible refine Kd.C_alloc ?_ _) | (with_reducible refine Kd.C_drewN ?_ _) | (with_reducible refine Kd.C_drew ?_))); (case side4 => exact (Kd.R_reads' HO472.out).2.1); rintro e w' ⟨rfl, ⟨nd, rfl⟩⟩; (try first | exact ⟨rfl, _, World.drewN_drewN _ _ _⟩ | exact ⟨rfl, _, Eq.trans (World.drewN_drewN _ _ _) (congrArg (World.drewN _) (Nat.add_assoc _ _ _))⟩); obtain ⟨Ao55, co55, eo55⟩ := Kd.R_slice HO476.out; subst eo55; obtain ⟨Ao56, co56, eo56⟩ := Kd.R_slice HO480.out; subst eo56; obtain ⟨Ao57, co57, eo57⟩ := Kd.R_slice HO484.out; subst eo57; obtain ⟨Ao58, co58, eo58⟩ := Kd.R_slice HO488.out; subst eo58)))
                            go_meet
                            case rel => exact ⟨_, (true), (by first | rfl | (simp; done) | (simp [*]; done)), H', ⟨by first | omega | exact Nat.le_refl _⟩, ⟨by (with_reducible repeat (first | apply Kd.R_alloc | apply Kd.R_drewN | apply Kd.R_drew)); exact Kd.R_mono HO476.out (fun _ hk => hk.2)⟩, ⟨by (with_reducible repeat (first | apply Kd.R_alloc | apply Kd.R_drewN | apply Kd.R_drew)); exact Kd.R_mono HO480.out (fun _ hk => hk.2)⟩, ⟨by repeat (first | (with_reducible first | exact HB.out | apply below_alloc | apply pw_below_drewN | apply below_drew1) | exact HB.out)⟩⟩
                        · rw [if_neg c38] at H
                          have c38b0 : ((t473.length : Int) == (t477.length : Int)) = false := beq_eq_false_iff_ne.mpr c38
                          have c38b1 : ((t473.length : Int) != (t477.length : Int)) = true := bne_iff_ne.mpr c38
                          have c38b2 : (t473.length == t477.length) = false := by first | simpa using c38 | (simp at c38 ⊢; omega)
                          have H' := Aside0.mk H
                          clear H
                          obtain ⟨Ao59, co59, eo59⟩ := Kd.R_slice HO468.out
                          subst eo59
                          obtain ⟨Ao60, co60, eo60⟩ := Kd.R_slice HO472.out
                          subst eo60
                          go_wp2_with (first | (go_at_call 38; (with_reducible refine (galloonlaw01_texts.calls k _ _ t465 _ _ t469 true _ ?side1 ?side2 ?side3 ?side4 A36.out).mono ?_); (case side1 => repeat (first | exact (Kd.R_reads' HO468.out).2.2 | (with_reducible refine Kd.C_alloc ?_ _) | (with_reducible refine Kd.C_drewN ?_ _) | (with_reducible refine Kd.C_drew ?_))); (case side2 => exact (Kd.R_reads' HO468.out).2.1); (case side3 => repeat (first | exact (Kd.R_reads' HO472.out).2.2 | (with_reducible refine Kd.C_alloc ?_ _) | (with_reducible refine Kd.C_drewN ?_ _) | (with_reducible refine Kd.C_drew ?_))); (case side4 => exact (Kd.R_reads' HO472.out).2.1); rintro e w' ⟨rfl, ⟨nd, rfl⟩⟩; (try first | exact ⟨rfl, _, World.drewN_drewN _ _ _⟩ | exact ⟨rfl, _, Eq.trans (World.drewN_drewN _ _ _) (congrArg (World.drewN _) (Nat.add_assoc _ _ _))⟩); obtain ⟨Ao61, co61, eo61⟩ := Kd.R_slice HO476.out; subst eo61; obtain ⟨Ao62, co62, eo62⟩ := Kd.R_slice HO480.out; subst eo62))
                          repeat (go_quiet (first | (go_at_call 38; (with_reducible refine (galloonlaw01_texts.calls k _ _ t465 _ _ t469 true _ ?side1 ?side2 ?side3 ?side4 A36.out).mono ?_); (case side1 => repeat (first | exact (Kd.R_reads' HO468.out).2.2 | (with_reducible refine Kd.C_alloc ?_ _) | (with_reducible refine Kd.C_drewN ?_ _) | (with_reducible refine Kd.C_drew ?_))); (case side2 => exact (Kd.R_reads' HO468.out).2.1); (case side3 => repeat (first | exact (Kd.R_reads' HO472.out).2.2 | (with_reducible refine Kd.C_alloc ?_ _) | (with_reducible refine Kd.C_drewN ?_ _) | (with_reducible refine Kd.C_drew ?_))); (case side4 => exact (Kd.R_reads' HO472.out).2.1); rintro e w' ⟨rfl, ⟨nd, rfl⟩⟩; (try first | exact ⟨rfl, _, World.drewN_drewN _ _ _⟩ | exact ⟨rfl, _, Eq.trans (World.drewN_drewN _ _ _) (congrArg (World.drewN _) (Nat.add_assoc _ _ _))⟩); obtain ⟨Ao61, co61, eo61⟩ := Kd.R_slice HO476.out; subst eo61; obtain ⟨Ao62, co62, eo62⟩ := Kd.R_slice HO480.out; subst eo62)); try go_wp2_with (first | (go_at_call 38; (with_reducible refine (galloonlaw01_texts.calls k _ _ t465 _ _ t469 true _ ?side1 ?side2 ?side3 ?side4 A36.out).mono ?_); (case side1 => repeat (first | exact (Kd.R_reads' HO468.out).2.2 | (with_reducible refine Kd.C_alloc ?_ _) | (with_reducible refine Kd.C_drewN ?_ _) | (with_reducible refine Kd.C_drew ?_))); (case side2 => exact (Kd.R_reads' HO468.out).2.1); (case side3 => repeat (first | exact (Kd.R_reads' HO472.out).2.2 | (with_reducible refine Kd.C_alloc ?_ _) | (with_reducible refine Kd.C_drewN ?_ _) | (with_reducible refine Kd.C_drew ?_))); (case side4 => exact (Kd.R_reads' HO472.out).2.1); rintro e w' ⟨rfl, ⟨nd, rfl⟩⟩; (try first | exact ⟨rfl, _, World.drewN_drewN _ _ _⟩ | exact ⟨rfl, _, Eq.trans (World.drewN_drewN _ _ _) (congrArg (World.drewN _) (Nat.add_assoc _ _ _))⟩); obtain ⟨Ao61, co61, eo61⟩ := Kd.R_slice HO476.out; subst eo61; obtain ⟨Ao62, co62, eo62⟩ := Kd.R_slice HO480.out; subst eo62)))
                          go_meet
                          case rel => exact ⟨_, (true), (by first | rfl | (simp; done) | (simp [*]; done)), H', ⟨by first | omega | exact Nat.le_refl _⟩, ⟨by (with_reducible repeat (first | apply Kd.R_alloc | apply Kd.R_drewN | apply Kd.R_drew)); exact Kd.R_mono HO476.out (fun _ hk => hk.2)⟩, ⟨by (with_reducible repeat (first | apply Kd.R_alloc | apply Kd.R_drewN | apply Kd.R_drew)); exact Kd.R_mono HO480.out (fun _ hk => hk.2)⟩, ⟨by repeat (first | (with_reducible first | exact HB.out | apply below_alloc | apply pw_below_drewN | apply below_drew1) | exact HB.out)⟩⟩
                      · replace c37 := Bool.eq_false_iff.mpr c37
                        subst c37
                        have H1 : (galloonlaw01_TrimReversed.j0 k t473 t477 true) = some r := by rw [if_neg (show ¬ (false = true) by decide)] at H; exact H
                        clear H
                        have H := H1
                        clear H1
                        have H' := Aside0.mk H
                        clear H
                        obtain ⟨Ao63, co63, eo63⟩ := Kd.R_slice HO468.out
                        subst eo63
                        obtain ⟨Ao64, co64, eo64⟩ := Kd.R_slice HO472.out
                        subst eo64
                        go_wp2_with (first | (go_at_call 38; (with_reducible refine (galloonlaw01_texts.calls k _ _ t465 _ _ t469 false _ ?side1 ?side2 ?side3 ?side4 A36.out).mono ?_); (case side1 => repeat (first | exact (Kd.R_reads' HO468.out).2.2 | (with_reducible refine Kd.C_alloc ?_ _) | (with_reducible refine Kd.C_drewN ?_ _) | (with_reducible refine Kd.C_drew ?_))); (case side2 => exact (Kd.R_reads' HO468.out).2.1); (case side3 => repeat (first | exact (Kd.R_reads' HO472.out).2.2 | (with_reducible refine Kd.C_alloc ?_ _) | (with_reducible refine Kd.C_drewN ?_ _) | (with_reducible refine Kd.C_drew ?_))); (case side4 => exact (Kd.R_reads' HO472.out).2.1); rintro e w' ⟨rfl, ⟨nd, rfl⟩⟩; (try first | exact ⟨rfl, _, World.drewN_drewN _ _ _⟩ | exact ⟨rfl, _, Eq.trans (World.drewN_drewN _ _ _) (congrArg (World.drewN _) (Nat.add_assoc _ _ _))⟩)))
                        repeat (go_quiet (first | (go_at_call 38; (with_reducible refine (galloonlaw01_texts.calls k _ _ t465 _ _ t469 false _ ?side1 ?side2 ?side3 ?side4 A36.out).mono ?_); (case side1 => repeat (first | exact (Kd.R_reads' HO468.out).2.2 | (with_reducible refine Kd.C_alloc ?_ _) | (with_reducible refine Kd.C_drewN ?_ _) | (with_reducible refine Kd.C_drew ?_))); (case side2 => exact (Kd.R_reads' HO468.out).2.1); (case side3 => repeat (first | exact (Kd.R_reads' HO472.out).2.2 | (with_reducible refine Kd.C_alloc ?_ _) | (with_reducible refine Kd.C_drewN ?_ _) | (with_reducible refine Kd.C_drew ?_))); (case side4 => exact (Kd.R_reads' HO472.out).2.1); rintro e w' ⟨rfl, ⟨nd, rfl⟩⟩; (try first | exact ⟨rfl, _, World.drewN_drewN _ _ _⟩ | exact ⟨rfl, _, Eq.trans (World.drewN_drewN _ _ _) (congrArg (World.drewN _) (Nat.add_assoc _ _ _))⟩))); try go_wp2_with (first | (go_at_call 38; (with_reducible refine (galloonlaw01_texts.calls k _ _ t465 _ _ t469 false _ ?side1 ?side2 ?side3 ?side4 A36.out).mono ?_); (case side1 => repeat (first | exact (Kd.R_reads' HO468.out).2.2 | (with_reducible refine Kd.C_alloc ?_ _) | (with_reducible refine Kd.C_drewN ?_ _) | (with_reducible refine Kd.C_drew ?_))); (case side2 => exact (Kd.R_reads' HO468.out).2.1); (case side3 => repeat (first | exact (Kd.R_reads' HO472.out).2.2 | (with_reducible refine Kd.C_alloc ?_ _) | (with_reducible refine Kd.C_drewN ?_ _) | (with_reducible refine Kd.C_drew ?_))); (case side4 => exact (Kd.R_reads' HO472.out).2.1); rintro e w' ⟨rfl, ⟨nd, rfl⟩⟩; (try first | exact ⟨rfl, _, World.drewN_drewN _ _ _⟩ | exact ⟨rfl, _, Eq.trans (World.drewN_drewN _ _ _) (congrArg (World.drewN _) (Nat.add_assoc _ _ _))⟩))))
                        go_meet
                        case rel => exact ⟨_, (true), (by first | rfl | (simp; done) | (simp [*]; done)), H', ⟨by first | omega | exact Nat.le_refl _⟩, ⟨by (with_reducible repeat (first | apply Kd.R_alloc | apply Kd.R_drewN | apply Kd.R_drew)); exact Kd.R_mono HO476.out (fun _ hk => hk.2)⟩, ⟨by (with_reducible repeat (first | apply Kd.R_alloc | apply Kd.R_drewN | apply Kd.R_drew)); exact Kd.R_mono HO480.out (fun _ hk => hk.2)⟩, ⟨by repeat (first | (with_reducible first | exact HB.out | apply below_alloc | apply pw_below_drewN | apply below_drew1) | exact HB.out)⟩⟩
                    · rw [if_neg c35] at H
                      have c35b0 : (t496 == 0) = false := beq_eq_false_iff_ne.mpr c35
                      have c35b1 : (t496 != 0) = true := bne_iff_ne.mpr c35
                      have H' := Aside0.mk H
                      clear H
                      go_wp2
                      repeat (go_quiet (fail); try go_wp2)
                      go_meet
                      case rel => exact ⟨_, (true), (by first | rfl | (simp; done) | (simp [*]; done)), H', ⟨by first | omega | exact Nat.le_refl _⟩, ⟨by (with_reducible repeat (first | apply Kd.R_alloc | apply Kd.R_drewN | apply Kd.R_drew)); exact Kd.R_mono HO476.out (fun _ hk => hk.2)⟩, ⟨by (with_reducible repeat (first | apply Kd.R_alloc | apply Kd.R_drewN | apply Kd.R_drew)); exact Kd.R_mono HO480.out (fun _ hk => hk.2)⟩, ⟨by repeat (first | (with_reducible first | exact HB.out | apply below_alloc | apply pw_below_drewN | apply below_drew1) | exact HB.out)⟩⟩
                  · rw [if_neg c34] at H
                    have c34b0 : (t494 == 0) = false := beq_eq_false_iff_ne.mpr c34
                    have c34b1 : (t494 != 0) = true := bne_iff_ne.mpr c34
                    have H' := Aside0.mk H
                    clear H
                    go_wp2
                    repeat (go_quiet (fail); try go_wp2)
                    go_meet
                    case rel => exact ⟨_, (true), (by first | rfl | (simp; done) | (simp [*]; done)), H', ⟨by first | omega | exact Nat.le_refl _⟩, ⟨by (with_reducible repeat (first | apply Kd.R_alloc | apply Kd.R_drewN | apply Kd.R_drew)); exact Kd.R_mono HO476.out (fun _ hk => hk.2)⟩, ⟨by (with_reducible repeat (first | apply Kd.R_alloc | apply Kd.R_drewN | apply Kd.R_drew)); exact Kd.R_mono HO480.out (fun _ hk => hk.2)⟩, ⟨by repeat (first | (with_reducible first | exact HB.out | apply below_alloc | apply pw_below_drewN | apply below_drew1) | exact HB.out)⟩⟩
                · rw [if_neg c33] at H
                  have c33b0 : (t490 == t492) = false := beq_eq_false_iff_ne.mpr c33
                  have c33b1 : (t490 != t492) = true := bne_iff_ne.mpr c33
                  have H' := Aside0.mk H
                  clear H
                  go_wp2
                  repeat (go_quiet (fail); try go_wp2)
                  go_meet
                  case rel => exact ⟨_, (true), (by first | rfl | (simp; done) | (simp [*]; done)), H', ⟨by first | omega | exact Nat.le_refl _⟩, ⟨by (with_reducible repeat (first | apply Kd.R_alloc | apply Kd.R_drewN | apply Kd.R_drew)); exact Kd.R_mono HO476.out (fun _ hk => hk.2)⟩, ⟨by (with_reducible repeat (first | apply Kd.R_alloc | apply Kd.R_drewN | apply Kd.R_drew)); exact Kd.R_mono HO480.out (fun _ hk => hk.2)⟩, ⟨by repeat (first | (with_reducible first | exact HB.out | apply below_alloc | apply pw_below_drewN | apply below_drew1) | exact HB.out)⟩⟩
              · rw [if_neg c32] at H
                have c32b0 : (t486 == 0) = false := beq_eq_false_iff_ne.mpr c32
                have c32b1 : (t486 != 0) = true := bne_iff_ne.mpr c32
                have H' := Aside0.mk H
                clear H
                go_wp2
                repeat (go_quiet (fail); try go_wp2)
                go_meet
                case rel => exact ⟨_, (true), (by first | rfl | (simp; done) | (simp [*]; done)), H', ⟨by first | omega | exact Nat.le_refl _⟩, ⟨by (with_reducible repeat (first | apply Kd.R_alloc | apply Kd.R_drewN | apply Kd.R_drew)); exact Kd.R_mono HO476.out (fun _ hk => hk.2)⟩, ⟨by (with_reducible repeat (first | apply Kd.R_alloc | apply Kd.R_drewN | apply Kd.R_drew)); exact Kd.R_mono HO480.out (fun _ hk => hk.2)⟩, ⟨by repeat (first | (with_reducible first | exact HB.out | apply below_alloc | apply pw_below_drewN | apply below_drew1) | exact HB.out)⟩⟩
            · rw [if_neg c31] at H
              have c31b0 : (t482 == 0) = false := beq_eq_false_iff_ne.mpr c31
              have c31b1 : (t482 != 0) = true := bne_iff_ne.mpr c31
              have H' := Aside0.mk H
              clear H
              go_wp2
              repeat (go_quiet (fail); try go_wp2)
              go_meet
              case rel => exact ⟨_, (true), (by first | rfl | (simp; done) | (simp [*]; done)), H', ⟨by first | omega | exact Nat.le_refl _⟩, ⟨by (with_reducible repeat (first | apply Kd.R_alloc | apply Kd.R_drewN | apply Kd.R_drew)); exact Kd.R_mono HO476.out (fun _ hk => hk.2)⟩, ⟨by (with_reducible repeat (first | apply Kd.R_alloc | apply Kd.R_drewN | apply Kd.R_drew)); exact Kd.R_mono HO480.out (fun _ hk => hk.2)⟩, ⟨by repeat (first | (with_reducible first | exact HB.out | apply below_alloc | apply pw_below_drewN | apply below_drew1) | exact HB.out)⟩⟩
          · rw [if_neg c30] at H
            have c30b0 : (t478 == 0) = false := beq_eq_false_iff_ne.mpr c30
            have c30b1 : (t478 != 0) = true := bne_iff_ne.mpr c30
            have H' := Aside0.mk H
            clear H
            go_wp2
            repeat (go_quiet (fail); try go_wp2)
            go_meet
            case rel => exact ⟨_, (true), (by first | rfl | (simp; done) | (simp [*]; done)), H', ⟨by first | omega | exact Nat.le_refl _⟩, ⟨by (with_reducible repeat (first | apply Kd.R_alloc | apply Kd.R_drewN | apply Kd.R_drew)); exact Kd.R_mono HO476.out (fun _ hk => hk.2)⟩, ⟨by (with_reducible repeat (first | apply Kd.R_alloc | apply Kd.R_drewN | apply Kd.R_drew)); exact Kd.R_mono HO480.out (fun _ hk => hk.2)⟩, ⟨by repeat (first | (with_reducible first | exact HB.out | apply below_alloc | apply pw_below_drewN | apply below_drew1) | exact HB.out)⟩⟩
        · rw [if_neg c29] at H
          have c29b0 : (t474 == 0) = false := beq_eq_false_iff_ne.mpr c29
          have c29b1 : (t474 != 0) = true := bne_iff_ne.mpr c29
          have H' := Aside0.mk H
          clear H
          go_wp2
          repeat (go_quiet (fail); try go_wp2)
          go_meet
          case rel => exact ⟨_, (true), (by first | rfl | (simp; done) | (simp [*]; done)), H', ⟨by first | omega | exact Nat.le_refl _⟩, ⟨by (with_reducible repeat (first | apply Kd.R_alloc | apply Kd.R_drewN | apply Kd.R_drew)); exact Kd.R_mono HO476.out (fun _ hk => hk.2)⟩, ⟨by (with_reducible repeat (first | apply Kd.R_alloc | apply Kd.R_drewN | apply Kd.R_drew)); exact Kd.R_mono HO480.out (fun _ hk => hk.2)⟩, ⟨by repeat (first | (with_reducible first | exact HB.out | apply below_alloc | apply pw_below_drewN | apply below_drew1) | exact HB.out)⟩⟩
      · rw [if_neg c28] at H
        have c28b0 : (t470 == 0) = false := beq_eq_false_iff_ne.mpr c28
        have c28b1 : (t470 != 0) = true := bne_iff_ne.mpr c28
        have H' := Aside0.mk H
        clear H
        go_wp2
        repeat (go_quiet (fail); try go_wp2)
        go_meet
        case rel => exact ⟨_, (true), (by first | rfl | (simp; done) | (simp [*]; done)), H', ⟨by first | omega | exact Nat.le_refl _⟩, ⟨by (with_reducible repeat (first | apply Kd.R_alloc | apply Kd.R_drewN | apply Kd.R_drew)); exact Kd.R_mono HO476.out (fun _ hk => hk.2)⟩, ⟨by (with_reducible repeat (first | apply Kd.R_alloc | apply Kd.R_drewN | apply Kd.R_drew)); exact Kd.R_mono HO480.out (fun _ hk => hk.2)⟩, ⟨by repeat (first | (with_reducible first | exact HB.out | apply below_alloc | apply pw_below_drewN | apply below_drew1) | exact HB.out)⟩⟩
    · rw [if_neg c27] at H
      have c27b0 : (t466 == 0) = false := beq_eq_false_iff_ne.mpr c27
      have c27b1 : (t466 != 0) = true := bne_iff_ne.mpr c27
      (first | rw [c27b0] | (simp only [i64_w, i32_w]; rw [c27b0]) | skip)
      have H' := Aside0.mk H
      clear H
      go_wp2
      repeat (go_quiet (fail); try go_wp2)
      go_meet
      case rel => exact ⟨_, (true), (by first | rfl | (simp; done) | (simp [*]; done)), H', ⟨by first | omega | exact Nat.le_refl _⟩, ⟨by (with_reducible repeat (first | apply Kd.R_alloc | apply Kd.R_drewN | apply Kd.R_drew)); exact Kd.R_mono HO476.out (fun _ hk => hk.2)⟩, ⟨by (with_reducible repeat (first | apply Kd.R_alloc | apply Kd.R_drewN | apply Kd.R_drew)); exact Kd.R_mono HO480.out (fun _ hk => hk.2)⟩, ⟨by repeat (first | (with_reducible first | exact HB.out | apply below_alloc | apply pw_below_drewN | apply below_drew1) | exact HB.out)⟩⟩
  case rest =>
    clear HC14
    try clear c1
    try clear c2
    try clear p2
    try clear c3
    try clear c4
    try clear c10
    try clear c27
    try clear c27b0
    try clear c27b1
    try clear c28
    try clear c28b0
    try clear c28b1
    try clear c29
    try clear c29b0
    try clear c29b1
    try clear c30
    try clear c30b0
    try clear c30b1
    try clear c31
    try clear c31b0
    try clear c31b1
    try clear c32
    try clear c32b0
    try clear c32b1
    try clear c33
    try clear c33b0
    try clear c33b1
    try clear c34
    try clear c34b0
    try clear c34b1
    try clear c35
    try clear c35b0
    try clear c35b1
    try clear c37
    try clear c38
    try clear c38b0
    try clear c38b1
    try clear c38b2
    try clear c39
    try clear c39b0
    try clear c39b1
    try clear c39b2
    try clear c40
    try clear c40b0
    try clear c40b1
    obtain ⟨kq, x144_13, rfl, HA, HJ13, HO_9, HO_11, HB⟩ := hcut
    cases kq with
    | zero => exact absurd HA.out (by simp [galloonlaw01_TrimReversed.j0])
    | succ kj13 =>
      have H := HA.out
      clear HA
      simp only [galloonlaw01_TrimReversed.j0] at H
      by_cases c65 : x144_13 = true
      · subst c65
        have H1 : (some false) = some r := by rw [if_pos rfl] at H; exact H
        clear H
        have H := H1
        clear H1
        obtain rfl := Option.some.inj H
        exact absurd hr.out (by decide)
      · replace c65 := Bool.eq_false_iff.mpr c65
        subst c65
        have H1 : (galloonlaw01_TrimReversed.l0 kj13 t473 t477 0) = some r := by rw [if_neg (show ¬ (false = true) by decide)] at H; exact H
        clear H
        have H := H1
        clear H1
        have H' := Aside0.mk H
        clear H
        go_wp2
        repeat (go_quiet (fail); try go_wp2)
        go_loopg [25] kj13 (fun kq v25 w' => ∃ (x25_2 : Int), v25 = .int .i64 x25_2 ∧ Aside0 (galloonlaw01_TrimReversed.l0 kq t473 t477 x25_2 = some r) ∧ Aside0 (kq ≤ kj13) ∧ Aside0 (Kd.R (Kd.int .i64) 3 w' w.heap.size (fun k_ => some k_ ≠ (v479 : Value).ownBlock) v475 t473) ∧ Aside0 (Kd.R (Kd.int .i64) 3 w' w.heap.size (fun k_ => some k_ ≠ (v475 : Value).ownBlock) v479 t477) ∧ Aside0 (Below w.heap.size w w'))
        case atStart => exact ⟨(0), (by first | rfl | (simp; done) | (simp [*]; done)), H', ⟨Nat.le_refl _⟩, ⟨by (with_reducible repeat (first | apply Kd.R_alloc | apply Kd.R_drewN | apply Kd.R_drew)); exact HO_9.out⟩, ⟨by (with_reducible repeat (first | apply Kd.R_alloc | apply Kd.R_drewN | apply Kd.R_drew)); exact HO_11.out⟩, ⟨by repeat (first | (with_reducible first | exact HB.out | apply below_alloc | apply pw_below_drewN | apply below_drew1) | exact HB.out)⟩⟩
        case round =>
          clear H'
          try clear c1
          try clear c2
          try clear p2
          try clear c3
          try clear c4
          try clear c6
          try clear c10
          try clear c27
          try clear c27b0
          try clear c27b1
          try clear c28
          try clear c28b0
          try clear c28b1
          try clear c29
          try clear c29b0
          try clear c29b1
          try clear c30
          try clear c30b0
          try clear c30b1
          try clear c31
          try clear c31b0
          try clear c31b1
          try clear c32
          try clear c32b0
          try clear c32b1
          try clear c33
          try clear c33b0
          try clear c33b1
          try clear c34
          try clear c34b0
          try clear c34b1
          try clear c35
          try clear c35b0
          try clear c35b1
          try clear c37
          try clear c38
          try clear c38b0
          try clear c38b1
          try clear c38b2
          try clear c39
          try clear c39b0
          try clear c39b1
          try clear c39b2
          try clear c40
          try clear c40b0
          try clear c40b1
          try clear c65
          try clear p2
          obtain ⟨x25_2, rfl, HA, HK2, HO_9, HO_11, HB⟩ := hrel
          cases gk with
          | zero => exact absurd HA.out (by simp [galloonlaw01_TrimReversed.l0])
          | succ k2 =>
            have H := HA.out
            clear HA
            simp only [galloonlaw01_TrimReversed.l0] at H
            by_cases c66 : x25_2 < (t473.length : Int)
            · rw [if_pos c66] at H
              have c66b0 : decide (x25_2 < (t473.length : Int)) = true := decide_eq_true c66
              clear c66
              by_cases c67 : 0 ≤ x25_2
              · rw [if_pos c67] at H
                have c67b0 : decide (0 ≤ x25_2) = true := decide_eq_true c67
                clear c67
                obtain ⟨ji68, hji68⟩ : ∃ j_ : Int, (wrap64 ((wrap64 ((t477.length : Int) - 1)) - x25_2)) = j_ := ⟨_, rfl⟩
                replace H : (if 0 ≤ (ji68) then (if (ji68) < (t477.length : Int) then (if (rd t473 x25_2) = (rd t477 (ji68)) then (galloonlaw01_TrimReversed.l0 k2 t473 t477 (wrap64 (x25_2 + 1))) else (some false)) else (none)) else (none)) = some r := by first | (rw [hji68] at H; exact H) | (simp only [hji68] at H ⊢; exact H)
                have hji68w : (IntKind.i64.wrap ((wrap64 ((t477.length : Int) - 1)) - x25_2)) = ji68 := (i64_w _).trans hji68
                by_cases c69 : 0 ≤ (ji68)
                · rw [if_pos c69] at H
                  have c69b0 : decide (0 ≤ (ji68)) = true := decide_eq_true c69
                  clear c69
                  by_cases c70 : (ji68) < (t477.length : Int)
                  · rw [if_pos c70] at H
                    have c70b0 : decide ((ji68) < (t477.length : Int)) = true := decide_eq_true c70
                    clear c70
                    by_cases c71 : (rd t473 x25_2) = (rd t477 (ji68))
                    · rw [if_pos c71] at H
                      have c71b0 : ((rd t473 x25_2) == (rd t477 (ji68))) = true := beq_iff_eq.mpr c71
                      have c71b1 : ((rd t473 x25_2) != (rd t477 (ji68))) = false := bne_eq_false_iff_eq.mpr c71
                      clear c71
                      have H' := Aside0.mk H
                      clear H
                      obtain ⟨Ao72, co72, eo72⟩ := Kd.R_slice HO_9.out
                      subst eo72
                      have p498 : 0 ≤ (x25_2 : Int) := of_decide_eq_true (by first | (with_reducible assumption) | assumption)
                      have q498 : x25_2 < (t473.length : Int) := of_decide_eq_true (by first | (with_reducible assumption) | assumption)
                      obtain ⟨ad498, e498, hx498_0⟩ := Kd.at_int (Kd.R_reads' HO_9.out).2.2 x25_2 p498 q498
                      cases e498
                      replace p498 := eq_true p498
                      replace q498 := eq_true q498
                      obtain ⟨Ao73, co73, eo73⟩ := Kd.R_slice HO_11.out
                      subst eo73
                      have p499 : 0 ≤ ((ji68) : Int) := of_decide_eq_true (by first | (with_reducible assumption) | assumption)
                      have q499 : (ji68) < (t477.length : Int) := of_decide_eq_true (by first | (with_reducible assumption) | assumption)
                      obtain ⟨ad499, e499, hx499_0⟩ := Kd.at_int (Kd.R_reads' HO_11.out).2.2 (ji68) p499 q499
                      cases e499
                      replace p499 := eq_true p499
                      replace q499 := eq_true q499
                      go_wp2
                      repeat (go_quiet (fail); try go_wp2)
                      go_roundg k2
                      case measure => have := HJ13.out; have := HK2.out; omega
                      case rel => exact ⟨(wrap64 (x25_2 + 1)), (by first | rfl | (simp; done) | (simp [*]; done)), H', ⟨by have := HJ13.out; have := HK2.out; omega⟩, ⟨by (with_reducible repeat (first | apply Kd.R_alloc | apply Kd.R_drewN | apply Kd.R_drew)); exact HO_9.out⟩, ⟨by (with_reducible repeat (first | apply Kd.R_alloc | apply Kd.R_drewN | apply Kd.R_drew)); exact HO_11.out⟩, ⟨by repeat (first | (with_reducible first | exact HB.out | apply below_alloc | apply pw_below_drewN | apply below_drew1) | exact HB.out)⟩⟩
                    · rw [if_neg c71] at H
                      have c71b0 : ((rd t473 x25_2) == (rd t477 (ji68))) = false := beq_eq_false_iff_ne.mpr c71
                      have c71b1 : ((rd t473 x25_2) != (rd t477 (ji68))) = true := bne_iff_ne.mpr c71
                      obtain rfl := Option.some.inj H
                      exact absurd hr.out (by decide)
                  · rw [if_neg c70] at H
                    exact absurd H (by simp)
                · rw [if_neg c69] at H
                  exact absurd H (by simp)
              · rw [if_neg c67] at H
                exact absurd H (by simp)
            · rw [if_neg c66] at H
              have c66b0 : decide (x25_2 < (t473.length : Int)) = false := decide_eq_false c66
              clear c66
              replace H := Option.bind_eq_some_iff.mp H
              obtain ⟨t500, A740, H⟩ := H
              replace H : (some t500) = some r := H
              have A74 := Aside0.mk A740
              clear A740
              obtain rfl := Option.some.inj H
              obtain ⟨Ao75, co75, eo75⟩ := Kd.R_slice HO_9.out
              subst eo75
              go_wp2_with (first | (go_at_call 20; (with_reducible refine (galloonlaw01_awake.calls k2  t500 _ A74.out (Glob.at hg (by repeat (first | (with_reducible first | exact HB.out | apply below_alloc | apply pw_below_drewN | apply below_drew1) | exact HB.out)))).mono ?_); rintro e w76 ⟨rfl, hb⟩; have n0_ := Aside0.mk (Kd.R_below (by (with_reducible repeat (first | apply Kd.R_alloc | apply Kd.R_drewN | apply Kd.R_drew)); exact HO_9.out) hb); have n1_ := Aside0.mk (Kd.R_below (by (with_reducible repeat (first | apply Kd.R_alloc | apply Kd.R_drewN | apply Kd.R_drew)); exact HO_11.out) hb); have n2_ := Aside0.mk (below_step (by repeat (first | (with_reducible first | exact HB.out | apply below_alloc | apply pw_below_drewN | apply below_drew1) | exact HB.out)) hb); clear HO_9; clear HO_11; clear HB; have HO_9 := n0_; have HO_11 := n1_; have HB := n2_; clear n0_ n1_ n2_; (try clear hb); (try clear hb2); (try clear hk); (try clear hi)))
              repeat (go_quiet (first | (go_at_call 20; (with_reducible refine (galloonlaw01_awake.calls k2  t500 _ A74.out (Glob.at hg (by repeat (first | (with_reducible first | exact HB.out | apply below_alloc | apply pw_below_drewN | apply below_drew1) | exact HB.out)))).mono ?_); rintro e w76 ⟨rfl, hb⟩; have n0_ := Aside0.mk (Kd.R_below (by (with_reducible repeat (first | apply Kd.R_alloc | apply Kd.R_drewN | apply Kd.R_drew)); exact HO_9.out) hb); have n1_ := Aside0.mk (Kd.R_below (by (with_reducible repeat (first | apply Kd.R_alloc | apply Kd.R_drewN | apply Kd.R_drew)); exact HO_11.out) hb); have n2_ := Aside0.mk (below_step (by repeat (first | (with_reducible first | exact HB.out | apply below_alloc | apply pw_below_drewN | apply below_drew1) | exact HB.out)) hb); clear HO_9; clear HO_11; clear HB; have HO_9 := n0_; have HO_11 := n1_; have HB := n2_; clear n0_ n1_ n2_; (try clear hb); (try clear hb2); (try clear hk); (try clear hi))); try go_wp2_with (first | (go_at_call 20; (with_reducible refine (galloonlaw01_awake.calls k2  t500 _ A74.out (Glob.at hg (by repeat (first | (with_reducible first | exact HB.out | apply below_alloc | apply pw_below_drewN | apply below_drew1) | exact HB.out)))).mono ?_); rintro e w76 ⟨rfl, hb⟩; have n0_ := Aside0.mk (Kd.R_below (by (with_reducible repeat (first | apply Kd.R_alloc | apply Kd.R_drewN | apply Kd.R_drew)); exact HO_9.out) hb); have n1_ := Aside0.mk (Kd.R_below (by (with_reducible repeat (first | apply Kd.R_alloc | apply Kd.R_drewN | apply Kd.R_drew)); exact HO_11.out) hb); have n2_ := Aside0.mk (below_step (by repeat (first | (with_reducible first | exact HB.out | apply below_alloc | apply pw_below_drewN | apply below_drew1) | exact HB.out)) hb); clear HO_9; clear HO_11; clear HB; have HO_9 := n0_; have HO_11 := n1_; have HB := n2_; clear n0_ n1_ n2_; (try clear hb); (try clear hb2); (try clear hk); (try clear hi))))
              go_ret
              exact ⟨by first | rfl | (simp [errW_none, errW_some] <;> rfl) | (simp [*, errW_none, errW_some] <;> rfl), by repeat (first | (with_reducible first | exact HB.out | apply below_alloc | apply pw_below_drewN | apply below_drew1) | exact HB.out)⟩

/-- THE ONE PURE STATEMENT of galloonlaw01_TrimReversed: yours. -/
def galloonlaw01_TrimReversed.Pure : Prop := ∀ (a0 : ByteArray), a0.size ≤ 140737488351232 → ∃ k, galloonlaw01_TrimReversed.f k a0 = some true
theorem galloonlaw01_TrimReversed.walk (P : galloonlaw01_TrimReversed.Pure) (a0 : ByteArray) (w : World) (w0 : a0.size ≤ 140737488351232) (hg : Glob w) :
    Calls Try.prog 10 #[.string a0] w fun e w' => e = .returned (.bool true) ∧ Below w.heap.size w w' := by
  obtain ⟨k, h⟩ := P a0 w0
  refine (galloonlaw01_TrimReversed.calls k a0 true w h ⟨rfl⟩ hg).mono ?_
  rintro e w' ⟨rfl, hd⟩
  exact ⟨rfl, hd⟩

end Go.Proofs.Ytbdlhgdfnnbjiaa.PY
