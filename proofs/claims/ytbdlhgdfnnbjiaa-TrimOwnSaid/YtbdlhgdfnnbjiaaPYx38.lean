-- Made by the session's own driver (wip/tools/p2.py) out of the translation; Lean checks it.
import Derived.Test.YtbdlhgdfnnbjiaaPYx0
import Derived.Test.YtbdlhgdfnnbjiaaPYx5
import Derived.Test.YtbdlhgdfnnbjiaaPYx8
import Derived.Test.YtbdlhgdfnnbjiaaPYx10
import Derived.Test.YtbdlhgdfnnbjiaaPYx16
import Derived.Test.YtbdlhgdfnnbjiaaPYx20
import Derived.Test.YtbdlhgdfnnbjiaaPYx27
import Derived.Test.YtbdlhgdfnnbjiaaPYx32
import Derived.Test.YtbdlhgdfnnbjiaaGPalindromes
namespace Go.Proofs.Ytbdlhgdfnnbjiaa.PY
open Go.RowKit Go.Proofs.YtbdlhgdfnnbjiaaW.PrintWords Go.Proofs.YtbdlhgdfnnbjiaaW.PrintLast Go.Proofs.YtbdlhgdfnnbjiaaW.PrintMore
attribute [local go_sem] max2_int min2_int max_two min_two max_three min_three max_four min_four   -- for this text's walks alone
set_option linter.unusedVariables false
set_option linter.unusedSimpArgs false

/-! ### galloonlaw01_TrimOwn: function 14 -/
mutual
def galloonlaw01_TrimOwn.j0 : Nat → ByteArray → List ByteArray → List Int → List ByteArray → List ByteArray → Bool → Option (Bool)
  | 0, _, _, _, _, _, _ => none
  | k + 1, x3, x4, x6, x8, x10, x57 => if x57 = true then (some false) else (galloonlaw01_TrimOwn.l0 k x3 x4 x6 x8 x10 0)
def galloonlaw01_TrimOwn.l0 : Nat → ByteArray → List ByteArray → List Int → List ByteArray → List ByteArray → Int → Option (Bool)
  | 0, _, _, _, _, _, _ => none
  | k + 1, x3, x4, x6, x8, x10, x11 => if x11 < (x4.length : Int) then (if 0 ≤ x11 then (galloonlaw01_TrimOwn.l0 k x3 (x4.set (x11 : Int).toNat (⟨#[120]⟩ : ByteArray)) x6 x8 x10 (wrap64 (x11 + 1))) else (none)) else (galloonlaw01_TrimOwn.l1 k x3 x6 x8 x10 0)
def galloonlaw01_TrimOwn.l1 : Nat → ByteArray → List Int → List ByteArray → List ByteArray → Int → Option (Bool)
  | 0, _, _, _, _, _ => none
  | k + 1, x3, x6, x8, x10, x12 => if x12 < (x6.length : Int) then (if 0 ≤ x12 then (galloonlaw01_TrimOwn.l1 k x3 (x6.set (x12 : Int).toNat (-7)) x8 x10 (wrap64 (x12 + 1))) else (none)) else (galloonlaw01_TrimOwn.l2 k x3 x8 x10 0)
def galloonlaw01_TrimOwn.l2 : Nat → ByteArray → List ByteArray → List ByteArray → Int → Option (Bool)
  | 0, _, _, _, _ => none
  | k + 1, x3, x8, x10, x13 => if x13 < (x8.length : Int) then (if 0 ≤ x13 then (galloonlaw01_TrimOwn.l2 k x3 (x8.set (x13 : Int).toNat (⟨#[120]⟩ : ByteArray)) x10 (wrap64 (x13 + 1))) else (none)) else ((trim_Palindromes.f x3).bind fun bt579 => ((trim_Centers.f k x3).bind fun bt583 => ((trim_Fewest.f k x3).bind fun bt587 => (if bt579.2 = 0 then (if bt583.2 = 0 then (if bt587.2 = 0 then ((galloonref01_Palindromes.f k x3).bind fun t591 => ((galloonlaw01_texts.f k bt579.1 t591).bind fun t594 => (if t594 = true then ((galloonref01_Centers.f k x3).bind fun t595 => ((galloonlaw01_ints.f k bt583.1 t595).bind fun t598 => (if t598 = true then ((galloonlaw01_texts.f k bt587.1 x10).bind fun t599 => (if t599 = true then ((galloonlaw01_awake.f k).bind fun t600 => (some t600)) else (some false))) else (some false)))) else (some false)))) else (some false)) else (some false)) else (some false)))))
end
def galloonlaw01_TrimOwn.f (k : Nat) (a0 : ByteArray) : Option (Bool) := (galloonlaw01_tame.f k a0 40).bind fun t558 => ((trim_Palindromes.f t558).bind fun bt559 => ((trim_Centers.f k t558).bind fun bt563 => ((trim_Fewest.f k t558).bind fun bt567 => ((galloonlaw01_few.f k bt567.1).bind fun t571 => ((trim_Check.f k t558 bt567.1).bind fun t574 => (if bt559.2 = 0 then (if bt563.2 = 0 then (if bt567.2 = 0 then ((galloonlaw01_texts.f k bt567.1 t571).bind fun t575 => (galloonlaw01_TrimOwn.j0 k t558 bt559.1 bt563.1 bt567.1 t571 (!t575))) else (galloonlaw01_TrimOwn.j0 k t558 bt559.1 bt563.1 bt567.1 t571 true)) else (galloonlaw01_TrimOwn.j0 k t558 bt559.1 bt563.1 bt567.1 t571 true)) else (galloonlaw01_TrimOwn.j0 k t558 bt559.1 bt563.1 bt567.1 t571 true)))))))
theorem galloonlaw01_TrimOwn.mono_l : ∀ k, (∀ y0 y1 y2 y3 y4 y5, LeO (galloonlaw01_TrimOwn.j0 k y0 y1 y2 y3 y4 y5) (galloonlaw01_TrimOwn.j0 (k + 1) y0 y1 y2 y3 y4 y5)) ∧ (∀ y0 y1 y2 y3 y4 y5, LeO (galloonlaw01_TrimOwn.l0 k y0 y1 y2 y3 y4 y5) (galloonlaw01_TrimOwn.l0 (k + 1) y0 y1 y2 y3 y4 y5)) ∧ (∀ y0 y1 y2 y3 y4, LeO (galloonlaw01_TrimOwn.l1 k y0 y1 y2 y3 y4) (galloonlaw01_TrimOwn.l1 (k + 1) y0 y1 y2 y3 y4)) ∧ (∀ y0 y1 y2 y3, LeO (galloonlaw01_TrimOwn.l2 k y0 y1 y2 y3) (galloonlaw01_TrimOwn.l2 (k + 1) y0 y1 y2 y3))
  | 0 => ⟨fun _ _ _ _ _ _ r h => by simp [galloonlaw01_TrimOwn.j0] at h, fun _ _ _ _ _ _ r h => by simp [galloonlaw01_TrimOwn.l0] at h, fun _ _ _ _ _ r h => by simp [galloonlaw01_TrimOwn.l1] at h, fun _ _ _ _ r h => by simp [galloonlaw01_TrimOwn.l2] at h⟩
  | k + 1 => by
    obtain ⟨ih0, ih1, ih2, ih3⟩ := galloonlaw01_TrimOwn.mono_l k
    refine ⟨?_, ?_, ?_, ?_⟩
    · intro y0 y1 y2 y3 y4 y5
      unfold galloonlaw01_TrimOwn.j0
      repeat' first
      | (with_reducible exact ih0 _ _ _ _ _ _)
      | (with_reducible exact ih1 _ _ _ _ _ _)
      | (with_reducible exact ih2 _ _ _ _ _)
      | (with_reducible exact ih3 _ _ _ _)
      | (with_reducible exact galloonlaw01_awake.mono _)
      | (with_reducible exact galloonlaw01_few.mono _ _)
      | (with_reducible exact galloonlaw01_ints.mono _ _ _)
      | (with_reducible exact galloonlaw01_tame.mono _ _ _)
      | (with_reducible exact galloonlaw01_texts.mono _ _ _)
      | (with_reducible exact galloonref01_Centers.mono _ _)
      | (with_reducible exact galloonref01_Palindromes.mono _ _)
      | (with_reducible exact trim_Centers.mono _ _)
      | (with_reducible exact trim_Check.mono _ _ _)
      | (with_reducible exact trim_Fewest.mono _ _)
      | (with_reducible exact LeO.refl _)
      | (with_reducible exact LeO.none _)
      | (with_reducible refine LeO.ite ?_ ?_)
      | (with_reducible refine LeO.bind ?_ (fun _ => ?_))
      | exact ih0 _ _ _ _ _ _
      | exact ih1 _ _ _ _ _ _
      | exact ih2 _ _ _ _ _
      | exact ih3 _ _ _ _
      | exact galloonlaw01_awake.mono _
      | exact galloonlaw01_few.mono _ _
      | exact galloonlaw01_ints.mono _ _ _
      | exact galloonlaw01_tame.mono _ _ _
      | exact galloonlaw01_texts.mono _ _ _
      | exact galloonref01_Centers.mono _ _
      | exact galloonref01_Palindromes.mono _ _
      | exact trim_Centers.mono _ _
      | exact trim_Check.mono _ _ _
      | exact trim_Fewest.mono _ _
      | exact LeO.none _
      | refine LeO.ite ?_ ?_
      | refine LeO.bind ?_ (fun _ => ?_)
    · intro y0 y1 y2 y3 y4 y5
      unfold galloonlaw01_TrimOwn.l0
      repeat' first
      | (with_reducible exact ih0 _ _ _ _ _ _)
      | (with_reducible exact ih1 _ _ _ _ _ _)
      | (with_reducible exact ih2 _ _ _ _ _)
      | (with_reducible exact ih3 _ _ _ _)
      | (with_reducible exact galloonlaw01_awake.mono _)
      | (with_reducible exact galloonlaw01_few.mono _ _)
      | (with_reducible exact galloonlaw01_ints.mono _ _ _)
      | (with_reducible exact galloonlaw01_tame.mono _ _ _)
      | (with_reducible exact galloonlaw01_texts.mono _ _ _)
      | (with_reducible exact galloonref01_Centers.mono _ _)
      | (with_reducible exact galloonref01_Palindromes.mono _ _)
      | (with_reducible exact trim_Centers.mono _ _)
      | (with_reducible exact trim_Check.mono _ _ _)
      | (with_reducible exact trim_Fewest.mono _ _)
      | (with_reducible exact LeO.refl _)
      | (with_reducible exact LeO.none _)
      | (with_reducible refine LeO.ite ?_ ?_)
      | (with_reducible refine LeO.bind ?_ (fun _ => ?_))
      | exact ih0 _ _ _ _ _ _
      | exact ih1 _ _ _ _ _ _
      | exact ih2 _ _ _ _ _
      | exact ih3 _ _ _ _
      | exact galloonlaw01_awake.mono _
      | exact galloonlaw01_few.mono _ _
      | exact galloonlaw01_ints.mono _ _ _
      | exact galloonlaw01_tame.mono _ _ _
      | exact galloonlaw01_texts.mono _ _ _
      | exact galloonref01_Centers.mono _ _
      | exact galloonref01_Palindromes.mono _ _
      | exact trim_Centers.mono _ _
      | exact trim_Check.mono _ _ _
      | exact trim_Fewest.mono _ _
      | exact LeO.none _
      | refine LeO.ite ?_ ?_
      | refine LeO.bind ?_ (fun _ => ?_)
    · intro y0 y1 y2 y3 y4
      unfold galloonlaw01_TrimOwn.l1
      repeat' first
      | (with_reducible exact ih0 _ _ _ _ _ _)
      | (with_reducible exact ih1 _ _ _ _ _ _)
      | (with_reducible exact ih2 _ _ _ _ _)
      | (with_reducible exact ih3 _ _ _ _)
      | (with_reducible exact galloonlaw01_awake.mono _)
      | (with_reducible exact galloonlaw01_few.mono _ _)
      | (with_reducible exact galloonlaw01_ints.mono _ _ _)
      | (with_reducible exact galloonlaw01_tame.mono _ _ _)
      | (with_reducible exact galloonlaw01_texts.mono _ _ _)
      | (with_reducible exact galloonref01_Centers.mono _ _)
      | (with_reducible exact galloonref01_Palindromes.mono _ _)
      | (with_reducible exact trim_Centers.mono _ _)
      | (with_reducible exact trim_Check.mono _ _ _)
      | (with_reducible exact trim_Fewest.mono _ _)
      | (with_reducible exact LeO.refl _)
      | (with_reducible exact LeO.none _)
      | (with_reducible refine LeO.ite ?_ ?_)
      | (with_reducible refine LeO.bind ?_ (fun _ => ?_))
      | exact ih0 _ _ _ _ _ _
      | exact ih1 _ _ _ _ _ _
      | exact ih2 _ _ _ _ _
      | exact ih3 _ _ _ _
      | exact galloonlaw01_awake.mono _
      | exact galloonlaw01_few.mono _ _
      | exact galloonlaw01_ints.mono _ _ _
      | exact galloonlaw01_tame.mono _ _ _
      | exact galloonlaw01_texts.mono _ _ _
      | exact galloonref01_Centers.mono _ _
      | exact galloonref01_Palindromes.mono _ _
      | exact trim_Centers.mono _ _
      | exact trim_Check.mono _ _ _
      | exact trim_Fewest.mono _ _
      | exact LeO.none _
      | refine LeO.ite ?_ ?_
      | refine LeO.bind ?_ (fun _ => ?_)
    · intro y0 y1 y2 y3
      unfold galloonlaw01_TrimOwn.l2
      repeat' first
      | (with_reducible exact ih0 _ _ _ _ _ _)
      | (with_reducible exact ih1 _ _ _ _ _ _)
      | (with_reducible exact ih2 _ _ _ _ _)
      | (with_reducible exact ih3 _ _ _ _)
      | (with_reducible exact galloonlaw01_awake.mono _)
      | (with_reducible exact galloonlaw01_few.mono _ _)
      | (with_reducible exact galloonlaw01_ints.mono _ _ _)
      | (with_reducible exact galloonlaw01_tame.mono _ _ _)
      | (with_reducible exact galloonlaw01_texts.mono _ _ _)
      | (with_reducible exact galloonref01_Centers.mono _ _)
      | (with_reducible exact galloonref01_Palindromes.mono _ _)
      | (with_reducible exact trim_Centers.mono _ _)
      | (with_reducible exact trim_Check.mono _ _ _)
      | (with_reducible exact trim_Fewest.mono _ _)
      | (with_reducible exact LeO.refl _)
      | (with_reducible exact LeO.none _)
      | (with_reducible refine LeO.ite ?_ ?_)
      | (with_reducible refine LeO.bind ?_ (fun _ => ?_))
      | exact ih0 _ _ _ _ _ _
      | exact ih1 _ _ _ _ _ _
      | exact ih2 _ _ _ _ _
      | exact ih3 _ _ _ _
      | exact galloonlaw01_awake.mono _
      | exact galloonlaw01_few.mono _ _
      | exact galloonlaw01_ints.mono _ _ _
      | exact galloonlaw01_tame.mono _ _ _
      | exact galloonlaw01_texts.mono _ _ _
      | exact galloonref01_Centers.mono _ _
      | exact galloonref01_Palindromes.mono _ _
      | exact trim_Centers.mono _ _
      | exact trim_Check.mono _ _ _
      | exact trim_Fewest.mono _ _
      | exact LeO.none _
      | refine LeO.ite ?_ ?_
      | refine LeO.bind ?_ (fun _ => ?_)
theorem galloonlaw01_TrimOwn.mono : ∀ a0 k, LeO (galloonlaw01_TrimOwn.f k a0) (galloonlaw01_TrimOwn.f (k + 1) a0) := by
  intro a0 k
  obtain ⟨ih0, ih1, ih2, ih3⟩ := galloonlaw01_TrimOwn.mono_l k
  unfold galloonlaw01_TrimOwn.f
  repeat' first
      | (with_reducible exact ih0 _ _ _ _ _ _)
      | (with_reducible exact ih1 _ _ _ _ _ _)
      | (with_reducible exact ih2 _ _ _ _ _)
      | (with_reducible exact ih3 _ _ _ _)
      | (with_reducible exact galloonlaw01_awake.mono _)
      | (with_reducible exact galloonlaw01_few.mono _ _)
      | (with_reducible exact galloonlaw01_ints.mono _ _ _)
      | (with_reducible exact galloonlaw01_tame.mono _ _ _)
      | (with_reducible exact galloonlaw01_texts.mono _ _ _)
      | (with_reducible exact galloonref01_Centers.mono _ _)
      | (with_reducible exact galloonref01_Palindromes.mono _ _)
      | (with_reducible exact trim_Centers.mono _ _)
      | (with_reducible exact trim_Check.mono _ _ _)
      | (with_reducible exact trim_Fewest.mono _ _)
      | (with_reducible exact LeO.refl _)
      | (with_reducible exact LeO.none _)
      | (with_reducible refine LeO.ite ?_ ?_)
      | (with_reducible refine LeO.bind ?_ (fun _ => ?_))
      | exact ih0 _ _ _ _ _ _
      | exact ih1 _ _ _ _ _ _
      | exact ih2 _ _ _ _ _
      | exact ih3 _ _ _ _
      | exact galloonlaw01_awake.mono _
      | exact galloonlaw01_few.mono _ _
      | exact galloonlaw01_ints.mono _ _ _
      | exact galloonlaw01_tame.mono _ _ _
      | exact galloonlaw01_texts.mono _ _ _
      | exact galloonref01_Centers.mono _ _
      | exact galloonref01_Palindromes.mono _ _
      | exact trim_Centers.mono _ _
      | exact trim_Check.mono _ _ _
      | exact trim_Fewest.mono _ _
      | exact LeO.none _
      | refine LeO.ite ?_ ?_
      | refine LeO.bind ?_ (fun _ => ?_)
set_option maxHeartbeats 8000000 in
set_option maxRecDepth 100000 in
theorem galloonlaw01_TrimOwn.calls (k : Nat) (a0 : ByteArray) (r : Bool) (w : World) (h : galloonlaw01_TrimOwn.f k a0 = some r) (hr : Aside0 (r = true)) (hg : Glob w) :
    Calls Try.prog 14 #[.string a0] w fun e w' => e = .returned (.bool r) ∧ Below w.heap.size w w' := by
  have HB := Aside0.mk (Below.refl w.heap.size w)
  have H : ((galloonlaw01_tame.f k a0 40).bind fun t558 => ((trim_Palindromes.f t558).bind fun bt559 => ((trim_Centers.f k t558).bind fun bt563 => ((trim_Fewest.f k t558).bind fun bt567 => ((galloonlaw01_few.f k bt567.1).bind fun t571 => ((trim_Check.f k t558 bt567.1).bind fun t574 => (if bt559.2 = 0 then (if bt563.2 = 0 then (if bt567.2 = 0 then ((galloonlaw01_texts.f k bt567.1 t571).bind fun t575 => (galloonlaw01_TrimOwn.j0 k t558 bt559.1 bt563.1 bt567.1 t571 (!t575))) else (galloonlaw01_TrimOwn.j0 k t558 bt559.1 bt563.1 bt567.1 t571 true)) else (galloonlaw01_TrimOwn.j0 k t558 bt559.1 bt563.1 bt567.1 t571 true)) else (galloonlaw01_TrimOwn.j0 k t558 bt559.1 bt563.1 bt567.1 t571 true)))))))) = some r := h
  clear h
  replace H := Option.bind_eq_some_iff.mp H
  obtain ⟨t558, A20, H⟩ := H
  replace H : ((trim_Palindromes.f t558).bind fun bt559 => ((trim_Centers.f k t558).bind fun bt563 => ((trim_Fewest.f k t558).bind fun bt567 => ((galloonlaw01_few.f k bt567.1).bind fun t571 => ((trim_Check.f k t558 bt567.1).bind fun t574 => (if bt559.2 = 0 then (if bt563.2 = 0 then (if bt567.2 = 0 then ((galloonlaw01_texts.f k bt567.1 t571).bind fun t575 => (galloonlaw01_TrimOwn.j0 k t558 bt559.1 bt563.1 bt567.1 t571 (!t575))) else (galloonlaw01_TrimOwn.j0 k t558 bt559.1 bt563.1 bt567.1 t571 true)) else (galloonlaw01_TrimOwn.j0 k t558 bt559.1 bt563.1 bt567.1 t571 true)) else (galloonlaw01_TrimOwn.j0 k t558 bt559.1 bt563.1 bt567.1 t571 true))))))) = some r := H
  have A2 := Aside0.mk A20
  clear A20
  replace H := Option.bind_eq_some_iff.mp H
  obtain ⟨⟨t559, t560⟩, A30, H⟩ := H
  replace H : ((trim_Centers.f k t558).bind fun bt563 => ((trim_Fewest.f k t558).bind fun bt567 => ((galloonlaw01_few.f k bt567.1).bind fun t571 => ((trim_Check.f k t558 bt567.1).bind fun t574 => (if t560 = 0 then (if bt563.2 = 0 then (if bt567.2 = 0 then ((galloonlaw01_texts.f k bt567.1 t571).bind fun t575 => (galloonlaw01_TrimOwn.j0 k t558 t559 bt563.1 bt567.1 t571 (!t575))) else (galloonlaw01_TrimOwn.j0 k t558 t559 bt563.1 bt567.1 t571 true)) else (galloonlaw01_TrimOwn.j0 k t558 t559 bt563.1 bt567.1 t571 true)) else (galloonlaw01_TrimOwn.j0 k t558 t559 bt563.1 bt567.1 t571 true)))))) = some r := H
  have A3 := Aside0.mk A30
  clear A30
  replace H := Option.bind_eq_some_iff.mp H
  obtain ⟨⟨t563, t564⟩, A40, H⟩ := H
  replace H : ((trim_Fewest.f k t558).bind fun bt567 => ((galloonlaw01_few.f k bt567.1).bind fun t571 => ((trim_Check.f k t558 bt567.1).bind fun t574 => (if t560 = 0 then (if t564 = 0 then (if bt567.2 = 0 then ((galloonlaw01_texts.f k bt567.1 t571).bind fun t575 => (galloonlaw01_TrimOwn.j0 k t558 t559 t563 bt567.1 t571 (!t575))) else (galloonlaw01_TrimOwn.j0 k t558 t559 t563 bt567.1 t571 true)) else (galloonlaw01_TrimOwn.j0 k t558 t559 t563 bt567.1 t571 true)) else (galloonlaw01_TrimOwn.j0 k t558 t559 t563 bt567.1 t571 true))))) = some r := H
  have A4 := Aside0.mk A40
  clear A40
  replace H := Option.bind_eq_some_iff.mp H
  obtain ⟨⟨t567, t568⟩, A50, H⟩ := H
  replace H : ((galloonlaw01_few.f k t567).bind fun t571 => ((trim_Check.f k t558 t567).bind fun t574 => (if t560 = 0 then (if t564 = 0 then (if t568 = 0 then ((galloonlaw01_texts.f k t567 t571).bind fun t575 => (galloonlaw01_TrimOwn.j0 k t558 t559 t563 t567 t571 (!t575))) else (galloonlaw01_TrimOwn.j0 k t558 t559 t563 t567 t571 true)) else (galloonlaw01_TrimOwn.j0 k t558 t559 t563 t567 t571 true)) else (galloonlaw01_TrimOwn.j0 k t558 t559 t563 t567 t571 true)))) = some r := H
  have A5 := Aside0.mk A50
  clear A50
  replace H := Option.bind_eq_some_iff.mp H
  obtain ⟨t571, A60, H⟩ := H
  replace H : ((trim_Check.f k t558 t567).bind fun t574 => (if t560 = 0 then (if t564 = 0 then (if t568 = 0 then ((galloonlaw01_texts.f k t567 t571).bind fun t575 => (galloonlaw01_TrimOwn.j0 k t558 t559 t563 t567 t571 (!t575))) else (galloonlaw01_TrimOwn.j0 k t558 t559 t563 t567 t571 true)) else (galloonlaw01_TrimOwn.j0 k t558 t559 t563 t567 t571 true)) else (galloonlaw01_TrimOwn.j0 k t558 t559 t563 t567 t571 true))) = some r := H
  have A6 := Aside0.mk A60
  clear A60
  replace H := Option.bind_eq_some_iff.mp H
  obtain ⟨t574, A70, H⟩ := H
  replace H : (if t560 = 0 then (if t564 = 0 then (if t568 = 0 then ((galloonlaw01_texts.f k t567 t571).bind fun t575 => (galloonlaw01_TrimOwn.j0 k t558 t559 t563 t567 t571 (!t575))) else (galloonlaw01_TrimOwn.j0 k t558 t559 t563 t567 t571 true)) else (galloonlaw01_TrimOwn.j0 k t558 t559 t563 t567 t571 true)) else (galloonlaw01_TrimOwn.j0 k t558 t559 t563 t567 t571 true)) = some r := H
  have A7 := Aside0.mk A70
  clear A70
  have HC8 := Aside0.mk H
  clear H
  go_enter Try.func14, Try.ntmps14
  go_upto_region 7 with (first | ((with_reducible refine gate_callee (f := 30) rfl ?_); refine goesL_ (some 21) rfl rfl Try.func30 (by kernel_rfl) rfl #[.string a0, .int .i64 40] rfl (by (try simp only [List.map_toArray, List.map_cons, List.map_nil]); first | done | rfl | (simp only [List.length_drop, List.length_take]; rfl)) ?_; (with_reducible refine (galloonlaw01_tame.calls k a0 40 t558 _ A2.out).mono ?_); rintro e w9 ⟨rfl, hb⟩; refine ⟨_, rfl, ?_⟩; have n0_ := Aside0.mk (below_step (by repeat (first | (with_reducible first | exact HB.out | apply below_alloc | apply pw_below_drewN | apply below_drew1) | exact HB.out)) hb); clear HB; have HB := n0_; clear n0_; (try clear hb); (try clear hb2); (try clear hk); (try clear hi)) | ((with_reducible refine gate_callee (f := 33) rfl ?_); refine goesL_ (some 24) rfl rfl Try.func33 (by kernel_rfl) rfl #[.string t558] rfl (by (try simp only [List.map_toArray, List.map_cons, List.map_nil]); first | done | rfl | (simp only [List.length_drop, List.length_take]; rfl)) ?_; (with_reducible refine (trim_Palindromes.calls t558 t559 t560 _ A3.out).mono ?_); rintro e w10 ⟨v561, rfl, ho0, hb⟩; refine ⟨_, rfl, ?_⟩; have n0_ := Aside0.mk (Kd.R_lower ho0 (below_size (by repeat (first | (with_reducible first | exact HB.out | apply below_alloc | apply pw_below_drewN | apply below_drew1) | exact HB.out)))); have n1_ := Aside0.mk (below_step (by repeat (first | (with_reducible first | exact HB.out | apply below_alloc | apply pw_below_drewN | apply below_drew1) | exact HB.out)) hb); clear HB; have HO562 := n0_; have HB := n1_; clear n0_ n1_; (try clear hb); (try clear hb2); (try clear hk); (try clear hi); (try clear ho0)) | ((with_reducible refine gate_callee (f := 34) rfl ?_); refine goesL_ (some 29) rfl rfl Try.func34 (by kernel_rfl) rfl #[.string t558] rfl (by (try simp only [List.map_toArray, List.map_cons, List.map_nil]); first | done | rfl | (simp only [List.length_drop, List.length_take]; rfl)) ?_; (with_reducible refine (trim_Centers.calls k t558 t563 t564 _ A4.out).mono ?_); rintro e w11 ⟨v565, rfl, ho0, hb⟩; refine ⟨_, rfl, ?_⟩; have n0_ := Aside0.mk (Kd.R_below (by (with_reducible repeat (first | apply Kd.R_alloc | apply Kd.R_drewN | apply Kd.R_drew)); exact HO562.out) hb); have n1_ := Aside0.mk (Kd.R_lower ho0 (below_size (by repeat (first | (with_reducible first | exact HB.out | apply below_alloc | apply pw_below_drewN | apply below_drew1) | exact HB.out)))); have n2_ := Aside0.mk (below_step (by repeat (first | (with_reducible first | exact HB.out | apply below_alloc | apply pw_below_drewN | apply below_drew1) | exact HB.out)) hb); clear HO562; clear HB; have HO562 := n0_; have HO566 := n1_; have HB := n2_; clear n0_ n1_ n2_; (try clear hb); (try clear hb2); (try clear hk); (try clear hi); (try clear ho0)) | ((with_reducible refine gate_callee (f := 50) rfl ?_); refine goesL_ (some 34) rfl rfl Try.func50 (by kernel_rfl) rfl #[.string t558] rfl (by (try simp only [List.map_toArray, List.map_cons, List.map_nil]); first | done | rfl | (simp only [List.length_drop, List.length_take]; rfl)) ?_; (with_reducible refine (trim_Fewest.calls k t558 t567 t568 _ A5.out).mono ?_); rintro e w12 ⟨v569, rfl, ho0, hb⟩; refine ⟨_, rfl, ?_⟩; have n0_ := Aside0.mk (Kd.R_elder' (by (with_reducible repeat (first | apply Kd.R_alloc | apply Kd.R_drewN | apply Kd.R_drew)); exact HO562.out) (Kd.R_base ho0) hb); have n1_ := Aside0.mk (Kd.R_below (by (with_reducible repeat (first | apply Kd.R_alloc | apply Kd.R_drewN | apply Kd.R_drew)); exact HO566.out) hb); have n2_ := Aside0.mk (Kd.R_lower (Kd.R_new' ho0 (Kd.R_lt (by (with_reducible repeat (first | apply Kd.R_alloc | apply Kd.R_drewN | apply Kd.R_drew)); exact HO562.out))) (below_size (by repeat (first | (with_reducible first | exact HB.out | apply below_alloc | apply pw_below_drewN | apply below_drew1) | exact HB.out)))); have n3_ := Aside0.mk (below_step (by repeat (first | (with_reducible first | exact HB.out | apply below_alloc | apply pw_below_drewN | apply below_drew1) | exact HB.out)) hb); clear HO562; clear HO566; clear HB; have HO562 := n0_; have HO566 := n1_; have HO570 := n2_; have HB := n3_; clear n0_ n1_ n2_ n3_; (try clear hb); (try clear hb2); (try clear hk); (try clear hi); (try clear ho0); obtain ⟨Ao13, co13, eo13⟩ := Kd.R_slice HO570.out; subst eo13) | ((with_reducible refine gate_callee (f := 46) rfl ?_); refine goesL_ (some 38) rfl rfl Try.func46 (by kernel_rfl) rfl #[.slice Ao13 t567.length co13] rfl (by (try simp only [List.map_toArray, List.map_cons, List.map_nil]); first | done | rfl | (simp only [List.length_drop, List.length_take]; rfl)) ?_; (with_reducible refine (galloonlaw01_few.calls k _ _ t567 t571 _ ?side1 ?side2 A6.out).mono ?_); (case side1 => repeat (first | exact (Kd.R_reads' HO570.out).2.2 | (with_reducible refine Kd.C_alloc ?_ _) | (with_reducible refine Kd.C_drewN ?_ _) | (with_reducible refine Kd.C_drew ?_))); (case side2 => exact (Kd.R_reads' HO570.out).2.1); rintro e w14 ⟨v572, rfl, ho0, hb⟩; refine ⟨_, rfl, ?_⟩; have n0_ := Aside0.mk (Kd.R_elder' (by (with_reducible repeat (first | apply Kd.R_alloc | apply Kd.R_drewN | apply Kd.R_drew)); exact HO562.out) (Kd.R_base ho0) hb); have n1_ := Aside0.mk (Kd.R_below (by (with_reducible repeat (first | apply Kd.R_alloc | apply Kd.R_drewN | apply Kd.R_drew)); exact HO566.out) hb); have n2_ := Aside0.mk (Kd.R_elder' (by (with_reducible repeat (first | apply Kd.R_alloc | apply Kd.R_drewN | apply Kd.R_drew)); exact HO570.out) (Kd.R_base ho0) hb); have n3_ := Aside0.mk (Kd.R_lower (Kd.R_new' (Kd.R_new' ho0 (Kd.R_lt (by (with_reducible repeat (first | apply Kd.R_alloc | apply Kd.R_drewN | apply Kd.R_drew)); exact HO562.out))) (Kd.R_lt (by (with_reducible repeat (first | apply Kd.R_alloc | apply Kd.R_drewN | apply Kd.R_drew)); exact HO570.out))) (below_size (by repeat (first | (with_reducible first | exact HB.out | apply below_alloc | apply pw_below_drewN | apply below_drew1) | exact HB.out)))); have n4_ := Aside0.mk (below_step (by repeat (first | (with_reducible first | exact HB.out | apply below_alloc | apply pw_below_drewN | apply below_drew1) | exact HB.out)) hb); clear HO562; clear HO566; clear HO570; clear HB; have HO562 := n0_; have HO566 := n1_; have HO570 := n2_; have HO573 := n3_; have HB := n4_; clear n0_ n1_ n2_ n3_ n4_; (try clear hb); (try clear hb2); (try clear hk); (try clear hi); (try clear ho0)) | ((with_reducible refine gate_callee (f := 47) rfl ?_); refine goesL_ (some 41) rfl rfl Try.func47 (by kernel_rfl) rfl #[.string t558, .slice Ao13 t567.length co13] rfl (by (try simp only [List.map_toArray, List.map_cons, List.map_nil]); first | done | rfl | (simp only [List.length_drop, List.length_take]; rfl)) ?_; (with_reducible refine (trim_Check.calls k t558 _ _ t567 t574 _ ?side1 ?side2 A7.out).mono ?_); (case side1 => repeat (first | exact (Kd.R_reads' HO570.out).2.2 | (with_reducible refine Kd.C_alloc ?_ _) | (with_reducible refine Kd.C_drewN ?_ _) | (with_reducible refine Kd.C_drew ?_))); (case side2 => exact (Kd.R_reads' HO570.out).2.1); rintro e w15 ⟨rfl, hb⟩; refine ⟨_, rfl, ?_⟩; have n0_ := Aside0.mk (Kd.R_below (by (with_reducible repeat (first | apply Kd.R_alloc | apply Kd.R_drewN | apply Kd.R_drew)); exact HO562.out) hb); have n1_ := Aside0.mk (Kd.R_below (by (with_reducible repeat (first | apply Kd.R_alloc | apply Kd.R_drewN | apply Kd.R_drew)); exact HO566.out) hb); have n2_ := Aside0.mk (Kd.R_below (by (with_reducible repeat (first | apply Kd.R_alloc | apply Kd.R_drewN | apply Kd.R_drew)); exact HO570.out) hb); have n3_ := Aside0.mk (Kd.R_below (by (with_reducible repeat (first | apply Kd.R_alloc | apply Kd.R_drewN | apply Kd.R_drew)); exact HO573.out) hb); have n4_ := Aside0.mk (below_step (by repeat (first | (with_reducible first | exact HB.out | apply below_alloc | apply pw_below_drewN | apply below_drew1) | exact HB.out)) hb); clear HO562; clear HO566; clear HO570; clear HO573; clear HB; have HO562 := n0_; have HO566 := n1_; have HO570 := n2_; have HO573 := n3_; have HB := n4_; clear n0_ n1_ n2_ n3_ n4_; (try clear hb); (try clear hb2); (try clear hk); (try clear hi)))
  (try simp only [Act.put, List.setIfInBounds_toArray, List.set_cons_zero, List.set_cons_succ])
  go_cut [57] (fun v57 wc => ∃ (kq : Nat) (x57_7 : Bool), v57 = .bool x57_7 ∧ Aside0 (galloonlaw01_TrimOwn.j0 kq t558 t559 t563 t567 t571 x57_7 = some r) ∧ Aside0 (kq ≤ k) ∧ Aside0 (Kd.R Kd.string 9 wc w.heap.size (fun k_ => some k_ ≠ ((.slice Ao13 t567.length co13) : Value).ownBlock ∧ some k_ ≠ (v572 : Value).ownBlock) v561 t559) ∧ Aside0 (Kd.R (Kd.int .i64) 3 wc w.heap.size (fun _ => True) v565 t563) ∧ Aside0 (Kd.R Kd.string 9 wc w.heap.size (fun k_ => some k_ ≠ (v561 : Value).ownBlock ∧ some k_ ≠ (v572 : Value).ownBlock) (.slice Ao13 t567.length co13) t567) ∧ Aside0 (Kd.R Kd.string 9 wc w.heap.size (fun k_ => some k_ ≠ (v561 : Value).ownBlock ∧ some k_ ≠ ((.slice Ao13 t567.length co13) : Value).ownBlock) v572 t571) ∧ Aside0 (Below w.heap.size w wc))
  case first =>
    have H := HC8.out
    clear HC8
    by_cases c16 : t560 = 0
    · rw [if_pos c16] at H
      have c16b0 : (t560 == 0) = true := beq_iff_eq.mpr c16
      have c16b1 : (t560 != 0) = false := bne_eq_false_iff_eq.mpr c16
      clear c16
      (first | rw [c16b0] | (simp only [i64_w, i32_w]; rw [c16b0]) | skip)
      by_cases c17 : t564 = 0
      · rw [if_pos c17] at H
        have c17b0 : (t564 == 0) = true := beq_iff_eq.mpr c17
        have c17b1 : (t564 != 0) = false := bne_eq_false_iff_eq.mpr c17
        clear c17
        by_cases c18 : t568 = 0
        · rw [if_pos c18] at H
          have c18b0 : (t568 == 0) = true := beq_iff_eq.mpr c18
          have c18b1 : (t568 != 0) = false := bne_eq_false_iff_eq.mpr c18
          clear c18
          replace H := Option.bind_eq_some_iff.mp H
          obtain ⟨t575, A190, H⟩ := H
          replace H : (galloonlaw01_TrimOwn.j0 k t558 t559 t563 t567 t571 (!t575)) = some r := H
          have A19 := Aside0.mk A190
          clear A190
          have H' := Aside0.mk H
          clear H
          obtain ⟨Ao20, co20, eo20⟩ := Kd.R_slice HO573.out
          subst eo20
          go_wp2_with (first | (go_at_call 38; (with_reducible refine (galloonlaw01_texts.calls k _ _ t567 _ _ t571 t575 _ ?side1 ?side2 ?side3 ?side4 A19.out).mono ?_); (case side1 => repeat (first | exact (Kd.R_reads' HO570.out).2.2 | (with_reducible refine Kd.C_alloc ?_ _) | (with_reducible refine Kd.C_drewN ?_ _) | (with_reducible refine Kd.C_drew ?_))); (case side2 => exact (Kd.R_reads' HO570.out).2.1); (case side3 => repeat (first | exact (Kd.R_reads' HO573.out).2.2 | (with_reducible refine Kd.C_alloc ?_ _) | (with_reducible refine Kd.C_drewN ?_ _) | (with_reducible refine Kd.C_drew ?_))); (case side4 => exact (Kd.R_reads' HO573.out).2.1); rintro e w' ⟨rfl, ⟨nd, rfl⟩⟩))
          go_meet
          case rel => exact ⟨_, (!t575), (by first | rfl | (simp; done) | (simp [*]; done)), H', ⟨by first | omega | exact Nat.le_refl _⟩, ⟨by (with_reducible repeat (first | apply Kd.R_alloc | apply Kd.R_drewN | apply Kd.R_drew)); exact Kd.R_mono HO562.out (fun _ hk => ⟨hk.1.2, hk.2⟩)⟩, ⟨by (with_reducible repeat (first | apply Kd.R_alloc | apply Kd.R_drewN | apply Kd.R_drew)); exact HO566.out⟩, ⟨by (with_reducible repeat (first | apply Kd.R_alloc | apply Kd.R_drewN | apply Kd.R_drew)); exact Kd.R_mono HO570.out (fun _ hk => ⟨hk.1.2, hk.2⟩)⟩, ⟨by (with_reducible repeat (first | apply Kd.R_alloc | apply Kd.R_drewN | apply Kd.R_drew)); exact Kd.R_mono HO573.out (fun _ hk => ⟨hk.1.2, hk.2⟩)⟩, ⟨by repeat (first | (with_reducible first | exact HB.out | apply below_alloc | apply pw_below_drewN | apply below_drew1) | exact HB.out)⟩⟩
        · rw [if_neg c18] at H
          have c18b0 : (t568 == 0) = false := beq_eq_false_iff_ne.mpr c18
          have c18b1 : (t568 != 0) = true := bne_iff_ne.mpr c18
          have H' := Aside0.mk H
          clear H
          go_wp2
          go_meet
          case rel => exact ⟨_, (true), (by first | rfl | (simp; done) | (simp [*]; done)), H', ⟨by first | omega | exact Nat.le_refl _⟩, ⟨by (with_reducible repeat (first | apply Kd.R_alloc | apply Kd.R_drewN | apply Kd.R_drew)); exact Kd.R_mono HO562.out (fun _ hk => ⟨hk.1.2, hk.2⟩)⟩, ⟨by (with_reducible repeat (first | apply Kd.R_alloc | apply Kd.R_drewN | apply Kd.R_drew)); exact HO566.out⟩, ⟨by (with_reducible repeat (first | apply Kd.R_alloc | apply Kd.R_drewN | apply Kd.R_drew)); exact Kd.R_mono HO570.out (fun _ hk => ⟨hk.1.2, hk.2⟩)⟩, ⟨by (with_reducible repeat (first | apply Kd.R_alloc | apply Kd.R_drewN | apply Kd.R_drew)); exact Kd.R_mono HO573.out (fun _ hk => ⟨hk.1.2, hk.2⟩)⟩, ⟨by repeat (first | (with_reducible first | exact HB.out | apply below_alloc | apply pw_below_drewN | apply below_drew1) | exact HB.out)⟩⟩
      · rw [if_neg c17] at H
        have c17b0 : (t564 == 0) = false := beq_eq_false_iff_ne.mpr c17
        have c17b1 : (t564 != 0) = true := bne_iff_ne.mpr c17
        have H' := Aside0.mk H
        clear H
        go_wp2
        go_meet
        case rel => exact ⟨_, (true), (by first | rfl | (simp; done) | (simp [*]; done)), H', ⟨by first | omega | exact Nat.le_refl _⟩, ⟨by (with_reducible repeat (first | apply Kd.R_alloc | apply Kd.R_drewN | apply Kd.R_drew)); exact Kd.R_mono HO562.out (fun _ hk => ⟨hk.1.2, hk.2⟩)⟩, ⟨by (with_reducible repeat (first | apply Kd.R_alloc | apply Kd.R_drewN | apply Kd.R_drew)); exact HO566.out⟩, ⟨by (with_reducible repeat (first | apply Kd.R_alloc | apply Kd.R_drewN | apply Kd.R_drew)); exact Kd.R_mono HO570.out (fun _ hk => ⟨hk.1.2, hk.2⟩)⟩, ⟨by (with_reducible repeat (first | apply Kd.R_alloc | apply Kd.R_drewN | apply Kd.R_drew)); exact Kd.R_mono HO573.out (fun _ hk => ⟨hk.1.2, hk.2⟩)⟩, ⟨by repeat (first | (with_reducible first | exact HB.out | apply below_alloc | apply pw_below_drewN | apply below_drew1) | exact HB.out)⟩⟩
    · rw [if_neg c16] at H
      have c16b0 : (t560 == 0) = false := beq_eq_false_iff_ne.mpr c16
      have c16b1 : (t560 != 0) = true := bne_iff_ne.mpr c16
      (first | rw [c16b0] | (simp only [i64_w, i32_w]; rw [c16b0]) | skip)
      have H' := Aside0.mk H
      clear H
      go_wp2
      go_meet
      case rel => exact ⟨_, (true), (by first | rfl | (simp; done) | (simp [*]; done)), H', ⟨by first | omega | exact Nat.le_refl _⟩, ⟨by (with_reducible repeat (first | apply Kd.R_alloc | apply Kd.R_drewN | apply Kd.R_drew)); exact Kd.R_mono HO562.out (fun _ hk => ⟨hk.1.2, hk.2⟩)⟩, ⟨by (with_reducible repeat (first | apply Kd.R_alloc | apply Kd.R_drewN | apply Kd.R_drew)); exact HO566.out⟩, ⟨by (with_reducible repeat (first | apply Kd.R_alloc | apply Kd.R_drewN | apply Kd.R_drew)); exact Kd.R_mono HO570.out (fun _ hk => ⟨hk.1.2, hk.2⟩)⟩, ⟨by (with_reducible repeat (first | apply Kd.R_alloc | apply Kd.R_drewN | apply Kd.R_drew)); exact Kd.R_mono HO573.out (fun _ hk => ⟨hk.1.2, hk.2⟩)⟩, ⟨by repeat (first | (with_reducible first | exact HB.out | apply below_alloc | apply pw_below_drewN | apply below_drew1) | exact HB.out)⟩⟩
  case rest =>
    clear HC8
    try clear c1
    try clear p2
    try clear c3
    try clear c4
    try clear c5
    try clear c14
    try clear c16
    try clear c16b0
    try clear c16b1
    try clear c17
    try clear c17b0
    try clear c17b1
    try clear c18
    try clear c18b0
    try clear c18b1
    obtain ⟨kq, x57_7, rfl, HA, HJ7, HO_4, HO_6, HO_8, HO_10, HB⟩ := hcut
    cases kq with
    | zero => exact absurd HA.out (by simp [galloonlaw01_TrimOwn.j0])
    | succ kj7 =>
      have H := HA.out
      clear HA
      simp only [galloonlaw01_TrimOwn.j0] at H
      by_cases c21 : x57_7 = true
      · subst c21
        have H1 : (some false) = some r := by rw [if_pos rfl] at H; exact H
        clear H
        have H := H1
        clear H1
        obtain rfl := Option.some.inj H
        exact absurd hr.out (by decide)
      · replace c21 := Bool.eq_false_iff.mpr c21
        subst c21
        have H1 : (galloonlaw01_TrimOwn.l0 kj7 t558 t559 t563 t567 t571 0) = some r := by rw [if_neg (show ¬ (false = true) by decide)] at H; exact H
        clear H
        have H := H1
        clear H1
        have H' := Aside0.mk H
        clear H
        go_wp2
        go_loopg [11] kj7 (fun kq v11 w' => ∃ (x4_2 : List ByteArray) (x11_2 : Int), v11 = .int .i64 x11_2 ∧ Aside0 (galloonlaw01_TrimOwn.l0 kq t558 x4_2 t563 t567 t571 x11_2 = some r) ∧ Aside0 (kq ≤ kj7) ∧ Aside0 (Kd.R Kd.string 9 w' w.heap.size (fun k_ => some k_ ≠ ((.slice Ao13 t567.length co13) : Value).ownBlock ∧ some k_ ≠ (v572 : Value).ownBlock) v561 x4_2) ∧ Aside0 (Kd.R (Kd.int .i64) 3 w' w.heap.size (fun _ => True) v565 t563) ∧ Aside0 (Kd.R Kd.string 9 w' w.heap.size (fun k_ => some k_ ≠ (v561 : Value).ownBlock ∧ some k_ ≠ (v572 : Value).ownBlock) (.slice Ao13 t567.length co13) t567) ∧ Aside0 (Kd.R Kd.string 9 w' w.heap.size (fun k_ => some k_ ≠ (v561 : Value).ownBlock ∧ some k_ ≠ ((.slice Ao13 t567.length co13) : Value).ownBlock) v572 t571) ∧ Aside0 (Below w.heap.size w w'))
        case atStart => exact ⟨(t559), (0), (by first | rfl | (simp; done) | (simp [*]; done)), H', ⟨Nat.le_refl _⟩, ⟨by (with_reducible repeat (first | apply Kd.R_alloc | apply Kd.R_drewN | apply Kd.R_drew)); exact HO_4.out⟩, ⟨by (with_reducible repeat (first | apply Kd.R_alloc | apply Kd.R_drewN | apply Kd.R_drew)); exact HO_6.out⟩, ⟨by (with_reducible repeat (first | apply Kd.R_alloc | apply Kd.R_drewN | apply Kd.R_drew)); exact HO_8.out⟩, ⟨by (with_reducible repeat (first | apply Kd.R_alloc | apply Kd.R_drewN | apply Kd.R_drew)); exact HO_10.out⟩, ⟨by repeat (first | (with_reducible first | exact HB.out | apply below_alloc | apply pw_below_drewN | apply below_drew1) | exact HB.out)⟩⟩
        case round =>
          clear H'
          try clear c1
          try clear c2
          try clear p2
          try clear c3
          try clear c4
          try clear c5
          try clear c14
          try clear c16
          try clear c16b0
          try clear c16b1
          try clear c17
          try clear c17b0
          try clear c17b1
          try clear c18
          try clear c18b0
          try clear c18b1
          try clear c21
          try clear p2
          obtain ⟨x4_2, x11_2, rfl, HA, HK2, HO_4, HO_6, HO_8, HO_10, HB⟩ := hrel
          cases gk with
          | zero => exact absurd HA.out (by simp [galloonlaw01_TrimOwn.l0])
          | succ k2 =>
            have H := HA.out
            clear HA
            simp only [galloonlaw01_TrimOwn.l0] at H
            by_cases c22 : x11_2 < (x4_2.length : Int)
            · rw [if_pos c22] at H
              have c22b0 : decide (x11_2 < (x4_2.length : Int)) = true := decide_eq_true c22
              clear c22
              by_cases c23 : 0 ≤ x11_2
              · rw [if_pos c23] at H
                have c23b0 : decide (0 ≤ x11_2) = true := decide_eq_true c23
                clear c23
                obtain ⟨y576, hy576⟩ : ∃ y_ : List ByteArray, y_ = (x4_2.set (x11_2 : Int).toNat (⟨#[120]⟩ : ByteArray)) := ⟨_, rfl⟩
                replace H : (galloonlaw01_TrimOwn.l0 k2 t558 y576 t563 t567 t571 (wrap64 (x11_2 + 1))) = some r := by first | (rw [hy576]; with_reducible exact H) | (have H2_ := (Option.bind_some _ _).symm.trans H; rw [hy576]; with_reducible exact H2_) | (have H2_ := (Option.bind_some _ _).symm.trans H; with_reducible exact H2_) | with_reducible exact H | (rw [hy576]; exact H) | exact H
                have Ny576 := Aside0.mk hy576
                clear hy576
                have H' := Aside0.mk H
                clear H
                obtain ⟨Ao25, co25, eo25⟩ := Kd.R_slice HO_4.out
                subst eo25
                have p24 : 0 ≤ (x11_2 : Int) := of_decide_eq_true (by first | (with_reducible assumption) | assumption)
                have q24 : (x11_2 : Int) < ((x4_2.length : Int) : Int) := of_decide_eq_true (by first | (with_reducible assumption) | assumption)
                obtain ⟨go24, co24, eo24, gb24, gl24, cl24, HG24⟩ := Kd.R_form HO_4.out (by omega)
                (first | cases eo24 | (injection eo24 with ea_ en_ ec_; (first | subst ea_ | (injection ea_ with ea_; subst ea_)); subst ec_; clear en_))
                have GB24 := Aside0.mk gb24
                have GG24 := Aside0.mk HG24
                clear gb24 gl24 HG24
                obtain ⟨hx24_0, hf24_0⟩ := Kd.R_celln (⟨#[]⟩ : ByteArray) HO_4.out (x11_2 : Int) p24 q24
                replace p24 := eq_true p24
                replace q24 := eq_true q24
                have HP26 := Kd.R_putg HO_4.out (x11_2 : Int) (⟨#[120]⟩ : ByteArray)
                go_wp2_with (first | ((with_reducible refine gate_store (t := 9) (p := 66) rfl ?_); refine store_event (t := 9) (p := 66) (v := ?vo_w27) (w1 := (wr.setCell ⟨go24, (x11_2 : Int).toNat, none⟩ (.string (⟨#[120]⟩ : ByteArray)))) ?hg ?ho ?hn ?hr ?_; (case ho => rfl); (case hg => rfl); (case hn => rfl); (case hr => first | (go_simp; done) | (go_simp; rfl)); intro w27 hw; have hg : wr.grownBy w27 (some go24) := (by rw [hw]; exact HP26.2); have hp_ : Kd.R Kd.string 9 w27 w.heap.size (fun k_ => some k_ ≠ (.slice Ao13 t567.length co13 : Value).ownBlock ∧ some k_ ≠ (v572 : Value).ownBlock) (.slice (some ⟨go24, 0, none⟩) x4_2.length co25) y576 := (by rw [hw, Ny576.out]; exact HP26.1); clear HP26; have n0_ := Aside0.mk (hp_); have n1_ := Aside0.mk (Kd.R_over' (v := (.slice (some ⟨go24, 0, none⟩) x4_2.length co25)) (by (with_reducible repeat (first | apply Kd.R_alloc | apply Kd.R_drewN | apply Kd.R_drew)); exact HO_6.out) (Kd.R_typed HO_4.out) (by decide) hg); have n2_ := Aside0.mk (Kd.R_after (v := (.slice (some ⟨go24, 0, none⟩) x4_2.length co25)) (v1 := (.slice (some ⟨go24, 0, none⟩) x4_2.length co25)) (ok := (fun k_ => some k_ ≠ (v572 : Value).ownBlock)) (by (with_reducible repeat (first | apply Kd.R_alloc | apply Kd.R_drewN | apply Kd.R_drew)); exact Kd.R_mono HO_8.out (fun _ hk => ⟨hk.2, hk.1⟩)) hg (.inl rfl)); have n3_ := Aside0.mk (Kd.R_after (v := (.slice (some ⟨go24, 0, none⟩) x4_2.length co25)) (v1 := (.slice (some ⟨go24, 0, none⟩) x4_2.length co25)) (ok := (fun k_ => some k_ ≠ (.slice Ao13 t567.length co13 : Value).ownBlock)) (by (with_reducible repeat (first | apply Kd.R_alloc | apply Kd.R_drewN | apply Kd.R_drew)); exact Kd.R_mono HO_10.out (fun _ hk => ⟨hk.2, hk.1⟩)) hg (.inl rfl)); have n4_ := Aside0.mk ((by rw [hw]; exact below_set (HB.out) GB24.out : Below w.heap.size w w27)); clear HO_4; clear HO_6; clear HO_8; clear HO_10; clear HB; have HO_4 := n0_; have HO_6 := n1_; have HO_8 := n2_; have HO_10 := n3_; have HB := n4_; clear n0_ n1_ n2_ n3_ n4_; clear hg hw hp_))
                go_roundg k2
                case measure => have := HJ7.out; have := HK2.out; omega
                case rel => exact ⟨(y576), (wrap64 (x11_2 + 1)), (by first | rfl | (simp; done) | (simp [*]; done)), H', ⟨by have := HJ7.out; have := HK2.out; omega⟩, ⟨by (with_reducible repeat (first | apply Kd.R_alloc | apply Kd.R_drewN | apply Kd.R_drew)); exact HO_4.out⟩, ⟨by (with_reducible repeat (first | apply Kd.R_alloc | apply Kd.R_drewN | apply Kd.R_drew)); exact HO_6.out⟩, ⟨by (with_reducible repeat (first | apply Kd.R_alloc | apply Kd.R_drewN | apply Kd.R_drew)); exact Kd.R_mono HO_8.out (fun _ hk => ⟨hk.2, hk.1⟩)⟩, ⟨by (with_reducible repeat (first | apply Kd.R_alloc | apply Kd.R_drewN | apply Kd.R_drew)); exact Kd.R_mono HO_10.out (fun _ hk => ⟨hk.2, hk.1⟩)⟩, ⟨by repeat (first | (with_reducible first | exact HB.out | apply below_alloc | apply pw_below_drewN | apply below_drew1) | exact HB.out)⟩⟩
              · rw [if_neg c23] at H
                exact absurd H (by simp)
            · rw [if_neg c22] at H
              have c22b0 : decide (x11_2 < (x4_2.length : Int)) = false := decide_eq_false c22
              clear c22
              have H' := Aside0.mk H
              clear H
              obtain ⟨Ao28, co28, eo28⟩ := Kd.R_slice HO_4.out
              subst eo28
              go_wp2
              go_loopg [12] k2 (fun kq v12 w' => ∃ (x6_3 : List Int) (x12_3 : Int), v12 = .int .i64 x12_3 ∧ Aside0 (galloonlaw01_TrimOwn.l1 kq t558 x6_3 t567 t571 x12_3 = some r) ∧ Aside0 (kq ≤ k2) ∧ Aside0 (Kd.R (Kd.int .i64) 3 w' w.heap.size (fun _ => True) v565 x6_3) ∧ Aside0 (Kd.R Kd.string 9 w' w.heap.size (fun k_ => some k_ ≠ (v572 : Value).ownBlock) (.slice Ao13 t567.length co13) t567) ∧ Aside0 (Kd.R Kd.string 9 w' w.heap.size (fun k_ => some k_ ≠ ((.slice Ao13 t567.length co13) : Value).ownBlock) v572 t571) ∧ Aside0 (Below w.heap.size w w'))
              case atStart => exact ⟨(t563), (0), (by first | rfl | (simp; done) | (simp [*]; done)), H', ⟨Nat.le_refl _⟩, ⟨by (with_reducible repeat (first | apply Kd.R_alloc | apply Kd.R_drewN | apply Kd.R_drew)); exact HO_6.out⟩, ⟨by (with_reducible repeat (first | apply Kd.R_alloc | apply Kd.R_drewN | apply Kd.R_drew)); exact Kd.R_mono HO_8.out (fun _ hk => hk.2)⟩, ⟨by (with_reducible repeat (first | apply Kd.R_alloc | apply Kd.R_drewN | apply Kd.R_drew)); exact Kd.R_mono HO_10.out (fun _ hk => hk.2)⟩, ⟨by repeat (first | (with_reducible first | exact HB.out | apply below_alloc | apply pw_below_drewN | apply below_drew1) | exact HB.out)⟩⟩
              case round =>
                clear H'
                try clear c1
                try clear c2
                try clear p2
                try clear q2
                try clear hx2
                try clear hf2
                try clear c3
                try clear c4
                try clear c5
                try clear p6
                try clear c14
                try clear c16
                try clear c16b0
                try clear c16b1
                try clear c17
                try clear c17b0
                try clear c17b1
                try clear c18
                try clear c18b0
                try clear c18b1
                try clear c21
                try clear c22
                try clear c22b0
                try clear c23
                try clear c23b0
                try clear p24
                try clear q24
                try clear hx24
                try clear hf24
                try clear hx24_0
                try clear p2
                try clear p24
                try clear q24
                obtain ⟨x6_3, x12_3, rfl, HA, HK3, HO_6, HO_8, HO_10, HB⟩ := hrel
                cases gk with
                | zero => exact absurd HA.out (by simp [galloonlaw01_TrimOwn.l1])
                | succ k3 =>
                  have H := HA.out
                  clear HA
                  simp only [galloonlaw01_TrimOwn.l1] at H
                  by_cases c29 : x12_3 < (x6_3.length : Int)
                  · rw [if_pos c29] at H
                    have c29b0 : decide (x12_3 < (x6_3.length : Int)) = true := decide_eq_true c29
                    clear c29
                    by_cases c30 : 0 ≤ x12_3
                    · rw [if_pos c30] at H
                      have c30b0 : decide (0 ≤ x12_3) = true := decide_eq_true c30
                      clear c30
                      obtain ⟨y577, hy577⟩ : ∃ y_ : List Int, y_ = (x6_3.set (x12_3 : Int).toNat (-7)) := ⟨_, rfl⟩
                      replace H : (galloonlaw01_TrimOwn.l1 k3 t558 y577 t567 t571 (wrap64 (x12_3 + 1))) = some r := by first | (rw [hy577]; with_reducible exact H) | (have H2_ := (Option.bind_some _ _).symm.trans H; rw [hy577]; with_reducible exact H2_) | (have H2_ := (Option.bind_some _ _).symm.trans H; with_reducible exact H2_) | with_reducible exact H | (rw [hy577]; exact H) | exact H
                      have Ny577 := Aside0.mk hy577
                      clear hy577
                      have H' := Aside0.mk H
                      clear H
                      obtain ⟨Ao32, co32, eo32⟩ := Kd.R_slice HO_6.out
                      subst eo32
                      have p31 : 0 ≤ (x12_3 : Int) := of_decide_eq_true (by first | (with_reducible assumption) | assumption)
                      have q31 : (x12_3 : Int) < ((x6_3.length : Int) : Int) := of_decide_eq_true (by first | (with_reducible assumption) | assumption)
                      obtain ⟨go31, co31, eo31, gb31, gl31, cl31, HG31⟩ := Kd.R_form HO_6.out (by omega)
                      (first | cases eo31 | (injection eo31 with ea_ en_ ec_; (first | subst ea_ | (injection ea_ with ea_; subst ea_)); subst ec_; clear en_))
                      have GB31 := Aside0.mk gb31
                      have GG31 := Aside0.mk HG31
                      clear gb31 gl31 HG31
                      obtain ⟨hx31_0, hf31_0⟩ := Kd.R_celln 0 HO_6.out (x12_3 : Int) p31 q31
                      replace p31 := eq_true p31
                      replace q31 := eq_true q31
                      have HP33 := Kd.R_putg HO_6.out (x12_3 : Int) (-7)
                      go_wp2_with (first | ((with_reducible refine gate_store (t := 3) (p := 75) rfl ?_); refine store_event (t := 3) (p := 75) (v := ?vo_w34) (w1 := (wr.setCell ⟨go31, (x12_3 : Int).toNat, none⟩ (.int .i64 (-7)))) ?hg ?ho ?hn ?hr ?_; (case ho => rfl); (case hg => rfl); (case hn => rfl); (case hr => first | (go_simp; done) | (go_simp; rfl)); intro w34 hw; have hg : wr.grownBy w34 (some go31) := (by rw [hw]; exact HP33.2); have hp_ : Kd.R (Kd.int .i64) 3 w34 w.heap.size (fun _ => True) (.slice (some ⟨go31, 0, none⟩) x6_3.length co32) y577 := (by rw [hw, Ny577.out]; exact HP33.1); clear HP33; have n0_ := Aside0.mk (hp_); have n1_ := Aside0.mk (Kd.R_over' (v := (.slice (some ⟨go31, 0, none⟩) x6_3.length co32)) (by (with_reducible repeat (first | apply Kd.R_alloc | apply Kd.R_drewN | apply Kd.R_drew)); exact HO_8.out) (Kd.R_typed HO_6.out) (by decide) hg); have n2_ := Aside0.mk (Kd.R_over' (v := (.slice (some ⟨go31, 0, none⟩) x6_3.length co32)) (by (with_reducible repeat (first | apply Kd.R_alloc | apply Kd.R_drewN | apply Kd.R_drew)); exact HO_10.out) (Kd.R_typed HO_6.out) (by decide) hg); have n3_ := Aside0.mk ((by rw [hw]; exact below_set (HB.out) GB31.out : Below w.heap.size w w34)); clear HO_6; clear HO_8; clear HO_10; clear HB; have HO_6 := n0_; have HO_8 := n1_; have HO_10 := n2_; have HB := n3_; clear n0_ n1_ n2_ n3_; clear hg hw hp_))
                      go_roundg k3
                      case measure => have := HJ7.out; have := HK2.out; have := HK3.out; omega
                      case rel => exact ⟨(y577), (wrap64 (x12_3 + 1)), (by first | rfl | (simp; done) | (simp [*]; done)), H', ⟨by have := HJ7.out; have := HK2.out; have := HK3.out; omega⟩, ⟨by (with_reducible repeat (first | apply Kd.R_alloc | apply Kd.R_drewN | apply Kd.R_drew)); exact HO_6.out⟩, ⟨by (with_reducible repeat (first | apply Kd.R_alloc | apply Kd.R_drewN | apply Kd.R_drew)); exact HO_8.out⟩, ⟨by (with_reducible repeat (first | apply Kd.R_alloc | apply Kd.R_drewN | apply Kd.R_drew)); exact HO_10.out⟩, ⟨by repeat (first | (with_reducible first | exact HB.out | apply below_alloc | apply pw_below_drewN | apply below_drew1) | exact HB.out)⟩⟩
                    · rw [if_neg c30] at H
                      exact absurd H (by simp)
                  · rw [if_neg c29] at H
                    have c29b0 : decide (x12_3 < (x6_3.length : Int)) = false := decide_eq_false c29
                    clear c29
                    have H' := Aside0.mk H
                    clear H
                    obtain ⟨Ao35, co35, eo35⟩ := Kd.R_slice HO_6.out
                    subst eo35
                    go_wp2
                    go_loopg [13] k3 (fun kq v13 w' => ∃ (x8_4 : List ByteArray) (x13_4 : Int), v13 = .int .i64 x13_4 ∧ Aside0 (galloonlaw01_TrimOwn.l2 kq t558 x8_4 t571 x13_4 = some r) ∧ Aside0 (kq ≤ k3) ∧ Aside0 (Kd.R Kd.string 9 w' w.heap.size (fun k_ => some k_ ≠ (v572 : Value).ownBlock) (.slice Ao13 t567.length co13) x8_4) ∧ Aside0 (Kd.R Kd.string 9 w' w.heap.size (fun k_ => some k_ ≠ ((.slice Ao13 t567.length co13) : Value).ownBlock) v572 t571) ∧ Aside0 (Below w.heap.size w w'))
                    case atStart => exact ⟨(t567), (0), (by first | rfl | (simp; done) | (simp [*]; done)), H', ⟨Nat.le_refl _⟩, ⟨by (with_reducible repeat (first | apply Kd.R_alloc | apply Kd.R_drewN | apply Kd.R_drew)); exact HO_8.out⟩, ⟨by (with_reducible repeat (first | apply Kd.R_alloc | apply Kd.R_drewN | apply Kd.R_drew)); exact HO_10.out⟩, ⟨by repeat (first | (with_reducible first | exact HB.out | apply below_alloc | apply pw_below_drewN | apply below_drew1) | exact HB.out)⟩⟩
                    case round =>
                      clear H'
                      try clear c1
                      try clear c2
                      try clear p2
                      try clear q2
                      try clear hx2
                      try clear hf2
                      try clear c3
                      try clear p3
                      try clear q3
                      try clear hx3
                      try clear hf3
                      try clear c4
                      try clear c5
                      try clear p6
                      try clear c14
                      try clear c16
                      try clear c16b0
                      try clear c16b1
                      try clear c17
                      try clear c17b0
                      try clear c17b1
                      try clear c18
                      try clear c18b0
                      try clear c18b1
                      try clear c21
                      try clear c22
                      try clear c22b0
                      try clear c23
                      try clear c23b0
                      try clear p24
                      try clear q24
                      try clear hx24
                      try clear hf24
                      try clear c29
                      try clear c29b0
                      try clear c30
                      try clear c30b0
                      try clear p31
                      try clear q31
                      try clear hx31
                      try clear hf31
                      try clear c33
                      try clear c34
                      try clear hx24_0
                      try clear hx31_0
                      try clear p2
                      try clear p24
                      try clear p31
                      try clear p6
                      try clear q2
                      try clear q24
                      try clear q31
                      obtain ⟨x8_4, x13_4, rfl, HA, HK4, HO_8, HO_10, HB⟩ := hrel
                      have hl8_4 := (Kd.R_reads' HO_8.out).1
                      rw [hl8_4] at HO_8
                      (try simp only [hl8_4])
                      (try simp only [hl8_4] at HO_10)
                      cases gk with
                      | zero => exact absurd HA.out (by simp [galloonlaw01_TrimOwn.l2])
                      | succ k4 =>
                        have H := HA.out
                        clear HA
                        simp only [galloonlaw01_TrimOwn.l2] at H
                        by_cases c36 : x13_4 < (x8_4.length : Int)
                        · rw [if_pos c36] at H
                          have c36b0 : decide (x13_4 < (x8_4.length : Int)) = true := decide_eq_true c36
                          clear c36
                          by_cases c37 : 0 ≤ x13_4
                          · rw [if_pos c37] at H
                            have c37b0 : decide (0 ≤ x13_4) = true := decide_eq_true c37
                            clear c37
                            obtain ⟨y578, hy578⟩ : ∃ y_ : List ByteArray, y_ = (x8_4.set (x13_4 : Int).toNat (⟨#[120]⟩ : ByteArray)) := ⟨_, rfl⟩
                            replace H : (galloonlaw01_TrimOwn.l2 k4 t558 y578 t571 (wrap64 (x13_4 + 1))) = some r := by first | (rw [hy578]; with_reducible exact H) | (have H2_ := (Option.bind_some _ _).symm.trans H; rw [hy578]; with_reducible exact H2_) | (have H2_ := (Option.bind_some _ _).symm.trans H; with_reducible exact H2_) | with_reducible exact H | (rw [hy578]; exact H) | exact H
                            have Ny578 := Aside0.mk hy578
                            clear hy578
                            have H' := Aside0.mk H
                            clear H
                            have p38 : 0 ≤ (x13_4 : Int) := of_decide_eq_true (by first | (with_reducible assumption) | assumption)
                            have q38 : (x13_4 : Int) < ((x8_4.length : Int) : Int) := of_decide_eq_true (by first | (with_reducible assumption) | assumption)
                            obtain ⟨go38, co38, eo38, gb38, gl38, cl38, HG38⟩ := Kd.R_form HO_8.out (by omega)
                            (first | cases eo38 | (injection eo38 with ea_ en_ ec_; (first | subst ea_ | (injection ea_ with ea_; subst ea_)); subst ec_; clear en_))
                            have GB38 := Aside0.mk gb38
                            have GG38 := Aside0.mk HG38
                            clear gb38 gl38 HG38
                            obtain ⟨hx38_0, hf38_0⟩ := Kd.R_celln (⟨#[]⟩ : ByteArray) HO_8.out (x13_4 : Int) p38 q38
                            replace p38 := eq_true p38
                            replace q38 := eq_true q38
                            have HP39 := Kd.R_putg HO_8.out (x13_4 : Int) (⟨#[120]⟩ : ByteArray)
                            go_wp2_with (first | ((with_reducible refine gate_store (t := 9) (p := 84) rfl ?_); refine store_event (t := 9) (p := 84) (v := ?vo_w40) (w1 := (wr.setCell ⟨go38, (x13_4 : Int).toNat, none⟩ (.string (⟨#[120]⟩ : ByteArray)))) ?hg ?ho ?hn ?hr ?_; (case ho => rfl); (case hg => rfl); (case hn => rfl); (case hr => first | (go_simp; done) | (go_simp; rfl)); intro w40 hw; have hg : wr.grownBy w40 (some go38) := (by rw [hw]; exact HP39.2); have hp_ : Kd.R Kd.string 9 w40 w.heap.size (fun k_ => some k_ ≠ (v572 : Value).ownBlock) (.slice (some ⟨go38, 0, none⟩) x8_4.length co13) y578 := (by rw [hw, Ny578.out]; exact HP39.1); clear HP39; have n0_ := Aside0.mk (hp_); have n1_ := Aside0.mk (Kd.R_after (v := (.slice (some ⟨go38, 0, none⟩) x8_4.length co13)) (v1 := (.slice (some ⟨go38, 0, none⟩) x8_4.length co13)) (ok := (fun _ => True)) (by (with_reducible repeat (first | apply Kd.R_alloc | apply Kd.R_drewN | apply Kd.R_drew)); exact Kd.R_mono HO_10.out (fun _ hk => ⟨trivial, hk⟩)) hg (.inl rfl)); have n2_ := Aside0.mk ((by rw [hw]; exact below_set (HB.out) GB38.out : Below w.heap.size w w40)); clear HO_8; clear HO_10; clear HB; have HO_8 := n0_; have HO_10 := n1_; have HB := n2_; clear n0_ n1_ n2_; clear hg hw hp_))
                            (try simp only [← hl8_4])
                            go_roundg k4
                            case measure => have := HJ7.out; have := HK2.out; have := HK3.out; have := HK4.out; omega
                            case rel => exact ⟨(y578), (wrap64 (x13_4 + 1)), (by first | rfl | (simp; done) | (simp [*]; done)), H', ⟨by have := HJ7.out; have := HK2.out; have := HK3.out; have := HK4.out; omega⟩, ⟨by (try simp only [hl8_4]); (with_reducible repeat (first | apply Kd.R_alloc | apply Kd.R_drewN | apply Kd.R_drew)); exact HO_8.out⟩, ⟨by (try simp only [hl8_4]); (with_reducible repeat (first | apply Kd.R_alloc | apply Kd.R_drewN | apply Kd.R_drew)); exact Kd.R_mono HO_10.out (fun _ hk => hk.2)⟩, ⟨by repeat (first | (with_reducible first | exact HB.out | apply below_alloc | apply pw_below_drewN | apply below_drew1) | exact HB.out)⟩⟩
                          · rw [if_neg c37] at H
                            exact absurd H (by simp)
                        · rw [if_neg c36] at H
                          have c36b0 : decide (x13_4 < (x8_4.length : Int)) = false := decide_eq_false c36
                          clear c36
                          replace H := Option.bind_eq_some_iff.mp H
                          obtain ⟨⟨t579, t580⟩, A410, H⟩ := H
                          replace H : ((trim_Centers.f k4 t558).bind fun bt583 => ((trim_Fewest.f k4 t558).bind fun bt587 => (if t580 = 0 then (if bt583.2 = 0 then (if bt587.2 = 0 then ((galloonref01_Palindromes.f k4 t558).bind fun t591 => ((galloonlaw01_texts.f k4 t579 t591).bind fun t594 => (if t594 = true then ((galloonref01_Centers.f k4 t558).bind fun t595 => ((galloonlaw01_ints.f k4 bt583.1 t595).bind fun t598 => (if t598 = true then ((galloonlaw01_texts.f k4 bt587.1 t571).bind fun t599 => (if t599 = true then ((galloonlaw01_awake.f k4).bind fun t600 => (some t600)) else (some false))) else (some false)))) else (some false)))) else (some false)) else (some false)) else (some false)))) = some r := H
                          have A41 := Aside0.mk A410
                          clear A410
                          replace H := Option.bind_eq_some_iff.mp H
                          obtain ⟨⟨t583, t584⟩, A420, H⟩ := H
                          replace H : ((trim_Fewest.f k4 t558).bind fun bt587 => (if t580 = 0 then (if t584 = 0 then (if bt587.2 = 0 then ((galloonref01_Palindromes.f k4 t558).bind fun t591 => ((galloonlaw01_texts.f k4 t579 t591).bind fun t594 => (if t594 = true then ((galloonref01_Centers.f k4 t558).bind fun t595 => ((galloonlaw01_ints.f k4 t583 t595).bind fun t598 => (if t598 = true then ((galloonlaw01_texts.f k4 bt587.1 t571).bind fun t599 => (if t599 = true then ((galloonlaw01_awake.f k4).bind fun t600 => (some t600)) else (some false))) else (some false)))) else (some false)))) else (some false)) else (some false)) else (some false))) = some r := H
                          have A42 := Aside0.mk A420
                          clear A420
                          replace H := Option.bind_eq_some_iff.mp H
                          obtain ⟨⟨t587, t588⟩, A430, H⟩ := H
                          replace H : (if t580 = 0 then (if t584 = 0 then (if t588 = 0 then ((galloonref01_Palindromes.f k4 t558).bind fun t591 => ((galloonlaw01_texts.f k4 t579 t591).bind fun t594 => (if t594 = true then ((galloonref01_Centers.f k4 t558).bind fun t595 => ((galloonlaw01_ints.f k4 t583 t595).bind fun t598 => (if t598 = true then ((galloonlaw01_texts.f k4 t587 t571).bind fun t599 => (if t599 = true then ((galloonlaw01_awake.f k4).bind fun t600 => (some t600)) else (some false))) else (some false)))) else (some false)))) else (some false)) else (some false)) else (some false)) = some r := H
                          have A43 := Aside0.mk A430
                          clear A430
                          by_cases c44 : t580 = 0
                          · rw [if_pos c44] at H
                            have c44b0 : (t580 == 0) = true := beq_iff_eq.mpr c44
                            have c44b1 : (t580 != 0) = false := bne_eq_false_iff_eq.mpr c44
                            clear c44
                            by_cases c45 : t584 = 0
                            · rw [if_pos c45] at H
                              have c45b0 : (t584 == 0) = true := beq_iff_eq.mpr c45
                              have c45b1 : (t584 != 0) = false := bne_eq_false_iff_eq.mpr c45
                              clear c45
                              by_cases c46 : t588 = 0
                              · rw [if_pos c46] at H
                                have c46b0 : (t588 == 0) = true := beq_iff_eq.mpr c46
                                have c46b1 : (t588 != 0) = false := bne_eq_false_iff_eq.mpr c46
                                clear c46
                                replace H := Option.bind_eq_some_iff.mp H
                                obtain ⟨t591, A470, H⟩ := H
                                replace H : ((galloonlaw01_texts.f k4 t579 t591).bind fun t594 => (if t594 = true then ((galloonref01_Centers.f k4 t558).bind fun t595 => ((galloonlaw01_ints.f k4 t583 t595).bind fun t598 => (if t598 = true then ((galloonlaw01_texts.f k4 t587 t571).bind fun t599 => (if t599 = true then ((galloonlaw01_awake.f k4).bind fun t600 => (some t600)) else (some false))) else (some false)))) else (some false))) = some r := H
                                have A47 := Aside0.mk A470
                                clear A470
                                replace H := Option.bind_eq_some_iff.mp H
                                obtain ⟨t594, A480, H⟩ := H
                                replace H : (if t594 = true then ((galloonref01_Centers.f k4 t558).bind fun t595 => ((galloonlaw01_ints.f k4 t583 t595).bind fun t598 => (if t598 = true then ((galloonlaw01_texts.f k4 t587 t571).bind fun t599 => (if t599 = true then ((galloonlaw01_awake.f k4).bind fun t600 => (some t600)) else (some false))) else (some false)))) else (some false)) = some r := H
                                have A48 := Aside0.mk A480
                                clear A480
                                by_cases c49 : t594 = true
                                · subst c49
                                  have H1 : ((galloonref01_Centers.f k4 t558).bind fun t595 => ((galloonlaw01_ints.f k4 t583 t595).bind fun t598 => (if t598 = true then ((galloonlaw01_texts.f k4 t587 t571).bind fun t599 => (if t599 = true then ((galloonlaw01_awake.f k4).bind fun t600 => (some t600)) else (some false))) else (some false)))) = some r := by rw [if_pos rfl] at H; exact H
                                  clear H
                                  have H := H1
                                  clear H1
                                  replace H := Option.bind_eq_some_iff.mp H
                                  obtain ⟨t595, A500, H⟩ := H
                                  replace H : ((galloonlaw01_ints.f k4 t583 t595).bind fun t598 => (if t598 = true then ((galloonlaw01_texts.f k4 t587 t571).bind fun t599 => (if t599 = true then ((galloonlaw01_awake.f k4).bind fun t600 => (some t600)) else (some false))) else (some false))) = some r := H
                                  have A50 := Aside0.mk A500
                                  clear A500
                                  replace H := Option.bind_eq_some_iff.mp H
                                  obtain ⟨t598, A510, H⟩ := H
                                  replace H : (if t598 = true then ((galloonlaw01_texts.f k4 t587 t571).bind fun t599 => (if t599 = true then ((galloonlaw01_awake.f k4).bind fun t600 => (some t600)) else (some false))) else (some false)) = some r := H
                                  have A51 := Aside0.mk A510
                                  clear A510
                                  by_cases c52 : t598 = true
                                  · subst c52
                                    have H1 : ((galloonlaw01_texts.f k4 t587 t571).bind fun t599 => (if t599 = true then ((galloonlaw01_awake.f k4).bind fun t600 => (some t600)) else (some false))) = some r := by rw [if_pos rfl] at H; exact H
                                    clear H
                                    have H := H1
                                    clear H1
                                    replace H := Option.bind_eq_some_iff.mp H
                                    obtain ⟨t599, A530, H⟩ := H
                                    replace H : (if t599 = true then ((galloonlaw01_awake.f k4).bind fun t600 => (some t600)) else (some false)) = some r := H
                                    have A53 := Aside0.mk A530
                                    clear A530
                                    by_cases c54 : t599 = true
                                    · subst c54
                                      have H1 : ((galloonlaw01_awake.f k4).bind fun t600 => (some t600)) = some r := by rw [if_pos rfl] at H; exact H
                                      clear H
                                      have H := H1
                                      clear H1
                                      replace H := Option.bind_eq_some_iff.mp H
                                      obtain ⟨t600, A550, H⟩ := H
                                      replace H : (some t600) = some r := H
                                      have A55 := Aside0.mk A550
                                      clear A550
                                      obtain rfl := Option.some.inj H
                                      go_wp2_with (first | ((with_reducible refine gate_callee (f := 33) rfl ?_); refine goesL_ (some 87) rfl rfl Try.func33 (by kernel_rfl) rfl #[.string t558] rfl (by (try simp only [List.map_toArray, List.map_cons, List.map_nil]); first | done | rfl | (simp only [List.length_drop, List.length_take]; rfl)) ?_; (with_reducible refine (trim_Palindromes.calls t558 t579 t580 _ A41.out).mono ?_); rintro e w56 ⟨v581, rfl, ho0, hb⟩; refine ⟨_, rfl, ?_⟩; have n0_ := Aside0.mk (Kd.R_elder' (by (with_reducible repeat (first | apply Kd.R_alloc | apply Kd.R_drewN | apply Kd.R_drew)); exact HO_8.out) (Kd.R_base ho0) hb); have n1_ := Aside0.mk (Kd.R_elder' (by (with_reducible repeat (first | apply Kd.R_alloc | apply Kd.R_drewN | apply Kd.R_drew)); exact HO_10.out) (Kd.R_base ho0) hb); have n2_ := Aside0.mk (Kd.R_lower (Kd.R_new' (Kd.R_new' ho0 (Kd.R_lt (by (with_reducible repeat (first | apply Kd.R_alloc | apply Kd.R_drewN | apply Kd.R_drew)); exact HO_8.out))) (Kd.R_lt (by (with_reducible repeat (first | apply Kd.R_alloc | apply Kd.R_drewN | apply Kd.R_drew)); exact HO_10.out))) (below_size (by repeat (first | (with_reducible first | exact HB.out | apply below_alloc | apply pw_below_drewN | apply below_drew1) | exact HB.out)))); have n3_ := Aside0.mk (below_step (by repeat (first | (with_reducible first | exact HB.out | apply below_alloc | apply pw_below_drewN | apply below_drew1) | exact HB.out)) hb); clear HO_8; clear HO_10; clear HB; have HO_8 := n0_; have HO_10 := n1_; have HO582 := n2_; have HB := n3_; clear n0_ n1_ n2_ n3_; (try clear hb); (try clear hb2); (try clear hk); (try clear hi); (try clear ho0)) | ((with_reducible refine gate_callee (f := 34) rfl ?_); refine goesL_ (some 92) rfl rfl Try.func34 (by kernel_rfl) rfl #[.string t558] rfl (by (try simp only [List.map_toArray, List.map_cons, List.map_nil]); first | done | rfl | (simp only [List.length_drop, List.length_take]; rfl)) ?_; (with_reducible refine (trim_Centers.calls k4 t558 t583 t584 _ A42.out).mono ?_); rintro e w57 ⟨v585, rfl, ho0, hb⟩; refine ⟨_, rfl, ?_⟩; have n0_ := Aside0.mk (Kd.R_below (by (with_reducible repeat (first | apply Kd.R_alloc | apply Kd.R_drewN | apply Kd.R_drew)); exact HO_8.out) hb); have n1_ := Aside0.mk (Kd.R_below (by (with_reducible repeat (first | apply Kd.R_alloc | apply Kd.R_drewN | apply Kd.R_drew)); exact HO_10.out) hb); have n2_ := Aside0.mk (Kd.R_below (by (with_reducible repeat (first | apply Kd.R_alloc | apply Kd.R_drewN | apply Kd.R_drew)); exact HO582.out) hb); have n3_ := Aside0.mk (Kd.R_lower ho0 (below_size (by repeat (first | (with_reducible first | exact HB.out | apply below_alloc | apply pw_below_drewN | apply below_drew1) | exact HB.out)))); have n4_ := Aside0.mk (below_step (by repeat (first | (with_reducible first | exact HB.out | apply below_alloc | apply pw_below_drewN | apply below_drew1) | exact HB.out)) hb); clear HO_8; clear HO_10; clear HO582; clear HB; have HO_8 := n0_; have HO_10 := n1_; have HO582 := n2_; have HO586 := n3_; have HB := n4_; clear n0_ n1_ n2_ n3_ n4_; (try clear hb); (try clear hb2); (try clear hk); (try clear hi); (try clear ho0)) | ((with_reducible refine gate_callee (f := 50) rfl ?_); refine goesL_ (some 97) rfl rfl Try.func50 (by kernel_rfl) rfl #[.string t558] rfl (by (try simp only [List.map_toArray, List.map_cons, List.map_nil]); first | done | rfl | (simp only [List.length_drop, List.length_take]; rfl)) ?_; (with_reducible refine (trim_Fewest.calls k4 t558 t587 t588 _ A43.out).mono ?_); rintro e w58 ⟨v589, rfl, ho0, hb⟩; refine ⟨_, rfl, ?_⟩; have n0_ := Aside0.mk (Kd.R_elder' (by (with_reducible repeat (first | apply Kd.R_alloc | apply Kd.R_drewN | apply Kd.R_drew)); exact HO_8.out) (Kd.R_base ho0) hb); have n1_ := Aside0.mk (Kd.R_elder' (by (with_reducible repeat (first | apply Kd.R_alloc | apply Kd.R_drewN | apply Kd.R_drew)); exact HO_10.out) (Kd.R_base ho0) hb); have n2_ := Aside0.mk (Kd.R_elder' (by (with_reducible repeat (first | apply Kd.R_alloc | apply Kd.R_drewN | apply Kd.R_drew)); exact HO582.out) (Kd.R_base ho0) hb); have n3_ := Aside0.mk (Kd.R_below (by (with_reducible repeat (first | apply Kd.R_alloc | apply Kd.R_drewN | apply Kd.R_drew)); exact HO586.out) hb); have n4_ := Aside0.mk (Kd.R_lower (Kd.R_new' (Kd.R_new' (Kd.R_new' ho0 (Kd.R_lt (by (with_reducible repeat (first | apply Kd.R_alloc | apply Kd.R_drewN | apply Kd.R_drew)); exact HO_8.out))) (Kd.R_lt (by (with_reducible repeat (first | apply Kd.R_alloc | apply Kd.R_drewN | apply Kd.R_drew)); exact HO_10.out))) (Kd.R_lt (by (with_reducible repeat (first | apply Kd.R_alloc | apply Kd.R_drewN | apply Kd.R_drew)); exact HO582.out))) (below_size (by repeat (first | (with_reducible first | exact HB.out | apply below_alloc | apply pw_below_drewN | apply below_drew1) | exact HB.out)))); have n5_ := Aside0.mk (below_step (by repeat (first | (with_reducible first | exact HB.out | apply below_alloc | apply pw_below_drewN | apply below_drew1) | exact HB.out)) hb); clear HO_8; clear HO_10; clear HO582; clear HO586; clear HB; have HO_8 := n0_; have HO_10 := n1_; have HO582 := n2_; have HO586 := n3_; have HO590 := n4_; have HB := n5_; clear n0_ n1_ n2_ n3_ n4_ n5_; (try clear hb); (try clear hb2); (try clear hk); (try clear hi); (try clear ho0)) | (go_at_call 39; (with_reducible refine (galloonref01_Palindromes.calls k4 t558 t591 _ A47.out).mono ?_); rintro e w59 ⟨v592, rfl, ho0, hb⟩; have n0_ := Aside0.mk (Kd.R_elder' (by (with_reducible repeat (first | apply Kd.R_alloc | apply Kd.R_drewN | apply Kd.R_drew)); exact HO_8.out) (Kd.R_base ho0) hb); have n1_ := Aside0.mk (Kd.R_elder' (by (with_reducible repeat (first | apply Kd.R_alloc | apply Kd.R_drewN | apply Kd.R_drew)); exact HO_10.out) (Kd.R_base ho0) hb); have n2_ := Aside0.mk (Kd.R_elder' (by (with_reducible repeat (first | apply Kd.R_alloc | apply Kd.R_drewN | apply Kd.R_drew)); exact HO582.out) (Kd.R_base ho0) hb); have n3_ := Aside0.mk (Kd.R_below (by (with_reducible repeat (first | apply Kd.R_alloc | apply Kd.R_drewN | apply Kd.R_drew)); exact HO586.out) hb); have n4_ := Aside0.mk (Kd.R_elder' (by (with_reducible repeat (first | apply Kd.R_alloc | apply Kd.R_drewN | apply Kd.R_drew)); exact HO590.out) (Kd.R_base ho0) hb); have n5_ := Aside0.mk (Kd.R_lower (Kd.R_new' (Kd.R_new' (Kd.R_new' (Kd.R_new' ho0 (Kd.R_lt (by (with_reducible repeat (first | apply Kd.R_alloc | apply Kd.R_drewN | apply Kd.R_drew)); exact HO_8.out))) (Kd.R_lt (by (with_reducible repeat (first | apply Kd.R_alloc | apply Kd.R_drewN | apply Kd.R_drew)); exact HO_10.out))) (Kd.R_lt (by (with_reducible repeat (first | apply Kd.R_alloc | apply Kd.R_drewN | apply Kd.R_drew)); exact HO582.out))) (Kd.R_lt (by (with_reducible repeat (first | apply Kd.R_alloc | apply Kd.R_drewN | apply Kd.R_drew)); exact HO590.out))) (below_size (by repeat (first | (with_reducible first | exact HB.out | apply below_alloc | apply pw_below_drewN | apply below_drew1) | exact HB.out)))); have n6_ := Aside0.mk (below_step (by repeat (first | (with_reducible first | exact HB.out | apply below_alloc | apply pw_below_drewN | apply below_drew1) | exact HB.out)) hb); clear HO_8; clear HO_10; clear HO582; clear HO586; clear HO590; clear HB; have HO_8 := n0_; have HO_10 := n1_; have HO582 := n2_; have HO586 := n3_; have HO590 := n4_; have HO593 := n5_; have HB := n6_; clear n0_ n1_ n2_ n3_ n4_ n5_ n6_; (try clear hb); (try clear hb2); (try clear hk); (try clear hi); (try clear ho0); obtain ⟨Ao60, co60, eo60⟩ := Kd.R_slice HO582.out; subst eo60; obtain ⟨Ao61, co61, eo61⟩ := Kd.R_slice HO593.out; subst eo61) | (go_at_call 38; (with_reducible refine (galloonlaw01_texts.calls k4 _ _ t579 _ _ t591 true _ ?side1 ?side2 ?side3 ?side4 A48.out).mono ?_); (case side1 => repeat (first | exact (Kd.R_reads' HO582.out).2.2 | (with_reducible refine Kd.C_alloc ?_ _) | (with_reducible refine Kd.C_drewN ?_ _) | (with_reducible refine Kd.C_drew ?_))); (case side2 => exact (Kd.R_reads' HO582.out).2.1); (case side3 => repeat (first | exact (Kd.R_reads' HO593.out).2.2 | (with_reducible refine Kd.C_alloc ?_ _) | (with_reducible refine Kd.C_drewN ?_ _) | (with_reducible refine Kd.C_drew ?_))); (case side4 => exact (Kd.R_reads' HO593.out).2.1); rintro e w' ⟨rfl, ⟨nd, rfl⟩⟩) | (go_at_call 40; (with_reducible refine (galloonref01_Centers.calls k4 t558 t595 _ A50.out).mono ?_); rintro e w62 ⟨v596, rfl, ho0, hb⟩; have n0_ := Aside0.mk (Kd.R_below (by (with_reducible repeat (first | apply Kd.R_alloc | apply Kd.R_drewN | apply Kd.R_drew)); exact HO_8.out) hb); have n1_ := Aside0.mk (Kd.R_below (by (with_reducible repeat (first | apply Kd.R_alloc | apply Kd.R_drewN | apply Kd.R_drew)); exact HO_10.out) hb); have n2_ := Aside0.mk (Kd.R_below (by (with_reducible repeat (first | apply Kd.R_alloc | apply Kd.R_drewN | apply Kd.R_drew)); exact HO582.out) hb); have n3_ := Aside0.mk (Kd.R_elder' (by (with_reducible repeat (first | apply Kd.R_alloc | apply Kd.R_drewN | apply Kd.R_drew)); exact HO586.out) (Kd.R_base ho0) hb); have n4_ := Aside0.mk (Kd.R_below (by (with_reducible repeat (first | apply Kd.R_alloc | apply Kd.R_drewN | apply Kd.R_drew)); exact HO590.out) hb); have n5_ := Aside0.mk (Kd.R_below (by (with_reducible repeat (first | apply Kd.R_alloc | apply Kd.R_drewN | apply Kd.R_drew)); exact HO593.out) hb); have n6_ := Aside0.mk (Kd.R_lower (Kd.R_new' ho0 (Kd.R_lt (by (with_reducible repeat (first | apply Kd.R_alloc | apply Kd.R_drewN | apply Kd.R_drew)); exact HO586.out))) (below_size (by repeat (first | (with_reducible first | exact HB.out | apply below_alloc | apply pw_below_drewN | apply below_drew1) | exact HB.out)))); have n7_ := Aside0.mk (below_step (by repeat (first | (with_reducible first | exact HB.out | apply below_alloc | apply pw_below_drewN | apply below_drew1) | exact HB.out)) hb); clear HO_8; clear HO_10; clear HO582; clear HO586; clear HO590; clear HO593; clear HB; have HO_8 := n0_; have HO_10 := n1_; have HO582 := n2_; have HO586 := n3_; have HO590 := n4_; have HO593 := n5_; have HO597 := n6_; have HB := n7_; clear n0_ n1_ n2_ n3_ n4_ n5_ n6_ n7_; (try clear hb); (try clear hb2); (try clear hk); (try clear hi); (try clear ho0); obtain ⟨Ao63, co63, eo63⟩ := Kd.R_slice HO586.out; subst eo63; obtain ⟨Ao64, co64, eo64⟩ := Kd.R_slice HO597.out; subst eo64) | (go_at_call 21; (with_reducible refine (galloonlaw01_ints.calls k4 _ _ t583 _ _ t595 true _ ?side1 ?side2 ?side3 ?side4 A51.out).mono ?_); (case side1 => repeat (first | exact (Kd.R_reads' HO586.out).2.2 | (with_reducible refine Kd.C_alloc ?_ _) | (with_reducible refine Kd.C_drewN ?_ _) | (with_reducible refine Kd.C_drew ?_))); (case side2 => exact (Kd.R_reads' HO586.out).2.1); (case side3 => repeat (first | exact (Kd.R_reads' HO597.out).2.2 | (with_reducible refine Kd.C_alloc ?_ _) | (with_reducible refine Kd.C_drewN ?_ _) | (with_reducible refine Kd.C_drew ?_))); (case side4 => exact (Kd.R_reads' HO597.out).2.1); rintro e w' ⟨rfl, ⟨nd, rfl⟩⟩; obtain ⟨Ao65, co65, eo65⟩ := Kd.R_slice HO590.out; subst eo65; obtain ⟨Ao66, co66, eo66⟩ := Kd.R_slice HO_10.out; subst eo66) | (go_at_call 38; (with_reducible refine (galloonlaw01_texts.calls k4 _ _ t587 _ _ t571 true _ ?side1 ?side2 ?side3 ?side4 A53.out).mono ?_); (case side1 => repeat (first | exact (Kd.R_reads' HO590.out).2.2 | (with_reducible refine Kd.C_alloc ?_ _) | (with_reducible refine Kd.C_drewN ?_ _) | (with_reducible refine Kd.C_drew ?_))); (case side2 => exact (Kd.R_reads' HO590.out).2.1); (case side3 => repeat (first | exact (Kd.R_reads' HO_10.out).2.2 | (with_reducible refine Kd.C_alloc ?_ _) | (with_reducible refine Kd.C_drewN ?_ _) | (with_reducible refine Kd.C_drew ?_))); (case side4 => exact (Kd.R_reads' HO_10.out).2.1); rintro e w' ⟨rfl, ⟨nd, rfl⟩⟩) | (go_at_call 20; (with_reducible refine (galloonlaw01_awake.calls k4  t600 _ A55.out (Glob.at hg (by repeat (first | (with_reducible first | exact HB.out | apply below_alloc | apply pw_below_drewN | apply below_drew1) | exact HB.out)))).mono ?_); rintro e w67 ⟨rfl, hb⟩; have n0_ := Aside0.mk (Kd.R_below (by (with_reducible repeat (first | apply Kd.R_alloc | apply Kd.R_drewN | apply Kd.R_drew)); exact HO_8.out) hb); have n1_ := Aside0.mk (Kd.R_below (by (with_reducible repeat (first | apply Kd.R_alloc | apply Kd.R_drewN | apply Kd.R_drew)); exact HO_10.out) hb); have n2_ := Aside0.mk (Kd.R_below (by (with_reducible repeat (first | apply Kd.R_alloc | apply Kd.R_drewN | apply Kd.R_drew)); exact HO582.out) hb); have n3_ := Aside0.mk (Kd.R_below (by (with_reducible repeat (first | apply Kd.R_alloc | apply Kd.R_drewN | apply Kd.R_drew)); exact HO586.out) hb); have n4_ := Aside0.mk (Kd.R_below (by (with_reducible repeat (first | apply Kd.R_alloc | apply Kd.R_drewN | apply Kd.R_drew)); exact HO590.out) hb); have n5_ := Aside0.mk (Kd.R_below (by (with_reducible repeat (first | apply Kd.R_alloc | apply Kd.R_drewN | apply Kd.R_drew)); exact HO593.out) hb); have n6_ := Aside0.mk (Kd.R_below (by (with_reducible repeat (first | apply Kd.R_alloc | apply Kd.R_drewN | apply Kd.R_drew)); exact HO597.out) hb); have n7_ := Aside0.mk (below_step (by repeat (first | (with_reducible first | exact HB.out | apply below_alloc | apply pw_below_drewN | apply below_drew1) | exact HB.out)) hb); clear HO_8; clear HO_10; clear HO582; clear HO586; clear HO590; clear HO593; clear HO597; clear HB; have HO_8 := n0_; have HO_10 := n1_; have HO582 := n2_; have HO586 := n3_; have HO590 := n4_; have HO593 := n5_; have HO597 := n6_; have HB := n7_; clear n0_ n1_ n2_ n3_ n4_ n5_ n6_ n7_; (try clear hb); (try clear hb2); (try clear hk); (try clear hi)))
                                      go_ret
                                      exact ⟨by first | rfl | (simp [errW_none, errW_some] <;> rfl) | (simp [*, errW_none, errW_some] <;> rfl), by repeat (first | (with_reducible first | exact HB.out | apply below_alloc | apply pw_below_drewN | apply below_drew1) | exact HB.out)⟩
                                    · replace c54 := Bool.eq_false_iff.mpr c54
                                      subst c54
                                      have H1 : (some false) = some r := by rw [if_neg (show ¬ (false = true) by decide)] at H; exact H
                                      clear H
                                      have H := H1
                                      clear H1
                                      obtain rfl := Option.some.inj H
                                      exact absurd hr.out (by decide)
                                  · replace c52 := Bool.eq_false_iff.mpr c52
                                    subst c52
                                    have H1 : (some false) = some r := by rw [if_neg (show ¬ (false = true) by decide)] at H; exact H
                                    clear H
                                    have H := H1
                                    clear H1
                                    obtain rfl := Option.some.inj H
                                    exact absurd hr.out (by decide)
                                · replace c49 := Bool.eq_false_iff.mpr c49
                                  subst c49
                                  have H1 : (some false) = some r := by rw [if_neg (show ¬ (false = true) by decide)] at H; exact H
                                  clear H
                                  have H := H1
                                  clear H1
                                  obtain rfl := Option.some.inj H
                                  exact absurd hr.out (by decide)
                              · rw [if_neg c46] at H
                                have c46b0 : (t588 == 0) = false := beq_eq_false_iff_ne.mpr c46
                                have c46b1 : (t588 != 0) = true := bne_iff_ne.mpr c46
                                obtain rfl := Option.some.inj H
                                exact absurd hr.out (by decide)
                            · rw [if_neg c45] at H
                              have c45b0 : (t584 == 0) = false := beq_eq_false_iff_ne.mpr c45
                              have c45b1 : (t584 != 0) = true := bne_iff_ne.mpr c45
                              obtain rfl := Option.some.inj H
                              exact absurd hr.out (by decide)
                          · rw [if_neg c44] at H
                            have c44b0 : (t580 == 0) = false := beq_eq_false_iff_ne.mpr c44
                            have c44b1 : (t580 != 0) = true := bne_iff_ne.mpr c44
                            obtain rfl := Option.some.inj H
                            exact absurd hr.out (by decide)

/-- THE ONE PURE STATEMENT of galloonlaw01_TrimOwn: yours. -/
def galloonlaw01_TrimOwn.Pure : Prop := ∀ (a0 : ByteArray), a0.size ≤ 140737488351232 → ∃ k, galloonlaw01_TrimOwn.f k a0 = some true
theorem galloonlaw01_TrimOwn.walk (P : galloonlaw01_TrimOwn.Pure) (a0 : ByteArray) (w : World) (w0 : a0.size ≤ 140737488351232) (hg : Glob w) :
    Calls Try.prog 14 #[.string a0] w fun e w' => e = .returned (.bool true) ∧ Below w.heap.size w w' := by
  obtain ⟨k, h⟩ := P a0 w0
  refine (galloonlaw01_TrimOwn.calls k a0 true w h ⟨rfl⟩ hg).mono ?_
  rintro e w' ⟨rfl, hd⟩
  exact ⟨rfl, hd⟩

end Go.Proofs.Ytbdlhgdfnnbjiaa.PY
