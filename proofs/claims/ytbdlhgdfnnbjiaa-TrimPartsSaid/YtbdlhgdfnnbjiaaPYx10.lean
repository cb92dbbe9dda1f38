-- Made by the session's own driver (wip/tools/p2.py) out of the translation; Lean checks it.
import Derived.Test.YtbdlhgdfnnbjiaaPYx0
import Derived.Test.YtbdlhgdfnnbjiaaPYx5
import Derived.Test.YtbdlhgdfnnbjiaaPYx6
import Derived.Test.YtbdlhgdfnnbjiaaPYx8
import Derived.Test.YtbdlhgdfnnbjiaaGInner
import Derived.Test.YtbdlhgdfnnbjiaaGPalindromes
namespace Go.Proofs.Ytbdlhgdfnnbjiaa.PY
open Go.RowKit Go.Proofs.YtbdlhgdfnnbjiaaW.PrintWords Go.Proofs.YtbdlhgdfnnbjiaaW.PrintLast Go.Proofs.YtbdlhgdfnnbjiaaW.PrintMore
attribute [local go_sem] max2_int min2_int max_two min_two max_three min_three max_four min_four   -- for this text's walks alone
set_option linter.unusedVariables false
set_option linter.unusedSimpArgs false

/-! ### galloonlaw01_awake: function 20 -/
def galloonlaw01_awake.f (k : Nat)  : Option (Bool) := (trim_Palindromes.f (⟨#[97, 98, 98, 97]⟩ : ByteArray)).bind fun bt140 => ((trim_Centers.f k (⟨#[97, 98, 98, 97]⟩ : ByteArray)).bind fun bt144 => ((trim_Rich.f k (⟨#[97, 98, 99, 97]⟩ : ByteArray)).bind fun bt148 => ((trim_Tower.f k (⟨#[97, 98, 99]⟩ : ByteArray)).bind fun bt150 => ((trim_Base.f k (⟨#[97, 98, 97, 99, 97, 98, 97]⟩ : ByteArray)).bind fun bt152 => ((trim_Inner.f k (⟨#[97, 98, 99, 98]⟩ : ByteArray)).bind fun bt154 => (if bt140.2 = 0 then ((galloonlaw01_texts.f k bt140.1 (([(⟨#[97]⟩ : ByteArray), (⟨#[98]⟩ : ByteArray), (⟨#[98, 98]⟩ : ByteArray), (⟨#[97, 98, 98, 97]⟩ : ByteArray)] : List ByteArray))).bind fun t159 => (if t159 = true then (if bt144.2 = 0 then ((galloonlaw01_ints.f k bt144.1 (([1, 0, 1, 4, 1, 0, 1] : List Int))).bind fun t163 => (if t163 = true then (if bt148.2 = 0 then (if bt148.1 = 3 then (if bt150.2 = 0 then (if bt150.1.toList = ([97, 98, 97, 99, 97, 98, 97] : List UInt8) then (if bt152.2 = 0 then (if bt152.1.toList = ([97, 98, 99] : List UInt8) then (if bt154.2 = 0 then (if bt154.1.toList = ([98, 99, 98] : List UInt8) then (some true) else (some false)) else (some false)) else (some false)) else (some false)) else (some false)) else (some false)) else (some false)) else (some false)) else (some false))) else (some false)) else (some false))) else (some false)))))))
theorem galloonlaw01_awake.mono : ∀ k, LeO (galloonlaw01_awake.f k ) (galloonlaw01_awake.f (k + 1) ) := by
  intro  k
  unfold galloonlaw01_awake.f
  repeat' first
      | (with_reducible exact galloonlaw01_ints.mono _ _ _)
      | (with_reducible exact galloonlaw01_texts.mono _ _ _)
      | (with_reducible exact trim_Base.mono _ _)
      | (with_reducible exact trim_Centers.mono _ _)
      | (with_reducible exact trim_Inner.mono _ _)
      | (with_reducible exact trim_Rich.mono _ _)
      | (with_reducible exact trim_Tower.mono _ _)
      | (with_reducible exact LeO.refl _)
      | (with_reducible exact LeO.none _)
      | (with_reducible refine LeO.ite ?_ ?_)
      | (with_reducible refine LeO.bind ?_ (fun _ => ?_))
      | exact galloonlaw01_ints.mono _ _ _
      | exact galloonlaw01_texts.mono _ _ _
      | exact trim_Base.mono _ _
      | exact trim_Centers.mono _ _
      | exact trim_Inner.mono _ _
      | exact trim_Rich.mono _ _
      | exact trim_Tower.mono _ _
      | exact LeO.none _
      | refine LeO.ite ?_ ?_
      | refine LeO.bind ?_ (fun _ => ?_)
theorem galloonlaw01_awake.yes {k : Nat} {r : Bool} (h : galloonlaw01_awake.f k = some r) : r = true := by
  have e : galloonlaw01_awake.f 60 = some true := by decide +kernel
  have h1 := at_rounds (fun k => galloonlaw01_awake.mono k) (Nat.le_max_left k 60) h
  have h2 := at_rounds (fun k => galloonlaw01_awake.mono k) (Nat.le_max_right k 60) e
  exact Option.some.inj (h1.symm.trans h2)
set_option maxHeartbeats 8000000 in
set_option maxRecDepth 100000 in
theorem galloonlaw01_awake.calls (k : Nat)  (r : Bool) (w : World) (h : galloonlaw01_awake.f k  = some r) (hg : Glob w) :
    Calls Try.prog 20 #[] w fun e w' => e = .returned (.bool r) ∧ Below w.heap.size w w' := by
  have HB := Aside0.mk (Below.refl w.heap.size w)
  have hr := galloonlaw01_awake.yes h
  have H : ((trim_Palindromes.f (⟨#[97, 98, 98, 97]⟩ : ByteArray)).bind fun bt140 => ((trim_Centers.f k (⟨#[97, 98, 98, 97]⟩ : ByteArray)).bind fun bt144 => ((trim_Rich.f k (⟨#[97, 98, 99, 97]⟩ : ByteArray)).bind fun bt148 => ((trim_Tower.f k (⟨#[97, 98, 99]⟩ : ByteArray)).bind fun bt150 => ((trim_Base.f k (⟨#[97, 98, 97, 99, 97, 98, 97]⟩ : ByteArray)).bind fun bt152 => ((trim_Inner.f k (⟨#[97, 98, 99, 98]⟩ : ByteArray)).bind fun bt154 => (if bt140.2 = 0 then ((galloonlaw01_texts.f k bt140.1 (([(⟨#[97]⟩ : ByteArray), (⟨#[98]⟩ : ByteArray), (⟨#[98, 98]⟩ : ByteArray), (⟨#[97, 98, 98, 97]⟩ : ByteArray)] : List ByteArray))).bind fun t159 => (if t159 = true then (if bt144.2 = 0 then ((galloonlaw01_ints.f k bt144.1 (([1, 0, 1, 4, 1, 0, 1] : List Int))).bind fun t163 => (if t163 = true then (if bt148.2 = 0 then (if bt148.1 = 3 then (if bt150.2 = 0 then (if bt150.1.toList = ([97, 98, 97, 99, 97, 98, 97] : List UInt8) then (if bt152.2 = 0 then (if bt152.1.toList = ([97, 98, 99] : List UInt8) then (if bt154.2 = 0 then (if bt154.1.toList = ([98, 99, 98] : List UInt8) then (some true) else (some false)) else (some false)) else (some false)) else (some false)) else (some false)) else (some false)) else (some false)) else (some false)) else (some false))) else (some false)) else (some false))) else (some false)))))))) = some r := h
  clear h
  replace H := Option.bind_eq_some_iff.mp H
  obtain ⟨⟨t140, t141⟩, A10, H⟩ := H
  replace H : ((trim_Centers.f k (⟨#[97, 98, 98, 97]⟩ : ByteArray)).bind fun bt144 => ((trim_Rich.f k (⟨#[97, 98, 99, 97]⟩ : ByteArray)).bind fun bt148 => ((trim_Tower.f k (⟨#[97, 98, 99]⟩ : ByteArray)).bind fun bt150 => ((trim_Base.f k (⟨#[97, 98, 97, 99, 97, 98, 97]⟩ : ByteArray)).bind fun bt152 => ((trim_Inner.f k (⟨#[97, 98, 99, 98]⟩ : ByteArray)).bind fun bt154 => (if t141 = 0 then ((galloonlaw01_texts.f k t140 (([(⟨#[97]⟩ : ByteArray), (⟨#[98]⟩ : ByteArray), (⟨#[98, 98]⟩ : ByteArray), (⟨#[97, 98, 98, 97]⟩ : ByteArray)] : List ByteArray))).bind fun t159 => (if t159 = true then (if bt144.2 = 0 then ((galloonlaw01_ints.f k bt144.1 (([1, 0, 1, 4, 1, 0, 1] : List Int))).bind fun t163 => (if t163 = true then (if bt148.2 = 0 then (if bt148.1 = 3 then (if bt150.2 = 0 then (if bt150.1.toList = ([97, 98, 97, 99, 97, 98, 97] : List UInt8) then (if bt152.2 = 0 then (if bt152.1.toList = ([97, 98, 99] : List UInt8) then (if bt154.2 = 0 then (if bt154.1.toList = ([98, 99, 98] : List UInt8) then (some true) else (some false)) else (some false)) else (some false)) else (some false)) else (some false)) else (some false)) else (some false)) else (some false)) else (some false))) else (some false)) else (some false))) else (some false))))))) = some r := H
  have A1 := Aside0.mk A10
  clear A10
  replace H := Option.bind_eq_some_iff.mp H
  obtain ⟨⟨t144, t145⟩, A20, H⟩ := H
  replace H : ((trim_Rich.f k (⟨#[97, 98, 99, 97]⟩ : ByteArray)).bind fun bt148 => ((trim_Tower.f k (⟨#[97, 98, 99]⟩ : ByteArray)).bind fun bt150 => ((trim_Base.f k (⟨#[97, 98, 97, 99, 97, 98, 97]⟩ : ByteArray)).bind fun bt152 => ((trim_Inner.f k (⟨#[97, 98, 99, 98]⟩ : ByteArray)).bind fun bt154 => (if t141 = 0 then ((galloonlaw01_texts.f k t140 (([(⟨#[97]⟩ : ByteArray), (⟨#[98]⟩ : ByteArray), (⟨#[98, 98]⟩ : ByteArray), (⟨#[97, 98, 98, 97]⟩ : ByteArray)] : List ByteArray))).bind fun t159 => (if t159 = true then (if t145 = 0 then ((galloonlaw01_ints.f k t144 (([1, 0, 1, 4, 1, 0, 1] : List Int))).bind fun t163 => (if t163 = true then (if bt148.2 = 0 then (if bt148.1 = 3 then (if bt150.2 = 0 then (if bt150.1.toList = ([97, 98, 97, 99, 97, 98, 97] : List UInt8) then (if bt152.2 = 0 then (if bt152.1.toList = ([97, 98, 99] : List UInt8) then (if bt154.2 = 0 then (if bt154.1.toList = ([98, 99, 98] : List UInt8) then (some true) else (some false)) else (some false)) else (some false)) else (some false)) else (some false)) else (some false)) else (some false)) else (some false)) else (some false))) else (some false)) else (some false))) else (some false)))))) = some r := H
  have A2 := Aside0.mk A20
  clear A20
  replace H := Option.bind_eq_some_iff.mp H
  obtain ⟨⟨t148, t149⟩, A30, H⟩ := H
  replace H : ((trim_Tower.f k (⟨#[97, 98, 99]⟩ : ByteArray)).bind fun bt150 => ((trim_Base.f k (⟨#[97, 98, 97, 99, 97, 98, 97]⟩ : ByteArray)).bind fun bt152 => ((trim_Inner.f k (⟨#[97, 98, 99, 98]⟩ : ByteArray)).bind fun bt154 => (if t141 = 0 then ((galloonlaw01_texts.f k t140 (([(⟨#[97]⟩ : ByteArray), (⟨#[98]⟩ : ByteArray), (⟨#[98, 98]⟩ : ByteArray), (⟨#[97, 98, 98, 97]⟩ : ByteArray)] : List ByteArray))).bind fun t159 => (if t159 = true then (if t145 = 0 then ((galloonlaw01_ints.f k t144 (([1, 0, 1, 4, 1, 0, 1] : List Int))).bind fun t163 => (if t163 = true then (if t149 = 0 then (if t148 = 3 then (if bt150.2 = 0 then (if bt150.1.toList = ([97, 98, 97, 99, 97, 98, 97] : List UInt8) then (if bt152.2 = 0 then (if bt152.1.toList = ([97, 98, 99] : List UInt8) then (if bt154.2 = 0 then (if bt154.1.toList = ([98, 99, 98] : List UInt8) then (some true) else (some false)) else (some false)) else (some false)) else (some false)) else (some false)) else (some false)) else (some false)) else (some false)) else (some false))) else (some false)) else (some false))) else (some false))))) = some r := H
  have A3 := Aside0.mk A30
  clear A30
  replace H := Option.bind_eq_some_iff.mp H
  obtain ⟨⟨t150, t151⟩, A40, H⟩ := H
  replace H : ((trim_Base.f k (⟨#[97, 98, 97, 99, 97, 98, 97]⟩ : ByteArray)).bind fun bt152 => ((trim_Inner.f k (⟨#[97, 98, 99, 98]⟩ : ByteArray)).bind fun bt154 => (if t141 = 0 then ((galloonlaw01_texts.f k t140 (([(⟨#[97]⟩ : ByteArray), (⟨#[98]⟩ : ByteArray), (⟨#[98, 98]⟩ : ByteArray), (⟨#[97, 98, 98, 97]⟩ : ByteArray)] : List ByteArray))).bind fun t159 => (if t159 = true then (if t145 = 0 then ((galloonlaw01_ints.f k t144 (([1, 0, 1, 4, 1, 0, 1] : List Int))).bind fun t163 => (if t163 = true then (if t149 = 0 then (if t148 = 3 then (if t151 = 0 then (if t150.toList = ([97, 98, 97, 99, 97, 98, 97] : List UInt8) then (if bt152.2 = 0 then (if bt152.1.toList = ([97, 98, 99] : List UInt8) then (if bt154.2 = 0 then (if bt154.1.toList = ([98, 99, 98] : List UInt8) then (some true) else (some false)) else (some false)) else (some false)) else (some false)) else (some false)) else (some false)) else (some false)) else (some false)) else (some false))) else (some false)) else (some false))) else (some false)))) = some r := H
  have A4 := Aside0.mk A40
  clear A40
  replace H := Option.bind_eq_some_iff.mp H
  obtain ⟨⟨t152, t153⟩, A50, H⟩ := H
  replace H : ((trim_Inner.f k (⟨#[97, 98, 99, 98]⟩ : ByteArray)).bind fun bt154 => (if t141 = 0 then ((galloonlaw01_texts.f k t140 (([(⟨#[97]⟩ : ByteArray), (⟨#[98]⟩ : ByteArray), (⟨#[98, 98]⟩ : ByteArray), (⟨#[97, 98, 98, 97]⟩ : ByteArray)] : List ByteArray))).bind fun t159 => (if t159 = true then (if t145 = 0 then ((galloonlaw01_ints.f k t144 (([1, 0, 1, 4, 1, 0, 1] : List Int))).bind fun t163 => (if t163 = true then (if t149 = 0 then (if t148 = 3 then (if t151 = 0 then (if t150.toList = ([97, 98, 97, 99, 97, 98, 97] : List UInt8) then (if t153 = 0 then (if t152.toList = ([97, 98, 99] : List UInt8) then (if bt154.2 = 0 then (if bt154.1.toList = ([98, 99, 98] : List UInt8) then (some true) else (some false)) else (some false)) else (some false)) else (some false)) else (some false)) else (some false)) else (some false)) else (some false)) else (some false))) else (some false)) else (some false))) else (some false))) = some r := H
  have A5 := Aside0.mk A50
  clear A50
  replace H := Option.bind_eq_some_iff.mp H
  obtain ⟨⟨t154, t155⟩, A60, H⟩ := H
  replace H : (if t141 = 0 then ((galloonlaw01_texts.f k t140 (([(⟨#[97]⟩ : ByteArray), (⟨#[98]⟩ : ByteArray), (⟨#[98, 98]⟩ : ByteArray), (⟨#[97, 98, 98, 97]⟩ : ByteArray)] : List ByteArray))).bind fun t159 => (if t159 = true then (if t145 = 0 then ((galloonlaw01_ints.f k t144 (([1, 0, 1, 4, 1, 0, 1] : List Int))).bind fun t163 => (if t163 = true then (if t149 = 0 then (if t148 = 3 then (if t151 = 0 then (if t150.toList = ([97, 98, 97, 99, 97, 98, 97] : List UInt8) then (if t153 = 0 then (if t152.toList = ([97, 98, 99] : List UInt8) then (if t155 = 0 then (if t154.toList = ([98, 99, 98] : List UInt8) then (some true) else (some false)) else (some false)) else (some false)) else (some false)) else (some false)) else (some false)) else (some false)) else (some false)) else (some false))) else (some false)) else (some false))) else (some false)) = some r := H
  have A6 := Aside0.mk A60
  clear A60
  by_cases c7 : t141 = 0
  · rw [if_pos c7] at H
    have c7b0 : (t141 == 0) = true := beq_iff_eq.mpr c7
    have c7b1 : (t141 != 0) = false := bne_eq_false_iff_eq.mpr c7
    clear c7
    obtain ⟨y156, hy156⟩ : ∃ y_ : List ByteArray, y_ = (([(⟨#[97]⟩ : ByteArray), (⟨#[98]⟩ : ByteArray), (⟨#[98, 98]⟩ : ByteArray), (⟨#[97, 98, 98, 97]⟩ : ByteArray)] : List ByteArray)) := ⟨_, rfl⟩
    replace H : ((galloonlaw01_texts.f k t140 y156).bind fun t159 => (if t159 = true then (if t145 = 0 then ((galloonlaw01_ints.f k t144 (([1, 0, 1, 4, 1, 0, 1] : List Int))).bind fun t163 => (if t163 = true then (if t149 = 0 then (if t148 = 3 then (if t151 = 0 then (if t150.toList = ([97, 98, 97, 99, 97, 98, 97] : List UInt8) then (if t153 = 0 then (if t152.toList = ([97, 98, 99] : List UInt8) then (if t155 = 0 then (if t154.toList = ([98, 99, 98] : List UInt8) then (some true) else (some false)) else (some false)) else (some false)) else (some false)) else (some false)) else (some false)) else (some false)) else (some false)) else (some false))) else (some false)) else (some false))) = some r := by first | (rw [hy156]; with_reducible exact H) | (have H2_ := (Option.bind_some _ _).symm.trans H; rw [hy156]; with_reducible exact H2_) | (have H2_ := (Option.bind_some _ _).symm.trans H; with_reducible exact H2_) | with_reducible exact H | (rw [hy156]; exact H) | exact H
    have Ny156 := Aside0.mk hy156
    clear hy156
    replace H := Option.bind_eq_some_iff.mp H
    obtain ⟨t159, A80, H⟩ := H
    replace H : (if t159 = true then (if t145 = 0 then ((galloonlaw01_ints.f k t144 (([1, 0, 1, 4, 1, 0, 1] : List Int))).bind fun t163 => (if t163 = true then (if t149 = 0 then (if t148 = 3 then (if t151 = 0 then (if t150.toList = ([97, 98, 97, 99, 97, 98, 97] : List UInt8) then (if t153 = 0 then (if t152.toList = ([97, 98, 99] : List UInt8) then (if t155 = 0 then (if t154.toList = ([98, 99, 98] : List UInt8) then (some true) else (some false)) else (some false)) else (some false)) else (some false)) else (some false)) else (some false)) else (some false)) else (some false)) else (some false))) else (some false)) else (some false)) = some r := H
    have A8 := Aside0.mk A80
    clear A80
    by_cases c9 : t159 = true
    · subst c9
      have H1 : (if t145 = 0 then ((galloonlaw01_ints.f k t144 (([1, 0, 1, 4, 1, 0, 1] : List Int))).bind fun t163 => (if t163 = true then (if t149 = 0 then (if t148 = 3 then (if t151 = 0 then (if t150.toList = ([97, 98, 97, 99, 97, 98, 97] : List UInt8) then (if t153 = 0 then (if t152.toList = ([97, 98, 99] : List UInt8) then (if t155 = 0 then (if t154.toList = ([98, 99, 98] : List UInt8) then (some true) else (some false)) else (some false)) else (some false)) else (some false)) else (some false)) else (some false)) else (some false)) else (some false)) else (some false))) else (some false)) = some r := by rw [if_pos rfl] at H; exact H
      clear H
      have H := H1
      clear H1
      by_cases c10 : t145 = 0
      · rw [if_pos c10] at H
        have c10b0 : (t145 == 0) = true := beq_iff_eq.mpr c10
        have c10b1 : (t145 != 0) = false := bne_eq_false_iff_eq.mpr c10
        clear c10
        obtain ⟨y160, hy160⟩ : ∃ y_ : List Int, y_ = (([1, 0, 1, 4, 1, 0, 1] : List Int)) := ⟨_, rfl⟩
        replace H : ((galloonlaw01_ints.f k t144 y160).bind fun t163 => (if t163 = true then (if t149 = 0 then (if t148 = 3 then (if t151 = 0 then (if t150.toList = ([97, 98, 97, 99, 97, 98, 97] : List UInt8) then (if t153 = 0 then (if t152.toList = ([97, 98, 99] : List UInt8) then (if t155 = 0 then (if t154.toList = ([98, 99, 98] : List UInt8) then (some true) else (some false)) else (some false)) else (some false)) else (some false)) else (some false)) else (some false)) else (some false)) else (some false)) else (some false))) = some r := by first | (rw [hy160]; with_reducible exact H) | (have H2_ := (Option.bind_some _ _).symm.trans H; rw [hy160]; with_reducible exact H2_) | (have H2_ := (Option.bind_some _ _).symm.trans H; with_reducible exact H2_) | with_reducible exact H | (rw [hy160]; exact H) | exact H
        have Ny160 := Aside0.mk hy160
        clear hy160
        replace H := Option.bind_eq_some_iff.mp H
        obtain ⟨t163, A110, H⟩ := H
        replace H : (if t163 = true then (if t149 = 0 then (if t148 = 3 then (if t151 = 0 then (if t150.toList = ([97, 98, 97, 99, 97, 98, 97] : List UInt8) then (if t153 = 0 then (if t152.toList = ([97, 98, 99] : List UInt8) then (if t155 = 0 then (if t154.toList = ([98, 99, 98] : List UInt8) then (some true) else (some false)) else (some false)) else (some false)) else (some false)) else (some false)) else (some false)) else (some false)) else (some false)) else (some false)) = some r := H
        have A11 := Aside0.mk A110
        clear A110
        by_cases c12 : t163 = true
        · subst c12
          have H1 : (if t149 = 0 then (if t148 = 3 then (if t151 = 0 then (if t150.toList = ([97, 98, 97, 99, 97, 98, 97] : List UInt8) then (if t153 = 0 then (if t152.toList = ([97, 98, 99] : List UInt8) then (if t155 = 0 then (if t154.toList = ([98, 99, 98] : List UInt8) then (some true) else (some false)) else (some false)) else (some false)) else (some false)) else (some false)) else (some false)) else (some false)) else (some false)) = some r := by rw [if_pos rfl] at H; exact H
          clear H
          have H := H1
          clear H1
          by_cases c13 : t149 = 0
          · rw [if_pos c13] at H
            have c13b0 : (t149 == 0) = true := beq_iff_eq.mpr c13
            have c13b1 : (t149 != 0) = false := bne_eq_false_iff_eq.mpr c13
            clear c13
            by_cases c14 : t148 = 3
            · rw [if_pos c14] at H
              have c14b0 : (t148 == 3) = true := beq_iff_eq.mpr c14
              have c14b1 : (t148 != 3) = false := bne_eq_false_iff_eq.mpr c14
              clear c14
              by_cases c15 : t151 = 0
              · rw [if_pos c15] at H
                have c15b0 : (t151 == 0) = true := beq_iff_eq.mpr c15
                have c15b1 : (t151 != 0) = false := bne_eq_false_iff_eq.mpr c15
                clear c15
                by_cases c16 : t150.toList = ([97, 98, 97, 99, 97, 98, 97] : List UInt8)
                · rw [if_pos c16] at H
                  have c16b0 : (t150.toList == ([97, 98, 97, 99, 97, 98, 97] : List UInt8)) = true := beq_iff_eq.mpr c16
                  have c16b1 : (t150.toList != ([97, 98, 97, 99, 97, 98, 97] : List UInt8)) = false := bne_eq_false_iff_eq.mpr c16
                  clear c16
                  by_cases c17 : t153 = 0
                  · rw [if_pos c17] at H
                    have c17b0 : (t153 == 0) = true := beq_iff_eq.mpr c17
                    have c17b1 : (t153 != 0) = false := bne_eq_false_iff_eq.mpr c17
                    clear c17
                    by_cases c18 : t152.toList = ([97, 98, 99] : List UInt8)
                    · rw [if_pos c18] at H
                      have c18b0 : (t152.toList == ([97, 98, 99] : List UInt8)) = true := beq_iff_eq.mpr c18
                      have c18b1 : (t152.toList != ([97, 98, 99] : List UInt8)) = false := bne_eq_false_iff_eq.mpr c18
                      clear c18
                      by_cases c19 : t155 = 0
                      · rw [if_pos c19] at H
                        have c19b0 : (t155 == 0) = true := beq_iff_eq.mpr c19
                        have c19b1 : (t155 != 0) = false := bne_eq_false_iff_eq.mpr c19
                        clear c19
                        by_cases c20 : t154.toList = ([98, 99, 98] : List UInt8)
                        · rw [if_pos c20] at H
                          have c20b0 : (t154.toList == ([98, 99, 98] : List UInt8)) = true := beq_iff_eq.mpr c20
                          have c20b1 : (t154.toList != ([98, 99, 98] : List UInt8)) = false := bne_eq_false_iff_eq.mpr c20
                          clear c20
                          obtain rfl := Option.some.inj H
                          go_enter Try.func20, Try.ntmps20
                          go_wp2_with (first | ((with_reducible refine gate_callee (f := 33) rfl ?_); refine goesL_ (some 14) rfl rfl Try.func33 (by kernel_rfl) rfl #[.string (⟨#[97, 98, 98, 97]⟩ : ByteArray)] rfl (by (try simp only [List.map_toArray, List.map_cons, List.map_nil]); first | done | rfl | (simp only [List.length_drop, List.length_take]; rfl)) ?_; (with_reducible refine (trim_Palindromes.calls (⟨#[97, 98, 98, 97]⟩ : ByteArray) t140 t141 _ A1.out).mono ?_); rintro e w21 ⟨v142, rfl, ho0, hb⟩; refine ⟨_, rfl, ?_⟩; have n0_ := Aside0.mk (Kd.R_lower ho0 (below_size (by repeat (first | (with_reducible first | exact HB.out | apply below_alloc | apply pw_below_drewN | apply below_drew1) | exact HB.out)))); have n1_ := Aside0.mk (below_step (by repeat (first | (with_reducible first | exact HB.out | apply below_alloc | apply pw_below_drewN | apply below_drew1) | exact HB.out)) hb); clear HB; have HO143 := n0_; have HB := n1_; clear n0_ n1_; (try clear hb); (try clear hb2); (try clear hk); (try clear hi); (try clear ho0)) | ((with_reducible refine gate_callee (f := 34) rfl ?_); refine goesL_ (some 18) rfl rfl Try.func34 (by kernel_rfl) rfl #[.string (⟨#[97, 98, 98, 97]⟩ : ByteArray)] rfl (by (try simp only [List.map_toArray, List.map_cons, List.map_nil]); first | done | rfl | (simp only [List.length_drop, List.length_take]; rfl)) ?_; (with_reducible refine (trim_Centers.calls k (⟨#[97, 98, 98, 97]⟩ : ByteArray) t144 t145 _ A2.out).mono ?_); rintro e w22 ⟨v146, rfl, ho0, hb⟩; refine ⟨_, rfl, ?_⟩; have n0_ := Aside0.mk (Kd.R_below (by (with_reducible repeat (first | apply Kd.R_alloc | apply Kd.R_drewN | apply Kd.R_drew)); exact HO143.out) hb); have n1_ := Aside0.mk (Kd.R_lower ho0 (below_size (by repeat (first | (with_reducible first | exact HB.out | apply below_alloc | apply pw_below_drewN | apply below_drew1) | exact HB.out)))); have n2_ := Aside0.mk (below_step (by repeat (first | (with_reducible first | exact HB.out | apply below_alloc | apply pw_below_drewN | apply below_drew1) | exact HB.out)) hb); clear HO143; clear HB; have HO143 := n0_; have HO147 := n1_; have HB := n2_; clear n0_ n1_ n2_; (try clear hb); (try clear hb2); (try clear hk); (try clear hi); (try clear ho0)) | ((with_reducible refine gate_callee (f := 18) rfl ?_); refine goesL_ (some 22) rfl rfl Try.func18 (by kernel_rfl) rfl #[.string (⟨#[97, 98, 99, 97]⟩ : ByteArray)] rfl (by (try simp only [List.map_toArray, List.map_cons, List.map_nil]); first | done | rfl | (simp only [List.length_drop, List.length_take]; rfl)) ?_; (with_reducible refine (trim_Rich.calls k (⟨#[97, 98, 99, 97]⟩ : ByteArray) t148 t149 _ A3.out (Glob.at hg (by repeat (first | (with_reducible first | exact HB.out | apply below_alloc | apply pw_below_drewN | apply below_drew1) | exact HB.out)))).mono ?_); rintro e w23 ⟨rfl, hb⟩; refine ⟨_, rfl, ?_⟩; have n0_ := Aside0.mk (Kd.R_below (by (with_reducible repeat (first | apply Kd.R_alloc | apply Kd.R_drewN | apply Kd.R_drew)); exact HO143.out) hb); have n1_ := Aside0.mk (Kd.R_below (by (with_reducible repeat (first | apply Kd.R_alloc | apply Kd.R_drewN | apply Kd.R_drew)); exact HO147.out) hb); have n2_ := Aside0.mk (below_step (by repeat (first | (with_reducible first | exact HB.out | apply below_alloc | apply pw_below_drewN | apply below_drew1) | exact HB.out)) hb); clear HO143; clear HO147; clear HB; have HO143 := n0_; have HO147 := n1_; have HB := n2_; clear n0_ n1_ n2_; (try clear hb); (try clear hb2); (try clear hk); (try clear hi)) | ((with_reducible refine gate_callee (f := 25) rfl ?_); refine goesL_ (some 26) rfl rfl Try.func25 (by kernel_rfl) rfl #[.string (⟨#[97, 98, 99]⟩ : ByteArray)] rfl (by (try simp only [List.map_toArray, List.map_cons, List.map_nil]); first | done | rfl | (simp only [List.length_drop, List.length_take]; rfl)) ?_; (with_reducible refine (trim_Tower.calls k (⟨#[97, 98, 99]⟩ : ByteArray) t150 t151 _ A4.out).mono ?_); rintro e w24 ⟨rfl, hb⟩; refine ⟨_, rfl, ?_⟩; have n0_ := Aside0.mk (Kd.R_below (by (with_reducible repeat (first | apply Kd.R_alloc | apply Kd.R_drewN | apply Kd.R_drew)); exact HO143.out) hb); have n1_ := Aside0.mk (Kd.R_below (by (with_reducible repeat (first | apply Kd.R_alloc | apply Kd.R_drewN | apply Kd.R_drew)); exact HO147.out) hb); have n2_ := Aside0.mk (below_step (by repeat (first | (with_reducible first | exact HB.out | apply below_alloc | apply pw_below_drewN | apply below_drew1) | exact HB.out)) hb); clear HO143; clear HO147; clear HB; have HO143 := n0_; have HO147 := n1_; have HB := n2_; clear n0_ n1_ n2_; (try clear hb); (try clear hb2); (try clear hk); (try clear hi)) | ((with_reducible refine gate_callee (f := 26) rfl ?_); refine goesL_ (some 30) rfl rfl Try.func26 (by kernel_rfl) rfl #[.string (⟨#[97, 98, 97, 99, 97, 98, 97]⟩ : ByteArray)] rfl (by (try simp only [List.map_toArray, List.map_cons, List.map_nil]); first | done | rfl | (simp only [List.length_drop, List.length_take]; rfl)) ?_; (with_reducible refine (trim_Base.calls k (⟨#[97, 98, 97, 99, 97, 98, 97]⟩ : ByteArray) t152 t153 _ A5.out).mono ?_); rintro e w25 ⟨rfl, hb⟩; refine ⟨_, rfl, ?_⟩; have n0_ := Aside0.mk (Kd.R_below (by (with_reducible repeat (first | apply Kd.R_alloc | apply Kd.R_drewN | apply Kd.R_drew)); exact HO143.out) hb); have n1_ := Aside0.mk (Kd.R_below (by (with_reducible repeat (first | apply Kd.R_alloc | apply Kd.R_drewN | apply Kd.R_drew)); exact HO147.out) hb); have n2_ := Aside0.mk (below_step (by repeat (first | (with_reducible first | exact HB.out | apply below_alloc | apply pw_below_drewN | apply below_drew1) | exact HB.out)) hb); clear HO143; clear HO147; clear HB; have HO143 := n0_; have HO147 := n1_; have HB := n2_; clear n0_ n1_ n2_; (try clear hb); (try clear hb2); (try clear hk); (try clear hi)) | ((with_reducible refine gate_callee (f := 42) rfl ?_); refine goesL_ (some 34) rfl rfl Try.func42 (by kernel_rfl) rfl #[.string (⟨#[97, 98, 99, 98]⟩ : ByteArray)] rfl (by (try simp only [List.map_toArray, List.map_cons, List.map_nil]); first | done | rfl | (simp only [List.length_drop, List.length_take]; rfl)) ?_; (with_reducible refine (trim_Inner.calls k (⟨#[97, 98, 99, 98]⟩ : ByteArray) t154 t155 _ A6.out).mono ?_); rintro e w26 ⟨rfl, hb⟩; refine ⟨_, rfl, ?_⟩; have n0_ := Aside0.mk (Kd.R_below (by (with_reducible repeat (first | apply Kd.R_alloc | apply Kd.R_drewN | apply Kd.R_drew)); exact HO143.out) hb); have n1_ := Aside0.mk (Kd.R_below (by (with_reducible repeat (first | apply Kd.R_alloc | apply Kd.R_drewN | apply Kd.R_drew)); exact HO147.out) hb); have n2_ := Aside0.mk (below_step (by repeat (first | (with_reducible first | exact HB.out | apply below_alloc | apply pw_below_drewN | apply below_drew1) | exact HB.out)) hb); clear HO143; clear HO147; clear HB; have HO143 := n0_; have HO147 := n1_; have HB := n2_; clear n0_ n1_ n2_; (try clear hb); (try clear hb2); (try clear hk); (try clear hi)) | ((with_reducible refine gate_dst (N := 41) rfl ?_); (try (refine gate_guard (by rfl) ?_; dsimp only)); refine Kd.R_lit Kd.string _ 9 ?hg (N := 41) ?hd (xs := ([(⟨#[97]⟩ : ByteArray), (⟨#[98]⟩ : ByteArray), (⟨#[98, 98]⟩ : ByteArray), (⟨#[97, 98, 98, 97]⟩ : ByteArray)] : List ByteArray)) (inner := [.string (⟨#[97]⟩ : ByteArray), .string (⟨#[98]⟩ : ByteArray), .string (⟨#[98, 98]⟩ : ByteArray), .string (⟨#[97, 98, 98, 97]⟩ : ByteArray)]) (ok := fun _ => True) (okp := fun _ => True) ?hr ?hp (fun _ hk => hk) trivial (Below.refl _ _) (Nat.le_refl _) (by simp) ?_; (case hd => rfl); (case hg => rfl); (case hr => first | (go_simp; done) | (go_simp; rfl)); (case hp => exact (Reps.one (show Kd.M Kd.string _ _ _ (⟨#[97]⟩ : ByteArray) [.string (⟨#[97]⟩ : ByteArray)] from rfl) (Reps.one (show Kd.M Kd.string _ _ _ (⟨#[98]⟩ : ByteArray) [.string (⟨#[98]⟩ : ByteArray)] from rfl) (Reps.one (show Kd.M Kd.string _ _ _ (⟨#[98, 98]⟩ : ByteArray) [.string (⟨#[98, 98]⟩ : ByteArray)] from rfl) (Reps.one (show Kd.M Kd.string _ _ _ (⟨#[97, 98, 98, 97]⟩ : ByteArray) [.string (⟨#[97, 98, 98, 97]⟩ : ByteArray)] from rfl) (Reps.none _ _)))))); intro v157 w27 ho28 hb hg_ hnew_; clear hg_ hnew_; (first | rw [← Ny156.out] at ho28 | (simp only [Int.reduceToNat] at ho28; rw [← Ny156.out] at ho28)); have n0_ := Aside0.mk (Kd.R_elder' (by (with_reducible repeat (first | apply Kd.R_alloc | apply Kd.R_drewN | apply Kd.R_drew)); exact HO143.out) (Kd.R_base ho28) hb); have n1_ := Aside0.mk (Kd.R_below (by (with_reducible repeat (first | apply Kd.R_alloc | apply Kd.R_drewN | apply Kd.R_drew)); exact HO147.out) hb); have n2_ := Aside0.mk (Kd.R_lower (Kd.R_new' ho28 (Kd.R_lt (by (with_reducible repeat (first | apply Kd.R_alloc | apply Kd.R_drewN | apply Kd.R_drew)); exact HO143.out))) (below_size (by repeat (first | (with_reducible first | exact HB.out | apply below_alloc | apply pw_below_drewN | apply below_drew1) | exact HB.out)))); have n3_ := Aside0.mk (below_step (by repeat (first | (with_reducible first | exact HB.out | apply below_alloc | apply pw_below_drewN | apply below_drew1) | exact HB.out)) hb); clear HO143; clear HO147; clear HB; have HO143 := n0_; have HO147 := n1_; have HO158 := n2_; have HB := n3_; clear n0_ n1_ n2_ n3_; clear hb ho28; obtain ⟨Ao29, co29, eo29⟩ := Kd.R_slice HO143.out; subst eo29; obtain ⟨Ao30, co30, eo30⟩ := Kd.R_slice HO158.out; subst eo30) | (go_at_call 38; (with_reducible refine (galloonlaw01_texts.calls k _ _ t140 _ _ y156 true _ ?side1 ?side2 ?side3 ?side4 A8.out).mono ?_); (case side1 => repeat (first | exact (Kd.R_reads' HO143.out).2.2 | (with_reducible refine Kd.C_alloc ?_ _) | (with_reducible refine Kd.C_drewN ?_ _) | (with_reducible refine Kd.C_drew ?_))); (case side2 => exact (Kd.R_reads' HO143.out).2.1); (case side3 => repeat (first | exact (Kd.R_reads' HO158.out).2.2 | (with_reducible refine Kd.C_alloc ?_ _) | (with_reducible refine Kd.C_drewN ?_ _) | (with_reducible refine Kd.C_drew ?_))); (case side4 => exact (Kd.R_reads' HO158.out).2.1); rintro e w' ⟨rfl, ⟨nd, rfl⟩⟩) | ((with_reducible refine gate_dst (N := 51) rfl ?_); (try (refine gate_guard (by rfl) ?_; dsimp only)); refine Kd.R_lit (Kd.int .i64) _ 3 ?hg (N := 51) ?hd (xs := ([1, 0, 1, 4, 1, 0, 1] : List Int)) (inner := [.int .i64 1, .int .i64 0, .int .i64 1, .int .i64 4, .int .i64 1, .int .i64 0, .int .i64 1]) (ok := fun _ => True) (okp := fun _ => True) ?hr ?hp (fun _ hk => hk) trivial (Below.refl _ _) (Nat.le_refl _) (by simp) ?_; (case hd => rfl); (case hg => rfl); (case hr => first | (go_simp; done) | (go_simp; rfl)); (case hp => exact (Reps.one (show Kd.M (Kd.int .i64) _ _ _ 1 [.int .i64 1] from rfl) (Reps.one (show Kd.M (Kd.int .i64) _ _ _ 0 [.int .i64 0] from rfl) (Reps.one (show Kd.M (Kd.int .i64) _ _ _ 1 [.int .i64 1] from rfl) (Reps.one (show Kd.M (Kd.int .i64) _ _ _ 4 [.int .i64 4] from rfl) (Reps.one (show Kd.M (Kd.int .i64) _ _ _ 1 [.int .i64 1] from rfl) (Reps.one (show Kd.M (Kd.int .i64) _ _ _ 0 [.int .i64 0] from rfl) (Reps.one (show Kd.M (Kd.int .i64) _ _ _ 1 [.int .i64 1] from rfl) (Reps.none _ _))))))))); intro v161 w31 ho32 hb hg_ hnew_; clear hg_ hnew_; (first | rw [← Ny160.out] at ho32 | (simp only [Int.reduceToNat] at ho32; rw [← Ny160.out] at ho32)); have n0_ := Aside0.mk (Kd.R_below (by (with_reducible repeat (first | apply Kd.R_alloc | apply Kd.R_drewN | apply Kd.R_drew)); exact HO143.out) hb); have n1_ := Aside0.mk (Kd.R_elder' (by (with_reducible repeat (first | apply Kd.R_alloc | apply Kd.R_drewN | apply Kd.R_drew)); exact HO147.out) (Kd.R_base ho32) hb); have n2_ := Aside0.mk (Kd.R_below (by (with_reducible repeat (first | apply Kd.R_alloc | apply Kd.R_drewN | apply Kd.R_drew)); exact HO158.out) hb); have n3_ := Aside0.mk (Kd.R_lower (Kd.R_new' ho32 (Kd.R_lt (by (with_reducible repeat (first | apply Kd.R_alloc | apply Kd.R_drewN | apply Kd.R_drew)); exact HO147.out))) (below_size (by repeat (first | (with_reducible first | exact HB.out | apply below_alloc | apply pw_below_drewN | apply below_drew1) | exact HB.out)))); have n4_ := Aside0.mk (below_step (by repeat (first | (with_reducible first | exact HB.out | apply below_alloc | apply pw_below_drewN | apply below_drew1) | exact HB.out)) hb); clear HO143; clear HO147; clear HO158; clear HB; have HO143 := n0_; have HO147 := n1_; have HO158 := n2_; have HO162 := n3_; have HB := n4_; clear n0_ n1_ n2_ n3_ n4_; clear hb ho32; obtain ⟨Ao33, co33, eo33⟩ := Kd.R_slice HO147.out; subst eo33; obtain ⟨Ao34, co34, eo34⟩ := Kd.R_slice HO162.out; subst eo34) | (go_at_call 21; (with_reducible refine (galloonlaw01_ints.calls k _ _ t144 _ _ y160 true _ ?side1 ?side2 ?side3 ?side4 A11.out).mono ?_); (case side1 => repeat (first | exact (Kd.R_reads' HO147.out).2.2 | (with_reducible refine Kd.C_alloc ?_ _) | (with_reducible refine Kd.C_drewN ?_ _) | (with_reducible refine Kd.C_drew ?_))); (case side2 => exact (Kd.R_reads' HO147.out).2.1); (case side3 => repeat (first | exact (Kd.R_reads' HO162.out).2.2 | (with_reducible refine Kd.C_alloc ?_ _) | (with_reducible refine Kd.C_drewN ?_ _) | (with_reducible refine Kd.C_drew ?_))); (case side4 => exact (Kd.R_reads' HO162.out).2.1); rintro e w' ⟨rfl, ⟨nd, rfl⟩⟩))
                          go_ret
                          exact ⟨by first | rfl | (simp [errW_none, errW_some] <;> rfl) | (simp [*, errW_none, errW_some] <;> rfl), by repeat (first | (with_reducible first | exact HB.out | apply below_alloc | apply pw_below_drewN | apply below_drew1) | exact HB.out)⟩
                        · rw [if_neg c20] at H
                          have c20b0 : (t154.toList == ([98, 99, 98] : List UInt8)) = false := beq_eq_false_iff_ne.mpr c20
                          have c20b1 : (t154.toList != ([98, 99, 98] : List UInt8)) = true := bne_iff_ne.mpr c20
                          exact absurd ((Option.some.inj H).trans hr) (by decide)
                      · rw [if_neg c19] at H
                        have c19b0 : (t155 == 0) = false := beq_eq_false_iff_ne.mpr c19
                        have c19b1 : (t155 != 0) = true := bne_iff_ne.mpr c19
                        exact absurd ((Option.some.inj H).trans hr) (by decide)
                    · rw [if_neg c18] at H
                      have c18b0 : (t152.toList == ([97, 98, 99] : List UInt8)) = false := beq_eq_false_iff_ne.mpr c18
                      have c18b1 : (t152.toList != ([97, 98, 99] : List UInt8)) = true := bne_iff_ne.mpr c18
                      exact absurd ((Option.some.inj H).trans hr) (by decide)
                  · rw [if_neg c17] at H
                    have c17b0 : (t153 == 0) = false := beq_eq_false_iff_ne.mpr c17
                    have c17b1 : (t153 != 0) = true := bne_iff_ne.mpr c17
                    exact absurd ((Option.some.inj H).trans hr) (by decide)
                · rw [if_neg c16] at H
                  have c16b0 : (t150.toList == ([97, 98, 97, 99, 97, 98, 97] : List UInt8)) = false := beq_eq_false_iff_ne.mpr c16
                  have c16b1 : (t150.toList != ([97, 98, 97, 99, 97, 98, 97] : List UInt8)) = true := bne_iff_ne.mpr c16
                  exact absurd ((Option.some.inj H).trans hr) (by decide)
              · rw [if_neg c15] at H
                have c15b0 : (t151 == 0) = false := beq_eq_false_iff_ne.mpr c15
                have c15b1 : (t151 != 0) = true := bne_iff_ne.mpr c15
                exact absurd ((Option.some.inj H).trans hr) (by decide)
            · rw [if_neg c14] at H
              have c14b0 : (t148 == 3) = false := beq_eq_false_iff_ne.mpr c14
              have c14b1 : (t148 != 3) = true := bne_iff_ne.mpr c14
              exact absurd ((Option.some.inj H).trans hr) (by decide)
          · rw [if_neg c13] at H
            have c13b0 : (t149 == 0) = false := beq_eq_false_iff_ne.mpr c13
            have c13b1 : (t149 != 0) = true := bne_iff_ne.mpr c13
            exact absurd ((Option.some.inj H).trans hr) (by decide)
        · replace c12 := Bool.eq_false_iff.mpr c12
          subst c12
          have H1 : (some false) = some r := by rw [if_neg (show ¬ (false = true) by decide)] at H; exact H
          clear H
          have H := H1
          clear H1
          exact absurd ((Option.some.inj H).trans hr) (by decide)
      · rw [if_neg c10] at H
        have c10b0 : (t145 == 0) = false := beq_eq_false_iff_ne.mpr c10
        have c10b1 : (t145 != 0) = true := bne_iff_ne.mpr c10
        exact absurd ((Option.some.inj H).trans hr) (by decide)
    · replace c9 := Bool.eq_false_iff.mpr c9
      subst c9
      have H1 : (some false) = some r := by rw [if_neg (show ¬ (false = true) by decide)] at H; exact H
      clear H
      have H := H1
      clear H1
      exact absurd ((Option.some.inj H).trans hr) (by decide)
  · rw [if_neg c7] at H
    have c7b0 : (t141 == 0) = false := beq_eq_false_iff_ne.mpr c7
    have c7b1 : (t141 != 0) = true := bne_iff_ne.mpr c7
    exact absurd ((Option.some.inj H).trans hr) (by decide)

/-! ### galloonref01_Palindrome: function 32 -/
def galloonref01_Palindrome.l0 : Nat → ByteArray → Int → Option (Bool)
  | 0, _, _ => none
  | k + 1, x0, x3 => if x3 < (wrap64 ((x0.size : Int) / 2)) then (if 0 ≤ x3 then (if x3 < (x0.size : Int) then (if 0 ≤ (wrap64 ((wrap64 ((x0.size : Int) - 1)) - x3)) then (if (wrap64 ((wrap64 ((x0.size : Int) - 1)) - x3)) < (x0.size : Int) then (if (bt x0 x3) = (bt x0 (wrap64 ((wrap64 ((x0.size : Int) - 1)) - x3))) then (galloonref01_Palindrome.l0 k x0 (wrap64 (x3 + 1))) else (some false)) else (none)) else (none)) else (none)) else (none)) else (some true)
def galloonref01_Palindrome.f (k : Nat) (a0 : ByteArray) : Option (Bool) := galloonref01_Palindrome.l0 k a0 0
theorem galloonref01_Palindrome.mono_l : ∀ k, (∀ y0 y1, LeO (galloonref01_Palindrome.l0 k y0 y1) (galloonref01_Palindrome.l0 (k + 1) y0 y1))
  | 0 => fun _ _ r h => by simp [galloonref01_Palindrome.l0] at h
  | k + 1 => by
    have ih0 := galloonref01_Palindrome.mono_l k
    · intro y0 y1
      unfold galloonref01_Palindrome.l0
      repeat' first
      | (with_reducible exact ih0 _ _)
      | (with_reducible exact LeO.refl _)
      | (with_reducible exact LeO.none _)
      | (with_reducible refine LeO.ite ?_ ?_)
      | (with_reducible refine LeO.bind ?_ (fun _ => ?_))
      | exact ih0 _ _
      | exact LeO.none _
      | refine LeO.ite ?_ ?_
      | refine LeO.bind ?_ (fun _ => ?_)
theorem galloonref01_Palindrome.mono : ∀ a0 k, LeO (galloonref01_Palindrome.f k a0) (galloonref01_Palindrome.f (k + 1) a0) := by
  intro a0 k
  have ih0 := galloonref01_Palindrome.mono_l k
  unfold galloonref01_Palindrome.f
  repeat' first
      | (with_reducible exact ih0 _ _)
      | (with_reducible exact LeO.refl _)
      | (with_reducible exact LeO.none _)
      | (with_reducible refine LeO.ite ?_ ?_)
      | (with_reducible refine LeO.bind ?_ (fun _ => ?_))
      | exact ih0 _ _
      | exact LeO.none _
      | refine LeO.ite ?_ ?_
      | refine LeO.bind ?_ (fun _ => ?_)
set_option maxHeartbeats 8000000 in
set_option maxRecDepth 100000 in
theorem galloonref01_Palindrome.calls (k : Nat) (a0 : ByteArray) (r : Bool) (w : World) (h : galloonref01_Palindrome.f k a0 = some r) :
    Calls Try.prog 32 #[.string a0] w fun e w' => e = .returned (.bool r) ∧ Drawn0 w w' := by
  have H : (galloonref01_Palindrome.l0 k a0 0) = some r := h
  clear h
  have H' := Aside0.mk H
  clear H
  go_enter Try.func32, Try.ntmps32
  go_wp2
  repeat (go_quiet (fail); try go_wp2)
  go_loopg [3] k (fun kq v3 w' => ∃ (x3_1 : Int), v3 = .int .i64 x3_1 ∧ Aside0 (galloonref01_Palindrome.l0 kq a0 x3_1 = some r) ∧ Aside0 (kq ≤ k) ∧ Drawn0 w w')
  case atStart => exact ⟨(0), (by first | rfl | (simp; done) | (simp [*]; done)), H', ⟨Nat.le_refl _⟩, by repeat (first | exact Drawn0.refl _ | apply Drawn0.step)⟩
  case round =>
    clear H'
    obtain ⟨x3_1, rfl, HA, HK1, ⟨m1, rfl⟩⟩ := hrel
    cases gk with
    | zero => exact absurd HA.out (by simp [galloonref01_Palindrome.l0])
    | succ k1 =>
      have H := HA.out
      clear HA
      simp only [galloonref01_Palindrome.l0] at H
      by_cases c2 : x3_1 < (wrap64 ((a0.size : Int) / 2))
      · rw [if_pos c2] at H
        have c2b0 : decide (x3_1 < (wrap64 ((a0.size : Int) / 2))) = true := decide_eq_true c2
        clear c2
        by_cases c3 : 0 ≤ x3_1
        · rw [if_pos c3] at H
          have c3b0 : decide (0 ≤ x3_1) = true := decide_eq_true c3
          clear c3
          by_cases c4 : x3_1 < (a0.size : Int)
          · rw [if_pos c4] at H
            have c4b0 : decide (x3_1 < (a0.size : Int)) = true := decide_eq_true c4
            clear c4
            obtain ⟨ji6, hji6⟩ : ∃ j_ : Int, (wrap64 ((wrap64 ((a0.size : Int) - 1)) - x3_1)) = j_ := ⟨_, rfl⟩
            replace H : (if 0 ≤ (ji6) then (if (ji6) < (a0.size : Int) then (if (bt a0 x3_1) = (bt a0 (ji6)) then (galloonref01_Palindrome.l0 k1 a0 (wrap64 (x3_1 + 1))) else (some false)) else (none)) else (none)) = some r := by first | (rw [hji6] at H; exact H) | (simp only [hji6] at H ⊢; exact H)
            have hji6w : (IntKind.i64.wrap ((wrap64 ((a0.size : Int) - 1)) - x3_1)) = ji6 := (i64_w _).trans hji6
            by_cases c7 : 0 ≤ (ji6)
            · rw [if_pos c7] at H
              have c7b0 : decide (0 ≤ (ji6)) = true := decide_eq_true c7
              clear c7
              by_cases c8 : (ji6) < (a0.size : Int)
              · rw [if_pos c8] at H
                have c8b0 : decide ((ji6) < (a0.size : Int)) = true := decide_eq_true c8
                clear c8
                by_cases c10 : (bt a0 x3_1) = (bt a0 (ji6))
                · rw [if_pos c10] at H
                  have c10b0 : ((bt a0 x3_1) == (bt a0 (ji6))) = true := beq_iff_eq.mpr c10
                  have c10b1 : ((bt a0 x3_1) != (bt a0 (ji6))) = false := bne_eq_false_iff_eq.mpr c10
                  clear c10
                  have H' := Aside0.mk H
                  clear H
                  have p5 : 0 ≤ (x3_1 : Int) := of_decide_eq_true (by first | (with_reducible assumption) | assumption)
                  have q5 : x3_1 < (a0.size : Int) := of_decide_eq_true (by first | (with_reducible assumption) | assumption)
                  have hx5 := bt_at a0 x3_1
                  replace p5 := eq_true p5
                  replace q5 := eq_true q5
                  have p9 : 0 ≤ ((ji6) : Int) := of_decide_eq_true (by first | (with_reducible assumption) | assumption)
                  have q9 : (ji6) < (a0.size : Int) := of_decide_eq_true (by first | (with_reducible assumption) | assumption)
                  have hx9 := bt_at a0 (ji6)
                  replace p9 := eq_true p9
                  replace q9 := eq_true q9
                  go_wp2
                  repeat (go_quiet (fail); try go_wp2)
                  go_roundg k1
                  case measure => have := HK1.out; omega
                  case rel => exact ⟨(wrap64 (x3_1 + 1)), (by first | rfl | (simp; done) | (simp [*]; done)), H', ⟨by have := HK1.out; omega⟩, by repeat (first | exact Drawn0.refl _ | apply Drawn0.step)⟩
                · rw [if_neg c10] at H
                  have c10b0 : ((bt a0 x3_1) == (bt a0 (ji6))) = false := beq_eq_false_iff_ne.mpr c10
                  have c10b1 : ((bt a0 x3_1) != (bt a0 (ji6))) = true := bne_iff_ne.mpr c10
                  obtain rfl := Option.some.inj H
                  have p5 : 0 ≤ (x3_1 : Int) := of_decide_eq_true (by first | (with_reducible assumption) | assumption)
                  have q5 : x3_1 < (a0.size : Int) := of_decide_eq_true (by first | (with_reducible assumption) | assumption)
                  have hx5 := bt_at a0 x3_1
                  replace p5 := eq_true p5
                  replace q5 := eq_true q5
                  have p9 : 0 ≤ ((ji6) : Int) := of_decide_eq_true (by first | (with_reducible assumption) | assumption)
                  have q9 : (ji6) < (a0.size : Int) := of_decide_eq_true (by first | (with_reducible assumption) | assumption)
                  have hx9 := bt_at a0 (ji6)
                  replace p9 := eq_true p9
                  replace q9 := eq_true q9
                  go_wp2
                  repeat (go_quiet (fail); try go_wp2)
                  go_ret
                  exact ⟨by first | rfl | (simp; done) | (simp only [← hji6] <;> (first | rfl | simp)) | (simp [*]; done), by repeat (first | exact Drawn0.refl _ | apply Drawn0.step)⟩
              · rw [if_neg c8] at H
                exact absurd H (by simp)
            · rw [if_neg c7] at H
              exact absurd H (by simp)
          · rw [if_neg c4] at H
            exact absurd H (by simp)
        · rw [if_neg c3] at H
          exact absurd H (by simp)
      · rw [if_neg c2] at H
        have c2b0 : decide (x3_1 < (wrap64 ((a0.size : Int) / 2))) = false := decide_eq_false c2
        clear c2
        obtain rfl := Option.some.inj H
        go_wp2
        repeat (go_quiet (fail); try go_wp2)
        go_ret
        exact ⟨by first | rfl | (simp; done) | (simp [*]; done), by repeat (first | exact Drawn0.refl _ | apply Drawn0.step)⟩

end Go.Proofs.Ytbdlhgdfnnbjiaa.PY
