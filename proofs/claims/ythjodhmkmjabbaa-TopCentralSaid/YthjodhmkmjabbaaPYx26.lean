-- Made by the session's own driver (wip/tools/p2.py) out of the translation; Lean checks it.
import Derived.Test.YthjodhmkmjabbaaPYx0
import Derived.Test.YthjodhmkmjabbaaPYx21
import Derived.Test.YthjodhmkmjabbaaPYx23
import Derived.Test.YthjodhmkmjabbaaPYx25
import Derived.Test.YthjodhmkmjabbaaGFollow
namespace Go.Proofs.Ythjodhmkmjabbaa.PY
open Go.RowKit Go.Proofs.YthjodhmkmjabbaaW.PrintWords Go.Proofs.YthjodhmkmjabbaaW.PrintLast Go.Proofs.YthjodhmkmjabbaaW.PrintMore
attribute [local go_sem] max2_int min2_int max_two min_two max_three min_three max_four min_four   -- for this text's walks alone
set_option linter.unusedVariables false
set_option linter.unusedSimpArgs false

/-! ### galloontop_TopCentral: function 9 -/
mutual
def galloontop_TopCentral.l0 : Nat → ByteArray → ByteArray → Int → Option (Bool)
  | 0, _, _, _ => none
  | k + 1, x3, x4, x5 => if x5 < (x3.size : Int) then (if 0 ≤ x5 then (if (bt x3 x5) = 97 then (if x4.size + 1 ≤ 9223372036854775807 then (galloontop_TopCentral.l0 k x3 (x4 ++ (⟨#[76]⟩ : ByteArray)) (wrap64 (x5 + 1))) else (none)) else (if x4.size + 1 ≤ 9223372036854775807 then (galloontop_TopCentral.l0 k x3 (x4 ++ (⟨#[82]⟩ : ByteArray)) (wrap64 (x5 + 1))) else (none))) else (none)) else ((yard_Follow.f k x4).bind fun bt376 => ((trim_Tower.f k x3).bind fun bt380 => (if bt376.2.2 = 0 then (if bt376.1 < 1 then (galloontop_TopCentral.j1 k bt380.1 bt380.2 true bt376.1 bt376.2.1) else (galloontop_TopCentral.j1 k bt380.1 bt380.2 (decide (bt376.2.1 ≤ bt376.1)) bt376.1 bt376.2.1)) else (galloontop_TopCentral.j1 k bt380.1 bt380.2 true bt376.1 bt376.2.1))))
def galloontop_TopCentral.j1 : Nat → ByteArray → Int → Bool → Int → Int → Option (Bool)
  | 0, _, _, _, _, _ => none
  | k + 1, x8, x9, x56, x380000, x380001 => if x56 = true then (some false) else (if (wrap64 (x380001 - 2)) > 100 then (if x9 = 5 then (if x8.toList = ([] : List UInt8) then ((galloontop_three.f k).bind fun t382 => (some t382)) else (some false)) else (some false)) else (galloontop_TopCentral.l1 k x8 x9 0 0 x380000 x380001))
def galloontop_TopCentral.l1 : Nat → ByteArray → Int → Int → Int → Int → Int → Option (Bool)
  | 0, _, _, _, _, _, _ => none
  | k + 1, x8, x9, x10, x11, x380000, x380001 => if x11 < (x8.size : Int) then (if 0 ≤ x11 then (if (bt x8 x11) = 98 then (galloontop_TopCentral.l1 k x8 x9 (wrap64 (x10 + 1)) (wrap64 (x11 + 1)) x380000 x380001) else (galloontop_TopCentral.l1 k x8 x9 x10 (wrap64 (x11 + 1)) x380000 x380001)) else (none)) else (if x9 = 0 then (if (x8.size : Int) = (wrap64 (x380001 - 2)) then (galloontop_TopCentral.j3 k x8 (x10 != (wrap64 (x380000 - 1))) x380000 x380001) else (galloontop_TopCentral.j3 k x8 true x380000 x380001)) else (galloontop_TopCentral.j3 k x8 true x380000 x380001))
def galloontop_TopCentral.j3 : Nat → ByteArray → Bool → Int → Int → Option (Bool)
  | 0, _, _, _, _ => none
  | k + 1, x8, x98, x380000, x380001 => if x98 = true then (some false) else ((yard_Before.f k (mn x380001 300) x380000 x380001).bind fun bt383 => ((yard_Next.f k (mn x380001 300) x380000 x380001).bind fun bt387 => (if bt383.2.2 = 0 then (if bt387.2.2 = 0 then (if (wrap64 (bt383.2.1 + bt387.2.1)) = x380001 then (if bt383.2.1 < 1 then (galloontop_TopCentral.j4 k x8 true bt383.1 bt383.2.1 bt387.1 bt387.2.1) else (galloontop_TopCentral.j4 k x8 (decide (bt387.2.1 < 1)) bt383.1 bt383.2.1 bt387.1 bt387.2.1)) else (galloontop_TopCentral.j4 k x8 true bt383.1 bt383.2.1 bt387.1 bt387.2.1)) else (galloontop_TopCentral.j4 k x8 true bt383.1 bt383.2.1 bt387.1 bt387.2.1)) else (galloontop_TopCentral.j4 k x8 true bt383.1 bt383.2.1 bt387.1 bt387.2.1))))
def galloontop_TopCentral.j4 : Nat → ByteArray → Bool → Int → Int → Int → Int → Option (Bool)
  | 0, _, _, _, _, _, _ => none
  | k + 1, x8, x140, x387000, x387001, x391000, x391001 => if x140 = true then (some false) else (galloontop_TopCentral.l2 k x8 0 x387000 x387001 x391000 x391001)
def galloontop_TopCentral.l2 : Nat → ByteArray → Int → Int → Int → Int → Int → Option (Bool)
  | 0, _, _, _, _, _, _ => none
  | k + 1, x8, x16, x387000, x387001, x391000, x391001 => if x16 < (x8.size : Int) then (if x16 ≥ x387001 then (if 0 ≤ x16 then (if 0 ≤ (wrap64 (x16 - x387001)) then (if (wrap64 (x16 - x387001)) < (x8.size : Int) then (if (bt x8 x16) = (bt x8 (wrap64 (x16 - x387001))) then (if x16 ≥ x391001 then (if 0 ≤ (wrap64 (x16 - x391001)) then (if (wrap64 (x16 - x391001)) < (x8.size : Int) then (if (bt x8 x16) = (bt x8 (wrap64 (x16 - x391001))) then (galloontop_TopCentral.l2 k x8 (wrap64 (x16 + 1)) x387000 x387001 x391000 x391001) else (some false)) else (none)) else (none)) else (galloontop_TopCentral.l2 k x8 (wrap64 (x16 + 1)) x387000 x387001 x391000 x391001)) else (some false)) else (none)) else (none)) else (none)) else (if x16 ≥ x391001 then (if 0 ≤ x16 then (if 0 ≤ (wrap64 (x16 - x391001)) then (if (wrap64 (x16 - x391001)) < (x8.size : Int) then (if (bt x8 x16) = (bt x8 (wrap64 (x16 - x391001))) then (galloontop_TopCentral.l2 k x8 (wrap64 (x16 + 1)) x387000 x387001 x391000 x391001) else (some false)) else (none)) else (none)) else (none)) else (galloontop_TopCentral.l2 k x8 (wrap64 (x16 + 1)) x387000 x387001 x391000 x391001))) else ((galloontop_three.f k).bind fun t391 => (some t391))
end
def galloontop_TopCentral.f (k : Nat) (a0 : ByteArray) : Option (Bool) := (galloontop_text.f k a0 97 12 2).bind fun t375 => (galloontop_TopCentral.l0 k t375 (⟨#[]⟩ : ByteArray) 0)
theorem galloontop_TopCentral.mono_l : ∀ k, (∀ y0 y1 y2, LeO (galloontop_TopCentral.l0 k y0 y1 y2) (galloontop_TopCentral.l0 (k + 1) y0 y1 y2)) ∧ (∀ y0 y1 y2 y3 y4, LeO (galloontop_TopCentral.j1 k y0 y1 y2 y3 y4) (galloontop_TopCentral.j1 (k + 1) y0 y1 y2 y3 y4)) ∧ (∀ y0 y1 y2 y3 y4 y5, LeO (galloontop_TopCentral.l1 k y0 y1 y2 y3 y4 y5) (galloontop_TopCentral.l1 (k + 1) y0 y1 y2 y3 y4 y5)) ∧ (∀ y0 y1 y2 y3, LeO (galloontop_TopCentral.j3 k y0 y1 y2 y3) (galloontop_TopCentral.j3 (k + 1) y0 y1 y2 y3)) ∧ (∀ y0 y1 y2 y3 y4 y5, LeO (galloontop_TopCentral.j4 k y0 y1 y2 y3 y4 y5) (galloontop_TopCentral.j4 (k + 1) y0 y1 y2 y3 y4 y5)) ∧ (∀ y0 y1 y2 y3 y4 y5, LeO (galloontop_TopCentral.l2 k y0 y1 y2 y3 y4 y5) (galloontop_TopCentral.l2 (k + 1) y0 y1 y2 y3 y4 y5))
  | 0 => ⟨fun _ _ _ r h => by simp [galloontop_TopCentral.l0] at h, fun _ _ _ _ _ r h => by simp [galloontop_TopCentral.j1] at h, fun _ _ _ _ _ _ r h => by simp [galloontop_TopCentral.l1] at h, fun _ _ _ _ r h => by simp [galloontop_TopCentral.j3] at h, fun _ _ _ _ _ _ r h => by simp [galloontop_TopCentral.j4] at h, fun _ _ _ _ _ _ r h => by simp [galloontop_TopCentral.l2] at h⟩
  | k + 1 => by
    obtain ⟨ih0, ih1, ih2, ih3, ih4, ih5⟩ := galloontop_TopCentral.mono_l k
    refine ⟨?_, ?_, ?_, ?_, ?_, ?_⟩
    · intro y0 y1 y2
      unfold galloontop_TopCentral.l0
      repeat' first
      | (with_reducible exact ih0 _ _ _)
      | (with_reducible exact ih1 _ _ _ _ _)
      | (with_reducible exact ih2 _ _ _ _ _ _)
      | (with_reducible exact ih3 _ _ _ _)
      | (with_reducible exact ih4 _ _ _ _ _ _)
      | (with_reducible exact ih5 _ _ _ _ _ _)
      | (with_reducible exact galloontop_text.mono _ _ _ _ _)
      | (with_reducible exact galloontop_three.mono _)
      | (with_reducible exact trim_Tower.mono _ _)
      | (with_reducible exact yard_Before.mono _ _ _ _)
      | (with_reducible exact yard_Follow.mono _ _)
      | (with_reducible exact yard_Next.mono _ _ _ _)
      | (with_reducible exact LeO.refl _)
      | (with_reducible exact LeO.none _)
      | (with_reducible refine LeO.ite ?_ ?_)
      | (with_reducible refine LeO.bind ?_ (fun _ => ?_))
      | exact ih0 _ _ _
      | exact ih1 _ _ _ _ _
      | exact ih2 _ _ _ _ _ _
      | exact ih3 _ _ _ _
      | exact ih4 _ _ _ _ _ _
      | exact ih5 _ _ _ _ _ _
      | exact galloontop_text.mono _ _ _ _ _
      | exact galloontop_three.mono _
      | exact trim_Tower.mono _ _
      | exact yard_Before.mono _ _ _ _
      | exact yard_Follow.mono _ _
      | exact yard_Next.mono _ _ _ _
      | exact LeO.none _
      | refine LeO.ite ?_ ?_
      | refine LeO.bind ?_ (fun _ => ?_)
    · intro y0 y1 y2 y3 y4
      unfold galloontop_TopCentral.j1
      repeat' first
      | (with_reducible exact ih0 _ _ _)
      | (with_reducible exact ih1 _ _ _ _ _)
      | (with_reducible exact ih2 _ _ _ _ _ _)
      | (with_reducible exact ih3 _ _ _ _)
      | (with_reducible exact ih4 _ _ _ _ _ _)
      | (with_reducible exact ih5 _ _ _ _ _ _)
      | (with_reducible exact galloontop_text.mono _ _ _ _ _)
      | (with_reducible exact galloontop_three.mono _)
      | (with_reducible exact trim_Tower.mono _ _)
      | (with_reducible exact yard_Before.mono _ _ _ _)
      | (with_reducible exact yard_Follow.mono _ _)
      | (with_reducible exact yard_Next.mono _ _ _ _)
      | (with_reducible exact LeO.refl _)
      | (with_reducible exact LeO.none _)
      | (with_reducible refine LeO.ite ?_ ?_)
      | (with_reducible refine LeO.bind ?_ (fun _ => ?_))
      | exact ih0 _ _ _
      | exact ih1 _ _ _ _ _
      | exact ih2 _ _ _ _ _ _
      | exact ih3 _ _ _ _
      | exact ih4 _ _ _ _ _ _
      | exact ih5 _ _ _ _ _ _
      | exact galloontop_text.mono _ _ _ _ _
      | exact galloontop_three.mono _
      | exact trim_Tower.mono _ _
      | exact yard_Before.mono _ _ _ _
      | exact yard_Follow.mono _ _
      | exact yard_Next.mono _ _ _ _
      | exact LeO.none _
      | refine LeO.ite ?_ ?_
      | refine LeO.bind ?_ (fun _ => ?_)
    · intro y0 y1 y2 y3 y4 y5
      unfold galloontop_TopCentral.l1
      repeat' first
      | (with_reducible exact ih0 _ _ _)
      | (with_reducible exact ih1 _ _ _ _ _)
      | (with_reducible exact ih2 _ _ _ _ _ _)
      | (with_reducible exact ih3 _ _ _ _)
      | (with_reducible exact ih4 _ _ _ _ _ _)
      | (with_reducible exact ih5 _ _ _ _ _ _)
      | (with_reducible exact galloontop_text.mono _ _ _ _ _)
      | (with_reducible exact galloontop_three.mono _)
      | (with_reducible exact trim_Tower.mono _ _)
      | (with_reducible exact yard_Before.mono _ _ _ _)
      | (with_reducible exact yard_Follow.mono _ _)
      | (with_reducible exact yard_Next.mono _ _ _ _)
      | (with_reducible exact LeO.refl _)
      | (with_reducible exact LeO.none _)
      | (with_reducible refine LeO.ite ?_ ?_)
      | (with_reducible refine LeO.bind ?_ (fun _ => ?_))
      | exact ih0 _ _ _
      | exact ih1 _ _ _ _ _
      | exact ih2 _ _ _ _ _ _
      | exact ih3 _ _ _ _
      | exact ih4 _ _ _ _ _ _
      | exact ih5 _ _ _ _ _ _
      | exact galloontop_text.mono _ _ _ _ _
      | exact galloontop_three.mono _
      | exact trim_Tower.mono _ _
      | exact yard_Before.mono _ _ _ _
      | exact yard_Follow.mono _ _
      | exact yard_Next.mono _ _ _ _
      | exact LeO.none _
      | refine LeO.ite ?_ ?_
      | refine LeO.bind ?_ (fun _ => ?_)
    · intro y0 y1 y2 y3
      unfold galloontop_TopCentral.j3
      repeat' first
      | (with_reducible exact ih0 _ _ _)
      | (with_reducible exact ih1 _ _ _ _ _)
      | (with_reducible exact ih2 _ _ _ _ _ _)
      | (with_reducible exact ih3 _ _ _ _)
      | (with_reducible exact ih4 _ _ _ _ _ _)
      | (with_reducible exact ih5 _ _ _ _ _ _)
      | (with_reducible exact galloontop_text.mono _ _ _ _ _)
      | (with_reducible exact galloontop_three.mono _)
      | (with_reducible exact trim_Tower.mono _ _)
      | (with_reducible exact yard_Before.mono _ _ _ _)
      | (with_reducible exact yard_Follow.mono _ _)
      | (with_reducible exact yard_Next.mono _ _ _ _)
      | (with_reducible exact LeO.refl _)
      | (with_reducible exact LeO.none _)
      | (with_reducible refine LeO.ite ?_ ?_)
      | (with_reducible refine LeO.bind ?_ (fun _ => ?_))
      | exact ih0 _ _ _
      | exact ih1 _ _ _ _ _
      | exact ih2 _ _ _ _ _ _
      | exact ih3 _ _ _ _
      | exact ih4 _ _ _ _ _ _
      | exact ih5 _ _ _ _ _ _
      | exact galloontop_text.mono _ _ _ _ _
      | exact galloontop_three.mono _
      | exact trim_Tower.mono _ _
      | exact yard_Before.mono _ _ _ _
      | exact yard_Follow.mono _ _
      | exact yard_Next.mono _ _ _ _
      | exact LeO.none _
      | refine LeO.ite ?_ ?_
      | refine LeO.bind ?_ (fun _ => ?_)
    · intro y0 y1 y2 y3 y4 y5
      unfold galloontop_TopCentral.j4
      repeat' first
      | (with_reducible exact ih0 _ _ _)
      | (with_reducible exact ih1 _ _ _ _ _)
      | (with_reducible exact ih2 _ _ _ _ _ _)
      | (with_reducible exact ih3 _ _ _ _)
      | (with_reducible exact ih4 _ _ _ _ _ _)
      | (with_reducible exact ih5 _ _ _ _ _ _)
      | (with_reducible exact galloontop_text.mono _ _ _ _ _)
      | (with_reducible exact galloontop_three.mono _)
      | (with_reducible exact trim_Tower.mono _ _)
      | (with_reducible exact yard_Before.mono _ _ _ _)
      | (with_reducible exact yard_Follow.mono _ _)
      | (with_reducible exact yard_Next.mono _ _ _ _)
      | (with_reducible exact LeO.refl _)
      | (with_reducible exact LeO.none _)
      | (with_reducible refine LeO.ite ?_ ?_)
      | (with_reducible refine LeO.bind ?_ (fun _ => ?_))
      | exact ih0 _ _ _
      | exact ih1 _ _ _ _ _
      | exact ih2 _ _ _ _ _ _
      | exact ih3 _ _ _ _
      | exact ih4 _ _ _ _ _ _
      | exact ih5 _ _ _ _ _ _
      | exact galloontop_text.mono _ _ _ _ _
      | exact galloontop_three.mono _
      | exact trim_Tower.mono _ _
      | exact yard_Before.mono _ _ _ _
      | exact yard_Follow.mono _ _
      | exact yard_Next.mono _ _ _ _
      | exact LeO.none _
      | refine LeO.ite ?_ ?_
      | refine LeO.bind ?_ (fun _ => ?_)
    · intro y0 y1 y2 y3 y4 y5
      unfold galloontop_TopCentral.l2
      repeat' first
      | (with_reducible exact ih0 _ _ _)
      | (with_reducible exact ih1 _ _ _ _ _)
      | (with_reducible exact ih2 _ _ _ _ _ _)
      | (with_reducible exact ih3 _ _ _ _)
      | (with_reducible exact ih4 _ _ _ _ _ _)
      | (with_reducible exact ih5 _ _ _ _ _ _)
      | (with_reducible exact galloontop_text.mono _ _ _ _ _)
      | (with_reducible exact galloontop_three.mono _)
      | (with_reducible exact trim_Tower.mono _ _)
      | (with_reducible exact yard_Before.mono _ _ _ _)
      | (with_reducible exact yard_Follow.mono _ _)
      | (with_reducible exact yard_Next.mono _ _ _ _)
      | (with_reducible exact LeO.refl _)
      | (with_reducible exact LeO.none _)
      | (with_reducible refine LeO.ite ?_ ?_)
      | (with_reducible refine LeO.bind ?_ (fun _ => ?_))
      | exact ih0 _ _ _
      | exact ih1 _ _ _ _ _
      | exact ih2 _ _ _ _ _ _
      | exact ih3 _ _ _ _
      | exact ih4 _ _ _ _ _ _
      | exact ih5 _ _ _ _ _ _
      | exact galloontop_text.mono _ _ _ _ _
      | exact galloontop_three.mono _
      | exact trim_Tower.mono _ _
      | exact yard_Before.mono _ _ _ _
      | exact yard_Follow.mono _ _
      | exact yard_Next.mono _ _ _ _
      | exact LeO.none _
      | refine LeO.ite ?_ ?_
      | refine LeO.bind ?_ (fun _ => ?_)
theorem galloontop_TopCentral.mono : ∀ a0 k, LeO (galloontop_TopCentral.f k a0) (galloontop_TopCentral.f (k + 1) a0) := by
  intro a0 k
  obtain ⟨ih0, ih1, ih2, ih3, ih4, ih5⟩ := galloontop_TopCentral.mono_l k
  unfold galloontop_TopCentral.f
  repeat' first
      | (with_reducible exact ih0 _ _ _)
      | (with_reducible exact ih1 _ _ _ _ _)
      | (with_reducible exact ih2 _ _ _ _ _ _)
      | (with_reducible exact ih3 _ _ _ _)
      | (with_reducible exact ih4 _ _ _ _ _ _)
      | (with_reducible exact ih5 _ _ _ _ _ _)
      | (with_reducible exact galloontop_text.mono _ _ _ _ _)
      | (with_reducible exact galloontop_three.mono _)
      | (with_reducible exact trim_Tower.mono _ _)
      | (with_reducible exact yard_Before.mono _ _ _ _)
      | (with_reducible exact yard_Follow.mono _ _)
      | (with_reducible exact yard_Next.mono _ _ _ _)
      | (with_reducible exact LeO.refl _)
      | (with_reducible exact LeO.none _)
      | (with_reducible refine LeO.ite ?_ ?_)
      | (with_reducible refine LeO.bind ?_ (fun _ => ?_))
      | exact ih0 _ _ _
      | exact ih1 _ _ _ _ _
      | exact ih2 _ _ _ _ _ _
      | exact ih3 _ _ _ _
      | exact ih4 _ _ _ _ _ _
      | exact ih5 _ _ _ _ _ _
      | exact galloontop_text.mono _ _ _ _ _
      | exact galloontop_three.mono _
      | exact trim_Tower.mono _ _
      | exact yard_Before.mono _ _ _ _
      | exact yard_Follow.mono _ _
      | exact yard_Next.mono _ _ _ _
      | exact LeO.none _
      | refine LeO.ite ?_ ?_
      | refine LeO.bind ?_ (fun _ => ?_)
set_option maxHeartbeats 8000000 in
set_option maxRecDepth 100000 in
theorem galloontop_TopCentral.calls (k : Nat) (a0 : ByteArray) (r : Bool) (w : World) (h : galloontop_TopCentral.f k a0 = some r) (hr : Aside0 (r = true)) :
    Calls Try.prog 9 #[.string a0] w fun e w' => e = .returned (.bool r) ∧ Below w.heap.size w w' := by
  have hu23 := Try.underlying23
  have HB := Aside0.mk (Below.refl w.heap.size w)
  have H : ((galloontop_text.f k a0 97 12 2).bind fun t375 => (galloontop_TopCentral.l0 k t375 (⟨#[]⟩ : ByteArray) 0)) = some r := h
  clear h
  replace H := Option.bind_eq_some_iff.mp H
  obtain ⟨t375, A20, H⟩ := H
  replace H : (galloontop_TopCentral.l0 k t375 (⟨#[]⟩ : ByteArray) 0) = some r := H
  have A2 := Aside0.mk A20
  clear A20
  have H' := Aside0.mk H
  clear H
  go_enter Try.func9, Try.ntmps9
  go_wp2_with (first | (go_at_call 42; (with_reducible refine (galloontop_text.calls k a0 97 12 2 t375 _ A2.out).mono ?_); rintro e w3 ⟨rfl, hb⟩; have n0_ := Aside0.mk (below_step (by repeat (first | (with_reducible first | exact HB.out | apply below_alloc | apply pw_below_drewN | apply below_drew1) | exact HB.out)) hb); clear HB; have HB := n0_; clear n0_; (try clear hb); (try clear hb2); (try clear hk); (try clear hi)))
  repeat (go_quiet (first | (go_at_call 42; (with_reducible refine (galloontop_text.calls k a0 97 12 2 t375 _ A2.out).mono ?_); rintro e w3 ⟨rfl, hb⟩; have n0_ := Aside0.mk (below_step (by repeat (first | (with_reducible first | exact HB.out | apply below_alloc | apply pw_below_drewN | apply below_drew1) | exact HB.out)) hb); clear HB; have HB := n0_; clear n0_; (try clear hb); (try clear hb2); (try clear hk); (try clear hi))); try go_wp2_with (first | (go_at_call 42; (with_reducible refine (galloontop_text.calls k a0 97 12 2 t375 _ A2.out).mono ?_); rintro e w3 ⟨rfl, hb⟩; have n0_ := Aside0.mk (below_step (by repeat (first | (with_reducible first | exact HB.out | apply below_alloc | apply pw_below_drewN | apply below_drew1) | exact HB.out)) hb); clear HB; have HB := n0_; clear n0_; (try clear hb); (try clear hb2); (try clear hk); (try clear hi))))
  go_loopg [4, 5] k (fun kq v4 v5 w' => ∃ (x4_1 : ByteArray) (x5_1 : Int), v4 = .string x4_1 ∧ v5 = .int .i64 x5_1 ∧ Aside0 (galloontop_TopCentral.l0 kq t375 x4_1 x5_1 = some r) ∧ Aside0 (kq ≤ k) ∧ Aside0 (Below w.heap.size w w'))
  case atStart => exact ⟨((⟨#[]⟩ : ByteArray)), (0), (by first | rfl | (simp; done) | (simp [*]; done)), (by first | rfl | (simp; done) | (simp [*]; done)), H', ⟨Nat.le_refl _⟩, ⟨by repeat (first | (with_reducible first | exact HB.out | apply below_alloc | apply pw_below_drewN | apply below_drew1) | exact HB.out)⟩⟩
  case round =>
    clear H'
    try clear p2
    obtain ⟨x4_1, x5_1, rfl, rfl, HA, HK1, HB⟩ := hrel
    cases gk with
    | zero => exact absurd HA.out (by simp [galloontop_TopCentral.l0])
    | succ k1 =>
      have H := HA.out
      clear HA
      simp only [galloontop_TopCentral.l0] at H
      by_cases c4 : x5_1 < (t375.size : Int)
      · rw [if_pos c4] at H
        have c4b0 : decide (x5_1 < (t375.size : Int)) = true := decide_eq_true c4
        clear c4
        by_cases c5 : 0 ≤ x5_1
        · rw [if_pos c5] at H
          have c5b0 : decide (0 ≤ x5_1) = true := decide_eq_true c5
          clear c5
          by_cases c7 : (bt t375 x5_1) = 97
          · rw [if_pos c7] at H
            have c7b0 : ((bt t375 x5_1) == 97) = true := beq_iff_eq.mpr c7
            have c7b1 : ((bt t375 x5_1) != 97) = false := bne_eq_false_iff_eq.mpr c7
            clear c7
            by_cases c8 : x4_1.size + 1 ≤ 9223372036854775807
            · rw [if_pos c8] at H
              have c8b0 := eq_true c8
              have c8b1 : decide (x4_1.size + 1 ≤ 9223372036854775807) = true := decide_eq_true c8
              try have c8b2 : (9223372036854775807 < x4_1.size + 1) = False := eq_false (Nat.not_lt.2 c8)
              have H' := Aside0.mk H
              clear H
              have p6 : 0 ≤ (x5_1 : Int) := of_decide_eq_true (by first | (with_reducible assumption) | assumption)
              have q6 : x5_1 < (t375.size : Int) := of_decide_eq_true (by first | (with_reducible assumption) | assumption)
              have hx6 := bt_at t375 x5_1
              replace p6 := eq_true p6
              replace q6 := eq_true q6
              go_wp2
              repeat (go_quiet (fail); try go_wp2)
              go_roundg k1
              case measure => have := HK1.out; omega
              case rel => exact ⟨(x4_1 ++ (⟨#[76]⟩ : ByteArray)), (wrap64 (x5_1 + 1)), (by first | rfl | (simp; done) | (simp [*]; done)), (by first | rfl | (simp; done) | (simp [*]; done)), H', ⟨by have := HK1.out; omega⟩, ⟨by repeat (first | (with_reducible first | exact HB.out | apply below_alloc | apply pw_below_drewN | apply below_drew1) | exact HB.out)⟩⟩
            · rw [if_neg c8] at H
              exact absurd H (by simp)
          · rw [if_neg c7] at H
            have c7b0 : ((bt t375 x5_1) == 97) = false := beq_eq_false_iff_ne.mpr c7
            have c7b1 : ((bt t375 x5_1) != 97) = true := bne_iff_ne.mpr c7
            by_cases c9 : x4_1.size + 1 ≤ 9223372036854775807
            · rw [if_pos c9] at H
              have c9b0 := eq_true c9
              have c9b1 : decide (x4_1.size + 1 ≤ 9223372036854775807) = true := decide_eq_true c9
              try have c9b2 : (9223372036854775807 < x4_1.size + 1) = False := eq_false (Nat.not_lt.2 c9)
              have H' := Aside0.mk H
              clear H
              have p6 : 0 ≤ (x5_1 : Int) := of_decide_eq_true (by first | (with_reducible assumption) | assumption)
              have q6 : x5_1 < (t375.size : Int) := of_decide_eq_true (by first | (with_reducible assumption) | assumption)
              have hx6 := bt_at t375 x5_1
              replace p6 := eq_true p6
              replace q6 := eq_true q6
              go_wp2
              repeat (go_quiet (fail); try go_wp2)
              go_roundg k1
              case measure => have := HK1.out; omega
              case rel => exact ⟨(x4_1 ++ (⟨#[82]⟩ : ByteArray)), (wrap64 (x5_1 + 1)), (by first | rfl | (simp; done) | (simp [*]; done)), (by first | rfl | (simp; done) | (simp [*]; done)), H', ⟨by have := HK1.out; omega⟩, ⟨by repeat (first | (with_reducible first | exact HB.out | apply below_alloc | apply pw_below_drewN | apply below_drew1) | exact HB.out)⟩⟩
            · rw [if_neg c9] at H
              exact absurd H (by simp)
        · rw [if_neg c5] at H
          exact absurd H (by simp)
      · rw [if_neg c4] at H
        have c4b0 : decide (x5_1 < (t375.size : Int)) = false := decide_eq_false c4
        clear c4
        replace H := Option.bind_eq_some_iff.mp H
        obtain ⟨⟨t376, t377, t378⟩, A100, H⟩ := H
        replace H : ((trim_Tower.f k1 t375).bind fun bt380 => (if t378 = 0 then (if t376 < 1 then (galloontop_TopCentral.j1 k1 bt380.1 bt380.2 true t376 t377) else (galloontop_TopCentral.j1 k1 bt380.1 bt380.2 (decide (t377 ≤ t376)) t376 t377)) else (galloontop_TopCentral.j1 k1 bt380.1 bt380.2 true t376 t377))) = some r := H
        have A10 := Aside0.mk A100
        clear A100
        replace H := Option.bind_eq_some_iff.mp H
        obtain ⟨⟨t380, t381⟩, A110, H⟩ := H
        replace H : (if t378 = 0 then (if t376 < 1 then (galloontop_TopCentral.j1 k1 t380 t381 true t376 t377) else (galloontop_TopCentral.j1 k1 t380 t381 (decide (t377 ≤ t376)) t376 t377)) else (galloontop_TopCentral.j1 k1 t380 t381 true t376 t377)) = some r := H
        have A11 := Aside0.mk A110
        clear A110
        have HC12 := Aside0.mk H
        clear H
        go_upto_region 11 with (first | (go_at_call 39; (with_reducible refine (yard_Follow.calls k1 x4_1 t376 t377 t378 _ A10.out).mono ?_); rintro e w13 ⟨rfl, hb⟩; have n0_ := Aside0.mk (below_step (by repeat (first | (with_reducible first | exact HB.out | apply below_alloc | apply pw_below_drewN | apply below_drew1) | exact HB.out)) hb); clear HB; have HB := n0_; clear n0_; (try clear hb); (try clear hb2); (try clear hk); (try clear hi)) | ((with_reducible refine gate_dst (N := 6) rfl ?_); (try (refine gate_guard (by rfl) ?_; dsimp only)); refine box_event ?hg (N := 6) ?hd (cs := #[.int .i64 0, .int .i64 0]) (t := 23) ?hr ?_; (case hd => rfl); (case hg => rfl); (case hr => first | (go_simp; done) | (go_simp; rfl)); intro gb379 hg w14 hbox hb; have n0_ := Aside0.mk (below_step (by repeat (first | (with_reducible first | exact HB.out | apply below_alloc | apply pw_below_drewN | apply below_drew1) | exact HB.out)) hb); have n1_ := Aside0.mk (hbox); have n2_ := Aside0.mk ((by rw [hg]; exact (below_size (by repeat (first | (with_reducible first | exact HB.out | apply below_alloc | apply pw_below_drewN | apply below_drew1) | exact HB.out))) : w.heap.size ≤ gb379)); have n3_ := Aside0.mk ((by rw [hg]; exact (below_size (by repeat (first | (with_reducible first | exact HB.out | apply below_alloc | apply pw_below_drewN | apply below_drew1) | exact HB.out))) : w.heap.size ≤ gb379)); clear HB; have HB := n0_; have BK379 := n1_; have GW379 := n2_; have GE379 := n3_; clear n0_ n1_ n2_ n3_; clear hb hbox hg; have hcz15_0 : w14.cell? ⟨gb379, 0, none⟩ = some (.int .i64 0) := (blk_cell BK379.out 0).trans rfl; have hcz15_1 : w14.cell? ⟨gb379, 1, none⟩ = some (.int .i64 0) := (blk_cell BK379.out 1).trans rfl; have hfz15_0 := blk_frozen BK379.out 0; have hfz15_1 := blk_frozen BK379.out 1) | (go_at_call 43; (with_reducible refine (trim_Tower.calls k1 t375 t380 t381 _ A11.out).mono ?_); rintro e w16 ⟨rfl, hb⟩; have n0_ := Aside0.mk (blk_below (g := gb379) (o := .cells #[.int .i64 t376, .int .i64 t377] 23 (0, 0)) (by (with_reducible repeat (first | refine blk_drewN ?_ _ | refine blk_drew ?_ | refine blk_alloc ?_ _)); refine blk_put (cs := #[.int .i64 t376, .int .i64 0]) ?_ 1 _ rfl; (with_reducible repeat (first | refine blk_drewN ?_ _ | refine blk_drew ?_ | refine blk_alloc ?_ _)); refine blk_put (cs := #[.int .i64 0, .int .i64 0]) ?_ 0 _ rfl; (with_reducible repeat (first | refine blk_drewN ?_ _ | refine blk_drew ?_ | refine blk_alloc ?_ _)); exact BK379.out) hb); have n1_ := Aside0.mk (below_step (by repeat (first | (with_reducible first | exact HB.out | apply below_alloc | apply pw_below_drewN | apply below_drew1 | refine below_set ?_ GE379.out) | exact HB.out)) hb); clear BK379; clear HB; have BK379 := n0_; have HB := n1_; clear n0_ n1_; (try clear hb); (try clear hb2); (try clear hk); (try clear hi)))
        repeat (go_quiet (first | (go_at_call 39; (with_reducible refine (yard_Follow.calls k1 x4_1 t376 t377 t378 _ A10.out).mono ?_); rintro e w13 ⟨rfl, hb⟩; have n0_ := Aside0.mk (below_step (by repeat (first | (with_reducible first | exact HB.out | apply below_alloc | apply pw_below_drewN | apply below_drew1) | exact HB.out)) hb); clear HB; have HB := n0_; clear n0_; (try clear hb); (try clear hb2); (try clear hk); (try clear hi)) | ((with_reducible refine gate_dst (N := 6) rfl ?_); (try (refine gate_guard (by rfl) ?_; dsimp only)); refine box_event ?hg (N := 6) ?hd (cs := #[.int .i64 0, .int .i64 0]) (t := 23) ?hr ?_; (case hd => rfl); (case hg => rfl); (case hr => first | (go_simp; done) | (go_simp; rfl)); intro gb379 hg w14 hbox hb; have n0_ := Aside0.mk (below_step (by repeat (first | (with_reducible first | exact HB.out | apply below_alloc | apply pw_below_drewN | apply below_drew1) | exact HB.out)) hb); have n1_ := Aside0.mk (hbox); have n2_ := Aside0.mk ((by rw [hg]; exact (below_size (by repeat (first | (with_reducible first | exact HB.out | apply below_alloc | apply pw_below_drewN | apply below_drew1) | exact HB.out))) : w.heap.size ≤ gb379)); have n3_ := Aside0.mk ((by rw [hg]; exact (below_size (by repeat (first | (with_reducible first | exact HB.out | apply below_alloc | apply pw_below_drewN | apply below_drew1) | exact HB.out))) : w.heap.size ≤ gb379)); clear HB; have HB := n0_; have BK379 := n1_; have GW379 := n2_; have GE379 := n3_; clear n0_ n1_ n2_ n3_; clear hb hbox hg; have hcz15_0 : w14.cell? ⟨gb379, 0, none⟩ = some (.int .i64 0) := (blk_cell BK379.out 0).trans rfl; have hcz15_1 : w14.cell? ⟨gb379, 1, none⟩ = some (.int .i64 0) := (blk_cell BK379.out 1).trans rfl; have hfz15_0 := blk_frozen BK379.out 0; have hfz15_1 := blk_frozen BK379.out 1) | (go_at_call 43; (with_reducible refine (trim_Tower.calls k1 t375 t380 t381 _ A11.out).mono ?_); rintro e w16 ⟨rfl, hb⟩; have n0_ := Aside0.mk (blk_below (g := gb379) (o := .cells #[.int .i64 t376, .int .i64 t377] 23 (0, 0)) (by (with_reducible repeat (first | refine blk_drewN ?_ _ | refine blk_drew ?_ | refine blk_alloc ?_ _)); refine blk_put (cs := #[.int .i64 t376, .int .i64 0]) ?_ 1 _ rfl; (with_reducible repeat (first | refine blk_drewN ?_ _ | refine blk_drew ?_ | refine blk_alloc ?_ _)); refine blk_put (cs := #[.int .i64 0, .int .i64 0]) ?_ 0 _ rfl; (with_reducible repeat (first | refine blk_drewN ?_ _ | refine blk_drew ?_ | refine blk_alloc ?_ _)); exact BK379.out) hb); have n1_ := Aside0.mk (below_step (by repeat (first | (with_reducible first | exact HB.out | apply below_alloc | apply pw_below_drewN | apply below_drew1 | refine below_set ?_ GE379.out) | exact HB.out)) hb); clear BK379; clear HB; have BK379 := n0_; have HB := n1_; clear n0_ n1_; (try clear hb); (try clear hb2); (try clear hk); (try clear hi))); go_upto_region 11 with (first | (go_at_call 39; (with_reducible refine (yard_Follow.calls k1 x4_1 t376 t377 t378 _ A10.out).mono ?_); rintro e w13 ⟨rfl, hb⟩; have n0_ := Aside0.mk (below_step (by repeat (first | (with_reducible first | exact HB.out | apply below_alloc | apply pw_below_drewN | apply below_drew1) | exact HB.out)) hb); clear HB; have HB := n0_; clear n0_; (try clear hb); (try clear hb2); (try clear hk); (try clear hi)) | ((with_reducible refine gate_dst (N := 6) rfl ?_); (try (refine gate_guard (by rfl) ?_; dsimp only)); refine box_event ?hg (N := 6) ?hd (cs := #[.int .i64 0, .int .i64 0]) (t := 23) ?hr ?_; (case hd => rfl); (case hg => rfl); (case hr => first | (go_simp; done) | (go_simp; rfl)); intro gb379 hg w14 hbox hb; have n0_ := Aside0.mk (below_step (by repeat (first | (with_reducible first | exact HB.out | apply below_alloc | apply pw_below_drewN | apply below_drew1) | exact HB.out)) hb); have n1_ := Aside0.mk (hbox); have n2_ := Aside0.mk ((by rw [hg]; exact (below_size (by repeat (first | (with_reducible first | exact HB.out | apply below_alloc | apply pw_below_drewN | apply below_drew1) | exact HB.out))) : w.heap.size ≤ gb379)); have n3_ := Aside0.mk ((by rw [hg]; exact (below_size (by repeat (first | (with_reducible first | exact HB.out | apply below_alloc | apply pw_below_drewN | apply below_drew1) | exact HB.out))) : w.heap.size ≤ gb379)); clear HB; have HB := n0_; have BK379 := n1_; have GW379 := n2_; have GE379 := n3_; clear n0_ n1_ n2_ n3_; clear hb hbox hg; have hcz15_0 : w14.cell? ⟨gb379, 0, none⟩ = some (.int .i64 0) := (blk_cell BK379.out 0).trans rfl; have hcz15_1 : w14.cell? ⟨gb379, 1, none⟩ = some (.int .i64 0) := (blk_cell BK379.out 1).trans rfl; have hfz15_0 := blk_frozen BK379.out 0; have hfz15_1 := blk_frozen BK379.out 1) | (go_at_call 43; (with_reducible refine (trim_Tower.calls k1 t375 t380 t381 _ A11.out).mono ?_); rintro e w16 ⟨rfl, hb⟩; have n0_ := Aside0.mk (blk_below (g := gb379) (o := .cells #[.int .i64 t376, .int .i64 t377] 23 (0, 0)) (by (with_reducible repeat (first | refine blk_drewN ?_ _ | refine blk_drew ?_ | refine blk_alloc ?_ _)); refine blk_put (cs := #[.int .i64 t376, .int .i64 0]) ?_ 1 _ rfl; (with_reducible repeat (first | refine blk_drewN ?_ _ | refine blk_drew ?_ | refine blk_alloc ?_ _)); refine blk_put (cs := #[.int .i64 0, .int .i64 0]) ?_ 0 _ rfl; (with_reducible repeat (first | refine blk_drewN ?_ _ | refine blk_drew ?_ | refine blk_alloc ?_ _)); exact BK379.out) hb); have n1_ := Aside0.mk (below_step (by repeat (first | (with_reducible first | exact HB.out | apply below_alloc | apply pw_below_drewN | apply below_drew1 | refine below_set ?_ GE379.out) | exact HB.out)) hb); clear BK379; clear HB; have BK379 := n0_; have HB := n1_; clear n0_ n1_; (try clear hb); (try clear hb2); (try clear hk); (try clear hi))))
        (try simp only [Act.put, List.setIfInBounds_toArray, List.set_cons_zero, List.set_cons_succ])
        go_cut [56] (fun v56 wc => ∃ (kq : Nat) (x56_11 : Bool), v56 = .bool x56_11 ∧ Aside0 (galloontop_TopCentral.j1 kq t380 t381 x56_11 t376 t377 = some r) ∧ Aside0 (kq ≤ k1) ∧ Aside0 (wc.heap[gb379]? = some (.cells #[.int .i64 t376, .int .i64 t377] 23 (0, 0))) ∧ Aside0 (Below w.heap.size w wc))
        case first =>
          have H := HC12.out
          clear HC12
          by_cases c17 : t378 = 0
          · rw [if_pos c17] at H
            have c17b0 : (t378 == 0) = true := beq_iff_eq.mpr c17
            have c17b1 : (t378 != 0) = false := bne_eq_false_iff_eq.mpr c17
            clear c17
            (first | rw [c17b0] | (simp only [i64_w, i32_w]; rw [c17b0]) | skip)
            by_cases c18 : t376 < 1
            · rw [if_pos c18] at H
              have c18b0 : decide (t376 < 1) = true := decide_eq_true c18
              clear c18
              have H' := Aside0.mk H
              clear H
              have hcz19_0 : w16.cell? ⟨gb379, 0, none⟩ = some (.int .i64 t376) := (blk_cell BK379.out 0).trans rfl
              have hcz19_1 : w16.cell? ⟨gb379, 1, none⟩ = some (.int .i64 t377) := (blk_cell BK379.out 1).trans rfl
              have hfz19_0 := blk_frozen BK379.out 0
              have hfz19_1 := blk_frozen BK379.out 1
              go_wp2
              repeat (go_quiet (fail); try go_wp2)
              go_meet
              case rel => exact ⟨_, (true), (by first | rfl | (simp; done) | (simp [*]; done)), H', ⟨by have := HK1.out; first | omega | exact Nat.le_refl _⟩, ⟨by (with_reducible repeat (first | refine blk_drewN ?_ _ | refine blk_drew ?_ | refine blk_alloc ?_ _)); exact BK379.out⟩, ⟨by repeat (first | (with_reducible first | exact HB.out | apply below_alloc | apply pw_below_drewN | apply below_drew1 | refine below_set ?_ GE379.out) | exact HB.out)⟩⟩
            · rw [if_neg c18] at H
              have c18b0 : decide (t376 < 1) = false := decide_eq_false c18
              clear c18
              have H' := Aside0.mk H
              clear H
              have hcz20_0 : w16.cell? ⟨gb379, 0, none⟩ = some (.int .i64 t376) := (blk_cell BK379.out 0).trans rfl
              have hcz20_1 : w16.cell? ⟨gb379, 1, none⟩ = some (.int .i64 t377) := (blk_cell BK379.out 1).trans rfl
              have hfz20_0 := blk_frozen BK379.out 0
              have hfz20_1 := blk_frozen BK379.out 1
              go_wp2
              repeat (go_quiet (fail); try go_wp2)
              go_meet
              case rel => exact ⟨_, (decide (t377 ≤ t376)), (by first | rfl | (simp; done) | (simp [*]; done)), H', ⟨by have := HK1.out; first | omega | exact Nat.le_refl _⟩, ⟨by (with_reducible repeat (first | refine blk_drewN ?_ _ | refine blk_drew ?_ | refine blk_alloc ?_ _)); exact BK379.out⟩, ⟨by repeat (first | (with_reducible first | exact HB.out | apply below_alloc | apply pw_below_drewN | apply below_drew1 | refine below_set ?_ GE379.out) | exact HB.out)⟩⟩
          · rw [if_neg c17] at H
            have c17b0 : (t378 == 0) = false := beq_eq_false_iff_ne.mpr c17
            have c17b1 : (t378 != 0) = true := bne_iff_ne.mpr c17
            (first | rw [c17b0] | (simp only [i64_w, i32_w]; rw [c17b0]) | skip)
            have H' := Aside0.mk H
            clear H
            go_wp2
            repeat (go_quiet (fail); try go_wp2)
            go_meet
            case rel => exact ⟨_, (true), (by first | rfl | (simp; done) | (simp [*]; done)), H', ⟨by have := HK1.out; first | omega | exact Nat.le_refl _⟩, ⟨by (with_reducible repeat (first | refine blk_drewN ?_ _ | refine blk_drew ?_ | refine blk_alloc ?_ _)); exact BK379.out⟩, ⟨by repeat (first | (with_reducible first | exact HB.out | apply below_alloc | apply pw_below_drewN | apply below_drew1 | refine below_set ?_ GE379.out) | exact HB.out)⟩⟩
        case rest =>
          clear HC12
          try clear c1
          try clear p2
          try clear c4
          try clear c4b0
          try clear c5
          try clear c5b0
          try clear p6
          try clear q6
          try clear hx6
          try clear c7
          try clear c7b0
          try clear c7b1
          try clear c8
          try clear c8b0
          try clear c8b1
          try clear c8b2
          try clear c9
          try clear c9b0
          try clear c9b1
          try clear c9b2
          try clear c17
          try clear c17b0
          try clear c17b1
          try clear c18
          try clear c18b0
          try clear hcz15_0
          try clear hcz15_1
          try clear hcz19_0
          try clear hcz19_1
          try clear hcz20_0
          try clear hcz20_1
          try clear hfz15_0
          try clear hfz15_1
          try clear hfz19_0
          try clear hfz19_1
          try clear hfz20_0
          try clear hfz20_1
          try clear p2
          try clear p6
          try clear q6
          obtain ⟨kq, x56_11, rfl, HA, HJ11, BK379, HB⟩ := hcut
          cases kq with
          | zero => exact absurd HA.out (by simp [galloontop_TopCentral.j1])
          | succ kj11 =>
            have H := HA.out
            clear HA
            simp only [galloontop_TopCentral.j1] at H
            by_cases c21 : x56_11 = true
            · subst c21
              have H1 : (some false) = some r := by rw [if_pos rfl] at H; exact H
              clear H
              have H := H1
              clear H1
              obtain rfl := Option.some.inj H
              exact absurd hr.out (by decide)
            · replace c21 := Bool.eq_false_iff.mpr c21
              subst c21
              have H1 : (if (wrap64 (t377 - 2)) > 100 then (if t381 = 5 then (if t380.toList = ([] : List UInt8) then ((galloontop_three.f kj11).bind fun t382 => (some t382)) else (some false)) else (some false)) else (galloontop_TopCentral.l1 kj11 t380 t381 0 0 t376 t377)) = some r := by rw [if_neg (show ¬ (false = true) by decide)] at H; exact H
              clear H
              have H := H1
              clear H1
              by_cases c22 : (wrap64 (t377 - 2)) > 100
              · rw [if_pos c22] at H
                have c22b0 : decide (100 < (wrap64 (t377 - 2))) = true := decide_eq_true c22
                clear c22
                by_cases c23 : t381 = 5
                · rw [if_pos c23] at H
                  have c23b0 : (t381 == 5) = true := beq_iff_eq.mpr c23
                  have c23b1 : (t381 != 5) = false := bne_eq_false_iff_eq.mpr c23
                  clear c23
                  by_cases c24 : t380.toList = ([] : List UInt8)
                  · rw [if_pos c24] at H
                    have c24b0 : (t380.toList == ([] : List UInt8)) = true := beq_iff_eq.mpr c24
                    have c24b1 : (t380.toList != ([] : List UInt8)) = false := bne_eq_false_iff_eq.mpr c24
                    clear c24
                    replace H := Option.bind_eq_some_iff.mp H
                    obtain ⟨t382, A250, H⟩ := H
                    replace H : (some t382) = some r := H
                    have A25 := Aside0.mk A250
                    clear A250
                    obtain rfl := Option.some.inj H
                    have hcz26_0 : wc.cell? ⟨gb379, 0, none⟩ = some (.int .i64 t376) := (blk_cell BK379.out 0).trans rfl
                    have hcz26_1 : wc.cell? ⟨gb379, 1, none⟩ = some (.int .i64 t377) := (blk_cell BK379.out 1).trans rfl
                    have hfz26_0 := blk_frozen BK379.out 0
                    have hfz26_1 := blk_frozen BK379.out 1
                    go_wp2_with (first | (go_at_call 44; (with_reducible refine (galloontop_three.calls kj11  t382 _ A25.out).mono ?_); rintro e w27 ⟨rfl, hb⟩; have n0_ := Aside0.mk (blk_below (g := gb379) (o := .cells #[.int .i64 t376, .int .i64 t377] 23 (0, 0)) (by (with_reducible repeat (first | refine blk_drewN ?_ _ | refine blk_drew ?_ | refine blk_alloc ?_ _)); exact BK379.out) hb); have n1_ := Aside0.mk (below_step (by repeat (first | (with_reducible first | exact HB.out | apply below_alloc | apply pw_below_drewN | apply below_drew1 | refine below_set ?_ GE379.out) | exact HB.out)) hb); clear BK379; clear HB; have BK379 := n0_; have HB := n1_; clear n0_ n1_; (try clear hb); (try clear hb2); (try clear hk); (try clear hi)))
                    repeat (go_quiet (first | (go_at_call 44; (with_reducible refine (galloontop_three.calls kj11  t382 _ A25.out).mono ?_); rintro e w27 ⟨rfl, hb⟩; have n0_ := Aside0.mk (blk_below (g := gb379) (o := .cells #[.int .i64 t376, .int .i64 t377] 23 (0, 0)) (by (with_reducible repeat (first | refine blk_drewN ?_ _ | refine blk_drew ?_ | refine blk_alloc ?_ _)); exact BK379.out) hb); have n1_ := Aside0.mk (below_step (by repeat (first | (with_reducible first | exact HB.out | apply below_alloc | apply pw_below_drewN | apply below_drew1 | refine below_set ?_ GE379.out) | exact HB.out)) hb); clear BK379; clear HB; have BK379 := n0_; have HB := n1_; clear n0_ n1_; (try clear hb); (try clear hb2); (try clear hk); (try clear hi))); try go_wp2_with (first | (go_at_call 44; (with_reducible refine (galloontop_three.calls kj11  t382 _ A25.out).mono ?_); rintro e w27 ⟨rfl, hb⟩; have n0_ := Aside0.mk (blk_below (g := gb379) (o := .cells #[.int .i64 t376, .int .i64 t377] 23 (0, 0)) (by (with_reducible repeat (first | refine blk_drewN ?_ _ | refine blk_drew ?_ | refine blk_alloc ?_ _)); exact BK379.out) hb); have n1_ := Aside0.mk (below_step (by repeat (first | (with_reducible first | exact HB.out | apply below_alloc | apply pw_below_drewN | apply below_drew1 | refine below_set ?_ GE379.out) | exact HB.out)) hb); clear BK379; clear HB; have BK379 := n0_; have HB := n1_; clear n0_ n1_; (try clear hb); (try clear hb2); (try clear hk); (try clear hi))))
                    go_ret
                    exact ⟨by first | rfl | (simp [errW_none, errW_some] <;> rfl) | (simp [*, errW_none, errW_some] <;> rfl), by repeat (first | (with_reducible first | exact HB.out | apply below_alloc | apply pw_below_drewN | apply below_drew1 | refine below_set ?_ GE379.out) | exact HB.out)⟩
                  · rw [if_neg c24] at H
                    have c24b0 : (t380.toList == ([] : List UInt8)) = false := beq_eq_false_iff_ne.mpr c24
                    have c24b1 : (t380.toList != ([] : List UInt8)) = true := bne_iff_ne.mpr c24
                    obtain rfl := Option.some.inj H
                    exact absurd hr.out (by decide)
                · rw [if_neg c23] at H
                  have c23b0 : (t381 == 5) = false := beq_eq_false_iff_ne.mpr c23
                  have c23b1 : (t381 != 5) = true := bne_iff_ne.mpr c23
                  obtain rfl := Option.some.inj H
                  exact absurd hr.out (by decide)
              · rw [if_neg c22] at H
                have c22b0 : decide (100 < (wrap64 (t377 - 2))) = false := decide_eq_false c22
                clear c22
                have H' := Aside0.mk H
                clear H
                have hcz28_0 : wc.cell? ⟨gb379, 0, none⟩ = some (.int .i64 t376) := (blk_cell BK379.out 0).trans rfl
                have hcz28_1 : wc.cell? ⟨gb379, 1, none⟩ = some (.int .i64 t377) := (blk_cell BK379.out 1).trans rfl
                have hfz28_0 := blk_frozen BK379.out 0
                have hfz28_1 := blk_frozen BK379.out 1
                go_wp2
                repeat (go_quiet (fail); try go_wp2)
                go_loopg [10, 11] kj11 (fun kq v10 v11 w' => ∃ (x10_3 : Int) (x11_3 : Int), v10 = .int .i64 x10_3 ∧ v11 = .int .i64 x11_3 ∧ Aside0 (galloontop_TopCentral.l1 kq t380 t381 x10_3 x11_3 t376 t377 = some r) ∧ Aside0 (kq ≤ kj11) ∧ Aside0 (w'.heap[gb379]? = some (.cells #[.int .i64 t376, .int .i64 t377] 23 (0, 0))) ∧ Aside0 (Below w.heap.size w w'))
                case atStart => exact ⟨(0), (0), (by first | rfl | (simp; done) | (simp [*]; done)), (by first | rfl | (simp; done) | (simp [*]; done)), H', ⟨Nat.le_refl _⟩, ⟨by (with_reducible repeat (first | refine blk_drewN ?_ _ | refine blk_drew ?_ | refine blk_alloc ?_ _)); exact BK379.out⟩, ⟨by repeat (first | (with_reducible first | exact HB.out | apply below_alloc | apply pw_below_drewN | apply below_drew1 | refine below_set ?_ GE379.out) | exact HB.out)⟩⟩
                case round =>
                  clear H'
                  try clear c1
                  try clear c2
                  try clear p2
                  try clear c4
                  try clear c4b0
                  try clear c5
                  try clear c5b0
                  try clear p6
                  try clear q6
                  try clear hx6
                  try clear c7
                  try clear c7b0
                  try clear c7b1
                  try clear c8
                  try clear c8b0
                  try clear c8b1
                  try clear c8b2
                  try clear c9
                  try clear c9b0
                  try clear c9b1
                  try clear c9b2
                  try clear c17
                  try clear c17b0
                  try clear c17b1
                  try clear c18
                  try clear c18b0
                  try clear c21
                  try clear c22
                  try clear c22b0
                  try clear c23
                  try clear c23b0
                  try clear c23b1
                  try clear c24
                  try clear c24b0
                  try clear c24b1
                  try clear hcz15_0
                  try clear hcz15_1
                  try clear hcz19_0
                  try clear hcz19_1
                  try clear hcz20_0
                  try clear hcz20_1
                  try clear hcz26_0
                  try clear hcz26_1
                  try clear hcz28_0
                  try clear hcz28_1
                  try clear hfz15_0
                  try clear hfz15_1
                  try clear hfz19_0
                  try clear hfz19_1
                  try clear hfz20_0
                  try clear hfz20_1
                  try clear hfz26_0
                  try clear hfz26_1
                  try clear hfz28_0
                  try clear hfz28_1
                  try clear p2
                  try clear p6
                  try clear q6
                  obtain ⟨x10_3, x11_3, rfl, rfl, HA, HK3, BK379, HB⟩ := hrel
                  cases gk with
                  | zero => exact absurd HA.out (by simp [galloontop_TopCentral.l1])
                  | succ k3 =>
                    have H := HA.out
                    clear HA
                    simp only [galloontop_TopCentral.l1] at H
                    by_cases c29 : x11_3 < (t380.size : Int)
                    · rw [if_pos c29] at H
                      have c29b0 : decide (x11_3 < (t380.size : Int)) = true := decide_eq_true c29
                      clear c29
                      by_cases c30 : 0 ≤ x11_3
                      · rw [if_pos c30] at H
                        have c30b0 : decide (0 ≤ x11_3) = true := decide_eq_true c30
                        clear c30
                        by_cases c32 : (bt t380 x11_3) = 98
                        · rw [if_pos c32] at H
                          have c32b0 : ((bt t380 x11_3) == 98) = true := beq_iff_eq.mpr c32
                          have c32b1 : ((bt t380 x11_3) != 98) = false := bne_eq_false_iff_eq.mpr c32
                          clear c32
                          have H' := Aside0.mk H
                          clear H
                          have p31 : 0 ≤ (x11_3 : Int) := of_decide_eq_true (by first | (with_reducible assumption) | assumption)
                          have q31 : x11_3 < (t380.size : Int) := of_decide_eq_true (by first | (with_reducible assumption) | assumption)
                          have hx31 := bt_at t380 x11_3
                          replace p31 := eq_true p31
                          replace q31 := eq_true q31
                          go_wp2
                          repeat (go_quiet (fail); try go_wp2)
                          go_roundg k3
                          case measure => have := HK1.out; have := HJ11.out; have := HK3.out; omega
                          case rel => exact ⟨(wrap64 (x10_3 + 1)), (wrap64 (x11_3 + 1)), (by first | rfl | (simp; done) | (simp [*]; done)), (by first | rfl | (simp; done) | (simp [*]; done)), H', ⟨by have := HK1.out; have := HJ11.out; have := HK3.out; omega⟩, ⟨by (with_reducible repeat (first | refine blk_drewN ?_ _ | refine blk_drew ?_ | refine blk_alloc ?_ _)); exact BK379.out⟩, ⟨by repeat (first | (with_reducible first | exact HB.out | apply below_alloc | apply pw_below_drewN | apply below_drew1 | refine below_set ?_ GE379.out) | exact HB.out)⟩⟩
                        · rw [if_neg c32] at H
                          have c32b0 : ((bt t380 x11_3) == 98) = false := beq_eq_false_iff_ne.mpr c32
                          have c32b1 : ((bt t380 x11_3) != 98) = true := bne_iff_ne.mpr c32
                          have H' := Aside0.mk H
                          clear H
                          have p31 : 0 ≤ (x11_3 : Int) := of_decide_eq_true (by first | (with_reducible assumption) | assumption)
                          have q31 : x11_3 < (t380.size : Int) := of_decide_eq_true (by first | (with_reducible assumption) | assumption)
                          have hx31 := bt_at t380 x11_3
                          replace p31 := eq_true p31
                          replace q31 := eq_true q31
                          go_wp2
                          repeat (go_quiet (fail); try go_wp2)
                          go_roundg k3
                          case measure => have := HK1.out; have := HJ11.out; have := HK3.out; omega
                          case rel => exact ⟨(x10_3), (wrap64 (x11_3 + 1)), (by first | rfl | (simp; done) | (simp [*]; done)), (by first | rfl | (simp; done) | (simp [*]; done)), H', ⟨by have := HK1.out; have := HJ11.out; have := HK3.out; omega⟩, ⟨by (with_reducible repeat (first | refine blk_drewN ?_ _ | refine blk_drew ?_ | refine blk_alloc ?_ _)); exact BK379.out⟩, ⟨by repeat (first | (with_reducible first | exact HB.out | apply below_alloc | apply pw_below_drewN | apply below_drew1 | refine below_set ?_ GE379.out) | exact HB.out)⟩⟩
                      · rw [if_neg c30] at H
                        exact absurd H (by simp)
                    · rw [if_neg c29] at H
                      have c29b0 : decide (x11_3 < (t380.size : Int)) = false := decide_eq_false c29
                      clear c29
                      have HC33 := Aside0.mk H
                      clear H
                      go_upto_region 21 with (fail)
                      repeat (go_quiet (fail); go_upto_region 21 with (fail))
                      go_cut [98] (fun v98 wc => ∃ (kq : Nat) (x98_32 : Bool), v98 = .bool x98_32 ∧ Aside0 (galloontop_TopCentral.j3 kq t380 x98_32 t376 t377 = some r) ∧ Aside0 (kq ≤ k3) ∧ Aside0 (wc.heap[gb379]? = some (.cells #[.int .i64 t376, .int .i64 t377] 23 (0, 0))) ∧ Aside0 (Below w.heap.size w wc))
                      case first =>
                        have H := HC33.out
                        clear HC33
                        by_cases c34 : t381 = 0
                        · rw [if_pos c34] at H
                          have c34b0 : (t381 == 0) = true := beq_iff_eq.mpr c34
                          have c34b1 : (t381 != 0) = false := bne_eq_false_iff_eq.mpr c34
                          clear c34
                          (first | rw [c34b0] | (simp only [i64_w, i32_w]; rw [c34b0]) | skip)
                          by_cases c35 : (t380.size : Int) = (wrap64 (t377 - 2))
                          · rw [if_pos c35] at H
                            have c35b0 : ((t380.size : Int) == (wrap64 (t377 - 2))) = true := beq_iff_eq.mpr c35
                            have c35b1 : ((t380.size : Int) != (wrap64 (t377 - 2))) = false := bne_eq_false_iff_eq.mpr c35
                            clear c35
                            have H' := Aside0.mk H
                            clear H
                            have hcz36_0 : wr.cell? ⟨gb379, 0, none⟩ = some (.int .i64 t376) := (blk_cell BK379.out 0).trans rfl
                            have hcz36_1 : wr.cell? ⟨gb379, 1, none⟩ = some (.int .i64 t377) := (blk_cell BK379.out 1).trans rfl
                            have hfz36_0 := blk_frozen BK379.out 0
                            have hfz36_1 := blk_frozen BK379.out 1
                            go_wp2
                            repeat (go_quiet (fail); try go_wp2)
                            go_meet
                            case rel => exact ⟨_, ((x10_3 != (wrap64 (t376 - 1)))), (by first | rfl | (simp; done) | (simp [*]; done)), H', ⟨by have := HK1.out; have := HJ11.out; have := HK3.out; first | omega | exact Nat.le_refl _⟩, ⟨by (with_reducible repeat (first | refine blk_drewN ?_ _ | refine blk_drew ?_ | refine blk_alloc ?_ _)); exact BK379.out⟩, ⟨by repeat (first | (with_reducible first | exact HB.out | apply below_alloc | apply pw_below_drewN | apply below_drew1 | refine below_set ?_ GE379.out) | exact HB.out)⟩⟩
                          · rw [if_neg c35] at H
                            have c35b0 : ((t380.size : Int) == (wrap64 (t377 - 2))) = false := beq_eq_false_iff_ne.mpr c35
                            have c35b1 : ((t380.size : Int) != (wrap64 (t377 - 2))) = true := bne_iff_ne.mpr c35
                            have H' := Aside0.mk H
                            clear H
                            have hcz37_0 : wr.cell? ⟨gb379, 0, none⟩ = some (.int .i64 t376) := (blk_cell BK379.out 0).trans rfl
                            have hcz37_1 : wr.cell? ⟨gb379, 1, none⟩ = some (.int .i64 t377) := (blk_cell BK379.out 1).trans rfl
                            have hfz37_0 := blk_frozen BK379.out 0
                            have hfz37_1 := blk_frozen BK379.out 1
                            go_wp2
                            repeat (go_quiet (fail); try go_wp2)
                            go_meet
                            case rel => exact ⟨_, (true), (by first | rfl | (simp; done) | (simp [*]; done)), H', ⟨by have := HK1.out; have := HJ11.out; have := HK3.out; first | omega | exact Nat.le_refl _⟩, ⟨by (with_reducible repeat (first | refine blk_drewN ?_ _ | refine blk_drew ?_ | refine blk_alloc ?_ _)); exact BK379.out⟩, ⟨by repeat (first | (with_reducible first | exact HB.out | apply below_alloc | apply pw_below_drewN | apply below_drew1 | refine below_set ?_ GE379.out) | exact HB.out)⟩⟩
                        · rw [if_neg c34] at H
                          have c34b0 : (t381 == 0) = false := beq_eq_false_iff_ne.mpr c34
                          have c34b1 : (t381 != 0) = true := bne_iff_ne.mpr c34
                          (first | rw [c34b0] | (simp only [i64_w, i32_w]; rw [c34b0]) | skip)
                          have H' := Aside0.mk H
                          clear H
                          go_wp2
                          repeat (go_quiet (fail); try go_wp2)
                          go_meet
                          case rel => exact ⟨_, (true), (by first | rfl | (simp; done) | (simp [*]; done)), H', ⟨by have := HK1.out; have := HJ11.out; have := HK3.out; first | omega | exact Nat.le_refl _⟩, ⟨by (with_reducible repeat (first | refine blk_drewN ?_ _ | refine blk_drew ?_ | refine blk_alloc ?_ _)); exact BK379.out⟩, ⟨by repeat (first | (with_reducible first | exact HB.out | apply below_alloc | apply pw_below_drewN | apply below_drew1 | refine below_set ?_ GE379.out) | exact HB.out)⟩⟩
                      case rest =>
                        clear HC33
                        try clear c1
                        try clear c2
                        try clear p2
                        try clear c3
                        try clear p3
                        try clear q3
                        try clear hx3
                        try clear c4
                        try clear c4b0
                        try clear c5
                        try clear c5b0
                        try clear p6
                        try clear q6
                        try clear hx6
                        try clear c7
                        try clear c7b0
                        try clear c7b1
                        try clear c8
                        try clear c8b0
                        try clear c8b1
                        try clear c8b2
                        try clear c9
                        try clear c9b0
                        try clear c9b1
                        try clear c9b2
                        try clear c17
                        try clear c17b0
                        try clear c17b1
                        try clear c18
                        try clear c18b0
                        try clear c21
                        try clear c22
                        try clear c22b0
                        try clear c23
                        try clear c23b0
                        try clear c23b1
                        try clear c24
                        try clear c24b0
                        try clear c24b1
                        try clear c29
                        try clear c29b0
                        try clear c30
                        try clear c30b0
                        try clear p31
                        try clear q31
                        try clear hx31
                        try clear c32
                        try clear c32b0
                        try clear c32b1
                        try clear c34
                        try clear c34b0
                        try clear c34b1
                        try clear c35
                        try clear c35b0
                        try clear c35b1
                        try clear hcz15_0
                        try clear hcz15_1
                        try clear hcz19_0
                        try clear hcz19_1
                        try clear hcz20_0
                        try clear hcz20_1
                        try clear hcz26_0
                        try clear hcz26_1
                        try clear hcz28_0
                        try clear hcz28_1
                        try clear hcz36_0
                        try clear hcz36_1
                        try clear hcz37_0
                        try clear hcz37_1
                        try clear hfz15_0
                        try clear hfz15_1
                        try clear hfz19_0
                        try clear hfz19_1
                        try clear hfz20_0
                        try clear hfz20_1
                        try clear hfz26_0
                        try clear hfz26_1
                        try clear hfz28_0
                        try clear hfz28_1
                        try clear hfz36_0
                        try clear hfz36_1
                        try clear hfz37_0
                        try clear hfz37_1
                        try clear p2
                        try clear p31
                        try clear p6
                        try clear q31
                        try clear q6
                        obtain ⟨kq, x98_32, rfl, HA, HJ32, BK379, HB⟩ := hcut
                        cases kq with
                        | zero => exact absurd HA.out (by simp [galloontop_TopCentral.j3])
                        | succ kj32 =>
                          have H := HA.out
                          clear HA
                          simp only [galloontop_TopCentral.j3] at H
                          by_cases c38 : x98_32 = true
                          · subst c38
                            have H1 : (some false) = some r := by rw [if_pos rfl] at H; exact H
                            clear H
                            have H := H1
                            clear H1
                            obtain rfl := Option.some.inj H
                            exact absurd hr.out (by decide)
                          · replace c38 := Bool.eq_false_iff.mpr c38
                            subst c38
                            have H1 : ((yard_Before.f kj32 (mn t377 300) t376 t377).bind fun bt383 => ((yard_Next.f kj32 (mn t377 300) t376 t377).bind fun bt387 => (if bt383.2.2 = 0 then (if bt387.2.2 = 0 then (if (wrap64 (bt383.2.1 + bt387.2.1)) = t377 then (if bt383.2.1 < 1 then (galloontop_TopCentral.j4 kj32 t380 true bt383.1 bt383.2.1 bt387.1 bt387.2.1) else (galloontop_TopCentral.j4 kj32 t380 (decide (bt387.2.1 < 1)) bt383.1 bt383.2.1 bt387.1 bt387.2.1)) else (galloontop_TopCentral.j4 kj32 t380 true bt383.1 bt383.2.1 bt387.1 bt387.2.1)) else (galloontop_TopCentral.j4 kj32 t380 true bt383.1 bt383.2.1 bt387.1 bt387.2.1)) else (galloontop_TopCentral.j4 kj32 t380 true bt383.1 bt383.2.1 bt387.1 bt387.2.1)))) = some r := by rw [if_neg (show ¬ (false = true) by decide)] at H; exact H
                            clear H
                            have H := H1
                            clear H1
                            obtain ⟨ji39, hji39⟩ : ∃ j_ : Int, (mn t377 300) = j_ := ⟨_, rfl⟩
                            replace H : ((yard_Before.f kj32 (ji39) t376 t377).bind fun bt383 => ((yard_Next.f kj32 (ji39) t376 t377).bind fun bt387 => (if bt383.2.2 = 0 then (if bt387.2.2 = 0 then (if (wrap64 (bt383.2.1 + bt387.2.1)) = t377 then (if bt383.2.1 < 1 then (galloontop_TopCentral.j4 kj32 t380 true bt383.1 bt383.2.1 bt387.1 bt387.2.1) else (galloontop_TopCentral.j4 kj32 t380 (decide (bt387.2.1 < 1)) bt383.1 bt383.2.1 bt387.1 bt387.2.1)) else (galloontop_TopCentral.j4 kj32 t380 true bt383.1 bt383.2.1 bt387.1 bt387.2.1)) else (galloontop_TopCentral.j4 kj32 t380 true bt383.1 bt383.2.1 bt387.1 bt387.2.1)) else (galloontop_TopCentral.j4 kj32 t380 true bt383.1 bt383.2.1 bt387.1 bt387.2.1)))) = some r := by first | (rw [hji39] at H; exact H) | (simp only [hji39] at H ⊢; exact H)
                            have hji39_ : (if 300 < t377 then 300 else t377) = ji39 := hji39
                            replace H := Option.bind_eq_some_iff.mp H
                            obtain ⟨⟨t383, t384, t385⟩, A400, H⟩ := H
                            replace H : ((yard_Next.f kj32 (ji39) t376 t377).bind fun bt387 => (if t385 = 0 then (if bt387.2.2 = 0 then (if (wrap64 (t384 + bt387.2.1)) = t377 then (if t384 < 1 then (galloontop_TopCentral.j4 kj32 t380 true t383 t384 bt387.1 bt387.2.1) else (galloontop_TopCentral.j4 kj32 t380 (decide (bt387.2.1 < 1)) t383 t384 bt387.1 bt387.2.1)) else (galloontop_TopCentral.j4 kj32 t380 true t383 t384 bt387.1 bt387.2.1)) else (galloontop_TopCentral.j4 kj32 t380 true t383 t384 bt387.1 bt387.2.1)) else (galloontop_TopCentral.j4 kj32 t380 true t383 t384 bt387.1 bt387.2.1))) = some r := H
                            have A40 := Aside0.mk A400
                            clear A400
                            replace H := Option.bind_eq_some_iff.mp H
                            obtain ⟨⟨t387, t388, t389⟩, A420, H⟩ := H
                            replace H : (if t385 = 0 then (if t389 = 0 then (if (wrap64 (t384 + t388)) = t377 then (if t384 < 1 then (galloontop_TopCentral.j4 kj32 t380 true t383 t384 t387 t388) else (galloontop_TopCentral.j4 kj32 t380 (decide (t388 < 1)) t383 t384 t387 t388)) else (galloontop_TopCentral.j4 kj32 t380 true t383 t384 t387 t388)) else (galloontop_TopCentral.j4 kj32 t380 true t383 t384 t387 t388)) else (galloontop_TopCentral.j4 kj32 t380 true t383 t384 t387 t388)) = some r := H
                            have A42 := Aside0.mk A420
                            clear A420
                            have HC43 := Aside0.mk H
                            clear H
                            have hcz44_0 : wc.cell? ⟨gb379, 0, none⟩ = some (.int .i64 t376) := (blk_cell BK379.out 0).trans rfl
                            have hcz44_1 : wc.cell? ⟨gb379, 1, none⟩ = some (.int .i64 t377) := (blk_cell BK379.out 1).trans rfl
                            have hfz44_0 := blk_frozen BK379.out 0
                            have hfz44_1 := blk_frozen BK379.out 1
                            go_upto_region 25 with (first | (go_at_call 45; (with_reducible refine (yard_Before.calls kj32 ji39 t376 t377 t383 t384 t385 _ A40.out).mono ?_); rintro e w45 ⟨rfl, hb⟩; have n0_ := Aside0.mk (blk_below (g := gb379) (o := .cells #[.int .i64 t376, .int .i64 t377] 23 (0, 0)) (by (with_reducible repeat (first | refine blk_drewN ?_ _ | refine blk_drew ?_ | refine blk_alloc ?_ _)); exact BK379.out) hb); have n1_ := Aside0.mk (below_step (by repeat (first | (with_reducible first | exact HB.out | apply below_alloc | apply pw_below_drewN | apply below_drew1 | refine below_set ?_ GE379.out) | exact HB.out)) hb); clear BK379; clear HB; have BK379 := n0_; have HB := n1_; clear n0_ n1_; (try clear hb); (try clear hb2); (try clear hk); (try clear hi)) | ((with_reducible refine gate_dst (N := 12) rfl ?_); (try (refine gate_guard (by rfl) ?_; dsimp only)); refine box_event ?hg (N := 12) ?hd (cs := #[.int .i64 0, .int .i64 0]) (t := 23) ?hr ?_; (case hd => rfl); (case hg => rfl); (case hr => first | (go_simp; done) | (go_simp; rfl)); intro gb386 hg w46 hbox hb; have n0_ := Aside0.mk (blk_below (g := gb379) (o := .cells #[.int .i64 t376, .int .i64 t377] 23 (0, 0)) (by (with_reducible repeat (first | refine blk_drewN ?_ _ | refine blk_drew ?_ | refine blk_alloc ?_ _)); exact BK379.out) hb); have n1_ := Aside0.mk (below_step (by repeat (first | (with_reducible first | exact HB.out | apply below_alloc | apply pw_below_drewN | apply below_drew1 | refine below_set ?_ GE379.out) | exact HB.out)) hb); have n2_ := Aside0.mk (hbox); have n3_ := Aside0.mk ((by rw [hg]; exact (below_size (by repeat (first | (with_reducible first | exact HB.out | apply below_alloc | apply pw_below_drewN | apply below_drew1 | refine below_set ?_ GE379.out) | exact HB.out))) : w.heap.size ≤ gb386)); have n4_ := Aside0.mk ((by rw [hg]; exact (below_size (by repeat (first | (with_reducible first | exact HB.out | apply below_alloc | apply pw_below_drewN | apply below_drew1 | refine below_set ?_ GE379.out) | exact HB.out))) : w.heap.size ≤ gb386)); have n5_ := Aside0.mk ((by rw [hg]; exact Nat.ne_of_lt (blk_lt (g := gb379) (o := .cells #[.int .i64 t376, .int .i64 t377] 23 (0, 0)) (by (with_reducible repeat (first | refine blk_drewN ?_ _ | refine blk_drew ?_ | refine blk_alloc ?_ _)); exact BK379.out)) : gb379 ≠ gb386)); have n6_ := Aside0.mk ((by rw [hg]; exact Nat.ne_of_gt (blk_lt (g := gb379) (o := .cells #[.int .i64 t376, .int .i64 t377] 23 (0, 0)) (by (with_reducible repeat (first | refine blk_drewN ?_ _ | refine blk_drew ?_ | refine blk_alloc ?_ _)); exact BK379.out)) : gb386 ≠ gb379)); clear BK379; clear HB; have BK379 := n0_; have HB := n1_; have BK386 := n2_; have GW386 := n3_; have GE386 := n4_; have NB379_386 := n5_; have NB386_379 := n6_; clear n0_ n1_ n2_ n3_ n4_ n5_ n6_; clear hb hbox hg; have hnb47 := NB386_379.out; have hnc47 := NB379_386.out; have hcz48_0 : w46.cell? ⟨gb386, 0, none⟩ = some (.int .i64 0) := (blk_cell BK386.out 0).trans rfl; have hcz48_1 : w46.cell? ⟨gb386, 1, none⟩ = some (.int .i64 0) := (blk_cell BK386.out 1).trans rfl; have hfz48_0 := blk_frozen BK386.out 0; have hfz48_1 := blk_frozen BK386.out 1; have hcz49_0 : w46.cell? ⟨gb379, 0, none⟩ = some (.int .i64 t376) := (blk_cell BK379.out 0).trans rfl; have hcz49_1 : w46.cell? ⟨gb379, 1, none⟩ = some (.int .i64 t377) := (blk_cell BK379.out 1).trans rfl; have hfz49_0 := blk_frozen BK379.out 0; have hfz49_1 := blk_frozen BK379.out 1) | (go_at_call 46; (with_reducible refine (yard_Next.calls kj32 ji39 t376 t377 t387 t388 t389 _ A42.out).mono ?_); rintro e w50 ⟨rfl, hb⟩; have n0_ := Aside0.mk (blk_below (g := gb379) (o := .cells #[.int .i64 t376, .int .i64 t377] 23 (0, 0)) (by (with_reducible repeat (first | refine blk_drewN ?_ _ | refine blk_drew ?_ | refine blk_alloc ?_ _)); refine blk_far ?_ NB379_386.out _; (with_reducible repeat (first | refine blk_drewN ?_ _ | refine blk_drew ?_ | refine blk_alloc ?_ _)); refine blk_far ?_ NB379_386.out _; (with_reducible repeat (first | refine blk_drewN ?_ _ | refine blk_drew ?_ | refine blk_alloc ?_ _)); exact BK379.out) hb); have n1_ := Aside0.mk (blk_below (g := gb386) (o := .cells #[.int .i64 t383, .int .i64 t384] 23 (0, 0)) (by (with_reducible repeat (first | refine blk_drewN ?_ _ | refine blk_drew ?_ | refine blk_alloc ?_ _)); refine blk_put (cs := #[.int .i64 t383, .int .i64 0]) ?_ 1 _ rfl; (with_reducible repeat (first | refine blk_drewN ?_ _ | refine blk_drew ?_ | refine blk_alloc ?_ _)); refine blk_put (cs := #[.int .i64 0, .int .i64 0]) ?_ 0 _ rfl; (with_reducible repeat (first | refine blk_drewN ?_ _ | refine blk_drew ?_ | refine blk_alloc ?_ _)); exact BK386.out) hb); have n2_ := Aside0.mk (below_step (by repeat (first | (with_reducible first | exact HB.out | apply below_alloc | apply pw_below_drewN | apply below_drew1 | refine below_set ?_ GE379.out | refine below_set ?_ GE386.out) | exact HB.out)) hb); clear BK379; clear BK386; clear HB; have BK379 := n0_; have BK386 := n1_; have HB := n2_; clear n0_ n1_ n2_; (try clear hb); (try clear hb2); (try clear hk); (try clear hi)) | ((with_reducible refine gate_dst (N := 14) rfl ?_); (try (refine gate_guard (by rfl) ?_; dsimp only)); refine box_event ?hg (N := 14) ?hd (cs := #[.int .i64 0, .int .i64 0]) (t := 23) ?hr ?_; (case hd => rfl); (case hg => rfl); (case hr => first | (go_simp; done) | (go_simp; rfl)); intro gb390 hg w51 hbox hb; have n0_ := Aside0.mk (blk_below (g := gb379) (o := .cells #[.int .i64 t376, .int .i64 t377] 23 (0, 0)) (by (with_reducible repeat (first | refine blk_drewN ?_ _ | refine blk_drew ?_ | refine blk_alloc ?_ _)); exact BK379.out) hb); have n1_ := Aside0.mk (blk_below (g := gb386) (o := .cells #[.int .i64 t383, .int .i64 t384] 23 (0, 0)) (by (with_reducible repeat (first | refine blk_drewN ?_ _ | refine blk_drew ?_ | refine blk_alloc ?_ _)); exact BK386.out) hb); have n2_ := Aside0.mk (below_step (by repeat (first | (with_reducible first | exact HB.out | apply below_alloc | apply pw_below_drewN | apply below_drew1 | refine below_set ?_ GE379.out | refine below_set ?_ GE386.out) | exact HB.out)) hb); have n3_ := Aside0.mk (hbox); have n4_ := Aside0.mk ((by rw [hg]; exact (below_size (by repeat (first | (with_reducible first | exact HB.out | apply below_alloc | apply pw_below_drewN | apply below_drew1 | refine below_set ?_ GE379.out | refine below_set ?_ GE386.out) | exact HB.out))) : w.heap.size ≤ gb390)); have n5_ := Aside0.mk ((by rw [hg]; exact (below_size (by repeat (first | (with_reducible first | exact HB.out | apply below_alloc | apply pw_below_drewN | apply below_drew1 | refine below_set ?_ GE379.out | refine below_set ?_ GE386.out) | exact HB.out))) : w.heap.size ≤ gb390)); have n6_ := Aside0.mk ((by rw [hg]; exact Nat.ne_of_lt (blk_lt (g := gb379) (o := .cells #[.int .i64 t376, .int .i64 t377] 23 (0, 0)) (by (with_reducible repeat (first | refine blk_drewN ?_ _ | refine blk_drew ?_ | refine blk_alloc ?_ _)); exact BK379.out)) : gb379 ≠ gb390)); have n7_ := Aside0.mk ((by rw [hg]; exact Nat.ne_of_gt (blk_lt (g := gb379) (o := .cells #[.int .i64 t376, .int .i64 t377] 23 (0, 0)) (by (with_reducible repeat (first | refine blk_drewN ?_ _ | refine blk_drew ?_ | refine blk_alloc ?_ _)); exact BK379.out)) : gb390 ≠ gb379)); have n8_ := Aside0.mk ((by rw [hg]; exact Nat.ne_of_lt (blk_lt (g := gb386) (o := .cells #[.int .i64 t383, .int .i64 t384] 23 (0, 0)) (by (with_reducible repeat (first | refine blk_drewN ?_ _ | refine blk_drew ?_ | refine blk_alloc ?_ _)); exact BK386.out)) : gb386 ≠ gb390)); have n9_ := Aside0.mk ((by rw [hg]; exact Nat.ne_of_gt (blk_lt (g := gb386) (o := .cells #[.int .i64 t383, .int .i64 t384] 23 (0, 0)) (by (with_reducible repeat (first | refine blk_drewN ?_ _ | refine blk_drew ?_ | refine blk_alloc ?_ _)); exact BK386.out)) : gb390 ≠ gb386)); clear BK379; clear BK386; clear HB; have BK379 := n0_; have BK386 := n1_; have HB := n2_; have BK390 := n3_; have GW390 := n4_; have GE390 := n5_; have NB379_390 := n6_; have NB390_379 := n7_; have NB386_390 := n8_; have NB390_386 := n9_; clear n0_ n1_ n2_ n3_ n4_ n5_ n6_ n7_ n8_ n9_; clear hb hbox hg; have hnb52 := NB390_379.out; have hnc52 := NB379_390.out; have hnb53 := NB390_386.out; have hnc53 := NB386_390.out; have hcz54_0 : w51.cell? ⟨gb390, 0, none⟩ = some (.int .i64 0) := (blk_cell BK390.out 0).trans rfl; have hcz54_1 : w51.cell? ⟨gb390, 1, none⟩ = some (.int .i64 0) := (blk_cell BK390.out 1).trans rfl; have hfz54_0 := blk_frozen BK390.out 0; have hfz54_1 := blk_frozen BK390.out 1))
                            repeat (go_quiet (first | (go_at_call 45; (with_reducible refine (yard_Before.calls kj32 ji39 t376 t377 t383 t384 t385 _ A40.out).mono ?_); rintro e w45 ⟨rfl, hb⟩; have n0_ := Aside0.mk (blk_below (g := gb379) (o := .cells #[.int .i64 t376, .int .i64 t377] 23 (0, 0)) (by (with_reducible repeat (first | refine blk_drewN ?_ _ | refine blk_drew ?_ | refine blk_alloc ?_ _)); exact BK379.out) hb); have n1_ := Aside0.mk (below_step (by repeat (first | (with_reducible first | exact HB.out | apply below_alloc | apply pw_below_drewN | apply below_drew1 | refine below_set ?_ GE379.out) | exact HB.out)) hb); clear BK379; clear HB; have BK379 := n0_; have HB := n1_; clear n0_ n1_; (try clear hb); (try clear hb2); (try clear hk); (try clear hi)) | ((with_reducible refine gate_dst (N := 12) rfl ?_); (try (refine gate_guard (by rfl) ?_; dsimp only)); refine box_event ?hg (N := 12) ?hd (cs := #[.int .i64 0, .int .i64 0]) (t := 23) ?hr ?_; (case hd => rfl); (case hg => rfl); (case hr => first | (go_simp; done) | (go_simp; rfl)); intro gb386 hg w46 hbox hb; have n0_ := Aside0.mk (blk_below (g := gb379) (o := .cells #[.int .i64 t376, .int .i64 t377] 23 (0, 0)) (by (with_reducible repeat (first | refine blk_drewN ?_ _ | refine blk_drew ?_ | refine blk_alloc ?_ _)); exact BK379.out) hb); have n1_ := Aside0.mk (below_step (by repeat (first | (with_reducible first | exact HB.out | apply below_alloc | apply pw_below_drewN | apply below_drew1 | refine below_set ?_ GE379.out) | exact HB.out)) hb); have n2_ := Aside0.mk (hbox); have n3_ := Aside0.mk ((by rw [hg]; exact (below_size (by repeat (first | (with_reducible first | exact HB.out | apply below_alloc | apply pw_below_drewN | apply below_drew1 | refine below_set ?_ GE379.out) | exact HB.out))) : w.heap.size ≤ gb386)); have n4_ := Aside0.mk ((by rw [hg]; exact (below_size (by repeat (first | (with_reducible first | exact HB.out | apply below_alloc | apply pw_below_drewN | apply below_drew1 | refine below_set ?_ GE379.out) | exact HB.out))) : w.heap.size ≤ gb386)); have n5_ := Aside0.mk ((by rw [hg]; exact Nat.ne_of_lt (blk_lt (g := gb379) (o := .cells #[.int .i64 t376, .int .i64 t377] 23 (0, 0)) (by (with_reducible repeat (first | refine blk_drewN ?_ _ | refine blk_drew ?_ | refine blk_alloc ?_ _)); exact BK379.out)) : gb379 ≠ gb386)); have n6_ := Aside0.mk ((by rw [hg]; exact Nat.ne_of_gt (blk_lt (g := gb379) (o := .cells #[.int .i64 t376, .int .i64 t377] 23 (0, 0)) (by (with_reducible repeat (first | refine blk_drewN ?_ _ | refine blk_drew ?_ | refine blk_alloc ?_ _)); exact BK379.out)) : gb386 ≠ gb379)); clear BK379; clear HB; have BK379 := n0_; have HB := n1_; have BK386 := n2_; have GW386 := n3_; have GE386 := n4_; have NB379_386 := n5_; have NB386_379 := n6_; clear n0_ n1_ n2_ n3_ n4_ n5_ n6_; clear hb hbox hg; have hnb47 := NB386_379.out; have hnc47 := NB379_386.out; have hcz48_0 : w46.cell? ⟨gb386, 0, none⟩ = some (.int .i64 0) := (blk_cell BK386.out 0).trans rfl; have hcz48_1 : w46.cell? ⟨gb386, 1, none⟩ = some (.int .i64 0) := (blk_cell BK386.out 1).trans rfl; have hfz48_0 := blk_frozen BK386.out 0; have hfz48_1 := blk_frozen BK386.out 1; have hcz49_0 : w46.cell? ⟨gb379, 0, none⟩ = some (.int .i64 t376) := (blk_cell BK379.out 0).trans rfl; have hcz49_1 : w46.cell? ⟨gb379, 1, none⟩ = some (.int .i64 t377) := (blk_cell BK379.out 1).trans rfl; have hfz49_0 := blk_frozen BK379.out 0; have hfz49_1 := blk_frozen BK379.out 1) | (go_at_call 46; (with_reducible refine (yard_Next.calls kj32 ji39 t376 t377 t387 t388 t389 _ A42.out).mono ?_); rintro e w50 ⟨rfl, hb⟩; have n0_ := Aside0.mk (blk_below (g := gb379) (o := .cells #[.int .i64 t376, .int .i64 t377] 23 (0, 0)) (by (with_reducible repeat (first | refine blk_drewN ?_ _ | refine blk_drew ?_ | refine blk_alloc ?_ _)); refine blk_far ?_ NB379_386.out _; (with_reducible repeat (first | refine blk_drewN ?_ _ | refine blk_drew ?_ | refine blk_alloc ?_ _)); refine blk_far ?_ NB379_386.out _; (with_reducible repeat (first | refine blk_drewN ?_ _ | refine blk_drew ?_ | refine blk_alloc ?_ _)); exact BK379.out) hb); have n1_ := Aside0.mk (blk_below (g := gb386) (o := .cells #[.int .i64 t383, .int .i64 t384] 23 (0, 0)) (by (with_reducible repeat (first | refine blk_drewN ?_ _ | refine blk_drew ?_ | refine blk_alloc ?_ _)); refine blk_put (cs := #[.int .i64 t383, .int .i64 0]) ?_ 1 _ rfl; (with_reducible repeat (first | refine blk_drewN ?_ _ | refine blk_drew ?_ | refine blk_alloc ?_ _)); refine blk_put (cs := #[.int .i64 0, .int .i64 0]) ?_ 0 _ rfl; (with_reducible repeat (first | refine blk_drewN ?_ _ | refine blk_drew ?_ | refine blk_alloc ?_ _)); exact BK386.out) hb); have n2_ := Aside0.mk (below_step (by repeat (first | (with_reducible first | exact HB.out | apply below_alloc | apply pw_below_drewN | apply below_drew1 | refine below_set ?_ GE379.out | refine below_set ?_ GE386.out) | exact HB.out)) hb); clear BK379; clear BK386; clear HB; have BK379 := n0_; have BK386 := n1_; have HB := n2_; clear n0_ n1_ n2_; (try clear hb); (try clear hb2); (try clear hk); (try clear hi)) | ((with_reducible refine gate_dst (N := 14) rfl ?_); (try (refine gate_guard (by rfl) ?_; dsimp only)); refine box_event ?hg (N := 14) ?hd (cs := #[.int .i64 0, .int .i64 0]) (t := 23) ?hr ?_; (case hd => rfl); (case hg => rfl); (case hr => first | (go_simp; done) | (go_simp; rfl)); intro gb390 hg w51 hbox hb; have n0_ := Aside0.mk (blk_below (g := gb379) (o := .cells #[.int .i64 t376, .int .i64 t377] 23 (0, 0)) (by (with_reducible repeat (first | refine blk_drewN ?_ _ | refine blk_drew ?_ | refine blk_alloc ?_ _)); exact BK379.out) hb); have n1_ := Aside0.mk (blk_below (g := gb386) (o := .cells #[.int .i64 t383, .int .i64 t384] 23 (0, 0)) (by (with_reducible repeat (first | refine blk_drewN ?_ _ | refine blk_drew ?_ | refine blk_alloc ?_ _)); exact BK386.out) hb); have n2_ := Aside0.mk (below_step (by repeat (first | (with_reducible first | exact HB.out | apply below_alloc | apply pw_below_drewN | apply below_drew1 | refine below_set ?_ GE379.out | refine below_set ?_ GE386.out) | exact HB.out)) hb); have n3_ := Aside0.mk (hbox); have n4_ := Aside0.mk ((by rw [hg]; exact (below_size (by repeat (first | (with_reducible first | exact HB.out | apply below_alloc | apply pw_below_drewN | apply below_drew1 | refine below_set ?_ GE379.out | refine below_set ?_ GE386.out) | exact HB.out))) : w.heap.size ≤ gb390)); have n5_ := Aside0.mk ((by rw [hg]; exact (below_size (by repeat (first | (with_reducible first | exact HB.out | apply below_alloc | apply pw_below_drewN | apply below_drew1 | refine below_set ?_ GE379.out | refine below_set ?_ GE386.out) | exact HB.out))) : w.heap.size ≤ gb390)); have n6_ := Aside0.mk ((by rw [hg]; exact Nat.ne_of_lt (blk_lt (g := gb379) (o := .cells #[.int .i64 t376, .int .i64 t377] 23 (0, 0)) (by (with_reducible repeat (first | refine blk_drewN ?_ _ | refine blk_drew ?_ | refine blk_alloc ?_ _)); exact BK379.out)) : gb379 ≠ gb390)); have n7_ := Aside0.mk ((by rw [hg]; exact Nat.ne_of_gt (blk_lt (g := gb379) (o := .cells #[.int .i64 t376, .int .i64 t377] 23 (0, 0)) (by (with_reducible repeat (first | refine blk_drewN ?_ _ | refine blk_drew ?_ | refine blk_alloc ?_ _)); exact BK379.out)) : gb390 ≠ gb379)); have n8_ := Aside0.mk ((by rw [hg]; exact Nat.ne_of_lt (blk_lt (g := gb386) (o := .cells #[.int .i64 t383, .int .i64 t384] 23 (0, 0)) (by (with_reducible repeat (first | refine blk_drewN ?_ _ | refine blk_drew ?_ | refine blk_alloc ?_ _)); exact BK386.out)) : gb386 ≠ gb390)); have n9_ := Aside0.mk ((by rw [hg]; exact Nat.ne_of_gt (blk_lt (g := gb386) (o := .cells #[.int .i64 t383, .int .i64 t384] 23 (0, 0)) (by (with_reducible repeat (first | refine blk_drewN ?_ _ | refine blk_drew ?_ | refine blk_alloc ?_ _)); exact BK386.out)) : gb390 ≠ gb386)); clear BK379; clear BK386; clear HB; have BK379 := n0_; have BK386 := n1_; have HB := n2_; have BK390 := n3_; have GW390 := n4_; have GE390 := n5_; have NB379_390 := n6_; have NB390_379 := n7_; have NB386_390 := n8_; have NB390_386 := n9_; clear n0_ n1_ n2_ n3_ n4_ n5_ n6_ n7_ n8_ n9_; clear hb hbox hg; have hnb52 := NB390_379.out; have hnc52 := NB379_390.out; have hnb53 := NB390_386.out; have hnc53 := NB386_390.out; have hcz54_0 : w51.cell? ⟨gb390, 0, none⟩ = some (.int .i64 0) := (blk_cell BK390.out 0).trans rfl; have hcz54_1 : w51.cell? ⟨gb390, 1, none⟩ = some (.int .i64 0) := (blk_cell BK390.out 1).trans rfl; have hfz54_0 := blk_frozen BK390.out 0; have hfz54_1 := blk_frozen BK390.out 1)); go_upto_region 25 with (first | (go_at_call 45; (with_reducible refine (yard_Before.calls kj32 ji39 t376 t377 t383 t384 t385 _ A40.out).mono ?_); rintro e w45 ⟨rfl, hb⟩; have n0_ := Aside0.mk (blk_below (g := gb379) (o := .cells #[.int .i64 t376, .int .i64 t377] 23 (0, 0)) (by (with_reducible repeat (first | refine blk_drewN ?_ _ | refine blk_drew ?_ | refine blk_alloc ?_ _)); exact BK379.out) hb); have n1_ := Aside0.mk (below_step (by repeat (first | (with_reducible first | exact HB.out | apply below_alloc | apply pw_below_drewN | apply below_drew1 | refine below_set ?_ GE379.out) | exact HB.out)) hb); clear BK379; clear HB; have BK379 := n0_; have HB := n1_; clear n0_ n1_; (try clear hb); (try clear hb2); (try clear hk); (try clear hi)) | ((with_reducible refine gate_dst (N := 12) rfl ?_); (try (refine gate_guard (by rfl) ?_; dsimp only)); refine box_event ?hg (N := 12) ?hd (cs := #[.int .i64 0, .int .i64 0]) (t := 23) ?hr ?_; (case hd => rfl); (case hg => rfl); (case hr => first | (go_simp; done) | (go_simp; rfl)); intro gb386 hg w46 hbox hb; have n0_ := Aside0.mk (blk_below (g := gb379) (o := .cells #[.int .i64 t376, .int .i64 t377] 23 (0, 0)) (by (with_reducible repeat (first | refine blk_drewN ?_ _ | refine blk_drew ?_ | refine blk_alloc ?_ _)); exact BK379.out) hb); have n1_ := Aside0.mk (below_step (by repeat (first | (with_reducible first | exact HB.out | apply below_alloc | apply pw_below_drewN | apply below_drew1 | refine below_set ?_ GE379.out) | exact HB.out)) hb); have n2_ := Aside0.mk (hbox); have n3_ := Aside0.mk ((by rw [hg]; exact (below_size (by repeat (first | (with_reducible first | exact HB.out | apply below_alloc | apply pw_below_drewN | apply below_drew1 | refine below_set ?_ GE379.out) | exact HB.out))) : w.heap.size ≤ gb386)); have n4_ := Aside0.mk ((by rw [hg]; exact (below_size (by repeat (first | (with_reducible first | exact HB.out | apply below_alloc | apply pw_below_drewN | apply below_drew1 | refine below_set ?_ GE379.out) | exact HB.out))) : w.heap.size ≤ gb386)); have n5_ := Aside0.mk ((by rw [hg]; exact Nat.ne_of_lt (blk_lt (g := gb379) (o := .cells #[.int .i64 t376, .int .i64 t377] 23 (0, 0)) (by (with_reducible repeat (first | refine blk_drewN ?_ _ | refine blk_drew ?_ | refine blk_alloc ?_ _)); exact BK379.out)) : gb379 ≠ gb386)); have n6_ := Aside0.mk ((by rw [hg]; exact Nat.ne_of_gt (blk_lt (g := gb379) (o := .cells #[.int .i64 t376, .int .i64 t377] 23 (0, 0)) (by (with_reducible repeat (first | refine blk_drewN ?_ _ | refine blk_drew ?_ | refine blk_alloc ?_ _)); exact BK379.out)) : gb386 ≠ gb379)); clear BK379; clear HB; have BK379 := n0_; have HB := n1_; have BK386 := n2_; have GW386 := n3_; have GE386 := n4_; have NB379_386 := n5_; have NB386_379 := n6_; clear n0_ n1_ n2_ n3_ n4_ n5_ n6_; clear hb hbox hg; have hnb47 := NB386_379.out; have hnc47 := NB379_386.out; have hcz48_0 : w46.cell? ⟨gb386, 0, none⟩ = some (.int .i64 0) := (blk_cell BK386.out 0).trans rfl; have hcz48_1 : w46.cell? ⟨gb386, 1, none⟩ = some (.int .i64 0) := (blk_cell BK386.out 1).trans rfl; have hfz48_0 := blk_frozen BK386.out 0; have hfz48_1 := blk_frozen BK386.out 1; have hcz49_0 : w46.cell? ⟨gb379, 0, none⟩ = some (.int .i64 t376) := (blk_cell BK379.out 0).trans rfl; have hcz49_1 : w46.cell? ⟨gb379, 1, none⟩ = some (.int .i64 t377) := (blk_cell BK379.out 1).trans rfl; have hfz49_0 := blk_frozen BK379.out 0; have hfz49_1 := blk_frozen BK379.out 1) | (go_at_call 46; (with_reducible refine (yard_Next.calls kj32 ji39 t376 t377 t387 t388 t389 _ A42.out).mono ?_); rintro e w50 ⟨rfl, hb⟩; have n0_ := Aside0.mk (blk_below (g := gb379) (o := .cells #[.int .i64 t376, .int .i64 t377] 23 (0, 0)) (by (with_reducible repeat (first | refine blk_drewN ?_ _ | refine blk_drew ?_ | refine blk_alloc ?_ _)); refine blk_far ?_ NB379_386.out _; (with_reducible repeat (first | refine blk_drewN ?_ _ | refine blk_drew ?_ | refine blk_alloc ?_ _)); refine blk_far ?_ NB379_386.out _; (with_reducible repeat (first | refine blk_drewN ?_ _ | refine blk_drew ?_ | refine blk_alloc ?_ _)); exact BK379.out) hb); have n1_ := Aside0.mk (blk_below (g := gb386) (o := .cells #[.int .i64 t383, .int .i64 t384] 23 (0, 0)) (by (with_reducible repeat (first | refine blk_drewN ?_ _ | refine blk_drew ?_ | refine blk_alloc ?_ _)); refine blk_put (cs := #[.int .i64 t383, .int .i64 0]) ?_ 1 _ rfl; (with_reducible repeat (first | refine blk_drewN ?_ _ | refine blk_drew ?_ | refine blk_alloc ?_ _)); refine blk_put (cs := #[.int .i64 0, .int .i64 0]) ?_ 0 _ rfl; (with_reducible repeat (first | refine blk_drewN ?_ _ | refine blk_drew ?_ | refine blk_alloc ?_ _)); exact BK386.out) hb); have n2_ := Aside0.mk (below_step (by repeat (first | (with_reducible first | exact HB.out | apply below_alloc | apply pw_below_drewN | apply below_drew1 | refine below_set ?_ GE379.out | refine below_set ?_ GE386.out) | exact HB.out)) hb); clear BK379; clear BK386; clear HB; have BK379 := n0_; have BK386 := n1_; have HB := n2_; clear n0_ n1_ n2_; (try clear hb); (try clear hb2); (try clear hk); (try clear hi)) | ((with_reducible refine gate_dst (N := 14) rfl ?_); (try (refine gate_guard (by rfl) ?_; dsimp only)); refine box_event ?hg (N := 14) ?hd (cs := #[.int .i64 0, .int .i64 0]) (t := 23) ?hr ?_; (case hd => rfl); (case hg => rfl); (case hr => first | (go_simp; done) | (go_simp; rfl)); intro gb390 hg w51 hbox hb; have n0_ := Aside0.mk (blk_below (g := gb379) (o := .cells #[.int .i64 t376, .int .i64 t377] 23 (0, 0)) (by (with_reducible repeat (first | refine blk_drewN ?_ _ | refine blk_drew ?_ | refine blk_alloc ?_ _)); exact BK379.out) hb); have n1_ := Aside0.mk (blk_below (g := gb386) (o := .cells #[.int .i64 t383, .int .i64 t384] 23 (0, 0)) (by (with_reducible repeat (first | refine blk_drewN ?_ _ | refine blk_drew ?_ | refine blk_alloc ?_ _)); exact BK386.out) hb); have n2_ := Aside0.mk (below_step (by repeat (first | (with_reducible first | exact HB.out | apply below_alloc | apply pw_below_drewN | apply below_drew1 | refine below_set ?_ GE379.out | refine below_set ?_ GE386.out) | exact HB.out)) hb); have n3_ := Aside0.mk (hbox); have n4_ := Aside0.mk ((by rw [hg]; exact (below_size (by repeat (first | (with_reducible first | exact HB.out | apply below_alloc | apply pw_below_drewN | apply below_drew1 | refine below_set ?_ GE379.out | refine below_set ?_ GE386.out) | exact HB.out))) : w.heap.size ≤ gb390)); have n5_ := Aside0.mk ((by rw [hg]; exact (below_size (by repeat (first | (with_reducible first | exact HB.out | apply below_alloc | apply pw_below_drewN | apply below_drew1 | refine below_set ?_ GE379.out | refine below_set ?_ GE386.out) | exact HB.out))) : w.heap.size ≤ gb390)); have n6_ := Aside0.mk ((by rw [hg]; exact Nat.ne_of_lt (blk_lt (g := gb379) (o := .cells #[.int .i64 t376, .int .i64 t377] 23 (0, 0)) (by (with_reducible repeat (first | refine blk_drewN ?_ _ | refine blk_drew ?_ | refine blk_alloc ?_ _)); exact BK379.out)) : gb379 ≠ gb390)); have n7_ := Aside0.mk ((by rw [hg]; exact Nat.ne_of_gt (blk_lt (g := gb379) (o := .cells #[.int .i64 t376, .int .i64 t377] 23 (0, 0)) (by (with_reducible repeat (first | refine blk_drewN ?_ _ | refine blk_drew ?_ | refine blk_alloc ?_ _)); exact BK379.out)) : gb390 ≠ gb379)); have n8_ := Aside0.mk ((by rw [hg]; exact Nat.ne_of_lt (blk_lt (g := gb386) (o := .cells #[.int .i64 t383, .int .i64 t384] 23 (0, 0)) (by (with_reducible repeat (first | refine blk_drewN ?_ _ | refine blk_drew ?_ | refine blk_alloc ?_ _)); exact BK386.out)) : gb386 ≠ gb390)); have n9_ := Aside0.mk ((by rw [hg]; exact Nat.ne_of_gt (blk_lt (g := gb386) (o := .cells #[.int .i64 t383, .int .i64 t384] 23 (0, 0)) (by (with_reducible repeat (first | refine blk_drewN ?_ _ | refine blk_drew ?_ | refine blk_alloc ?_ _)); exact BK386.out)) : gb390 ≠ gb386)); clear BK379; clear BK386; clear HB; have BK379 := n0_; have BK386 := n1_; have HB := n2_; have BK390 := n3_; have GW390 := n4_; have GE390 := n5_; have NB379_390 := n6_; have NB390_379 := n7_; have NB386_390 := n8_; have NB390_386 := n9_; clear n0_ n1_ n2_ n3_ n4_ n5_ n6_ n7_ n8_ n9_; clear hb hbox hg; have hnb52 := NB390_379.out; have hnc52 := NB379_390.out; have hnb53 := NB390_386.out; have hnc53 := NB386_390.out; have hcz54_0 : w51.cell? ⟨gb390, 0, none⟩ = some (.int .i64 0) := (blk_cell BK390.out 0).trans rfl; have hcz54_1 : w51.cell? ⟨gb390, 1, none⟩ = some (.int .i64 0) := (blk_cell BK390.out 1).trans rfl; have hfz54_0 := blk_frozen BK390.out 0; have hfz54_1 := blk_frozen BK390.out 1)))
                            (try simp only [Act.put, List.setIfInBounds_toArray, List.set_cons_zero, List.set_cons_succ])
                            go_cut [140] (fun v140 wc => ∃ (kq : Nat) (x140_42 : Bool), v140 = .bool x140_42 ∧ Aside0 (galloontop_TopCentral.j4 kq t380 x140_42 t383 t384 t387 t388 = some r) ∧ Aside0 (kq ≤ kj32) ∧ Aside0 (wc.heap[gb379]? = some (.cells #[.int .i64 t376, .int .i64 t377] 23 (0, 0))) ∧ Aside0 (wc.heap[gb386]? = some (.cells #[.int .i64 t383, .int .i64 t384] 23 (0, 0))) ∧ Aside0 (wc.heap[gb390]? = some (.cells #[.int .i64 t387, .int .i64 t388] 23 (0, 0))) ∧ Aside0 (Below w.heap.size w wc))
                            case first =>
                              have H := HC43.out
                              clear HC43
                              by_cases c55 : t385 = 0
                              · rw [if_pos c55] at H
                                have c55b0 : (t385 == 0) = true := beq_iff_eq.mpr c55
                                have c55b1 : (t385 != 0) = false := bne_eq_false_iff_eq.mpr c55
                                clear c55
                                (first | rw [c55b0] | (simp only [i64_w, i32_w]; rw [c55b0]) | skip)
                                by_cases c56 : t389 = 0
                                · rw [if_pos c56] at H
                                  have c56b0 : (t389 == 0) = true := beq_iff_eq.mpr c56
                                  have c56b1 : (t389 != 0) = false := bne_eq_false_iff_eq.mpr c56
                                  clear c56
                                  by_cases c57 : (wrap64 (t384 + t388)) = t377
                                  · rw [if_pos c57] at H
                                    have c57b0 : ((wrap64 (t384 + t388)) == t377) = true := beq_iff_eq.mpr c57
                                    have c57b1 : ((wrap64 (t384 + t388)) != t377) = false := bne_eq_false_iff_eq.mpr c57
                                    clear c57
                                    by_cases c58 : t384 < 1
                                    · rw [if_pos c58] at H
                                      have c58b0 : decide (t384 < 1) = true := decide_eq_true c58
                                      clear c58
                                      have H' := Aside0.mk H
                                      clear H
                                      have hnb59 := NB386_379.out
                                      have hnc59 := NB379_386.out
                                      have hnb60 := NB386_390.out
                                      have hnc60 := NB390_386.out
                                      have hcz61_0 : w51.cell? ⟨gb386, 0, none⟩ = some (.int .i64 t383) := (blk_cell BK386.out 0).trans rfl
                                      have hcz61_1 : w51.cell? ⟨gb386, 1, none⟩ = some (.int .i64 t384) := (blk_cell BK386.out 1).trans rfl
                                      have hfz61_0 := blk_frozen BK386.out 0
                                      have hfz61_1 := blk_frozen BK386.out 1
                                      have hnb62 := NB390_379.out
                                      have hnc62 := NB379_390.out
                                      have hcz63_0 : w51.cell? ⟨gb390, 0, none⟩ = some (.int .i64 0) := (blk_cell BK390.out 0).trans rfl
                                      have hcz63_1 : w51.cell? ⟨gb390, 1, none⟩ = some (.int .i64 0) := (blk_cell BK390.out 1).trans rfl
                                      have hfz63_0 := blk_frozen BK390.out 0
                                      have hfz63_1 := blk_frozen BK390.out 1
                                      have hcz64_0 : w51.cell? ⟨gb379, 0, none⟩ = some (.int .i64 t376) := (blk_cell BK379.out 0).trans rfl
                                      have hcz64_1 : w51.cell? ⟨gb379, 1, none⟩ = some (.int .i64 t377) := (blk_cell BK379.out 1).trans rfl
                                      have hfz64_0 := blk_frozen BK379.out 0
                                      have hfz64_1 := blk_frozen BK379.out 1
                                      go_wp2
                                      repeat (go_quiet (fail); try go_wp2)
                                      go_meet
                                      case rel => exact ⟨_, (true), (by first | rfl | (simp; done) | (simp [*]; done)), H', ⟨by have := HK1.out; have := HJ11.out; have := HK3.out; have := HJ32.out; first | omega | exact Nat.le_refl _⟩, ⟨by (with_reducible repeat (first | refine blk_drewN ?_ _ | refine blk_drew ?_ | refine blk_alloc ?_ _)); refine blk_far ?_ NB379_390.out _; (with_reducible repeat (first | refine blk_drewN ?_ _ | refine blk_drew ?_ | refine blk_alloc ?_ _)); refine blk_far ?_ NB379_390.out _; (with_reducible repeat (first | refine blk_drewN ?_ _ | refine blk_drew ?_ | refine blk_alloc ?_ _)); exact BK379.out⟩, ⟨by (with_reducible repeat (first | refine blk_drewN ?_ _ | refine blk_drew ?_ | refine blk_alloc ?_ _)); refine blk_far ?_ NB386_390.out _; (with_reducible repeat (first | refine blk_drewN ?_ _ | refine blk_drew ?_ | refine blk_alloc ?_ _)); refine blk_far ?_ NB386_390.out _; (with_reducible repeat (first | refine blk_drewN ?_ _ | refine blk_drew ?_ | refine blk_alloc ?_ _)); exact BK386.out⟩, ⟨by (with_reducible repeat (first | refine blk_drewN ?_ _ | refine blk_drew ?_ | refine blk_alloc ?_ _)); refine blk_put (cs := #[.int .i64 t387, .int .i64 0]) ?_ 1 _ rfl; (with_reducible repeat (first | refine blk_drewN ?_ _ | refine blk_drew ?_ | refine blk_alloc ?_ _)); refine blk_put (cs := #[.int .i64 0, .int .i64 0]) ?_ 0 _ rfl; (with_reducible repeat (first | refine blk_drewN ?_ _ | refine blk_drew ?_ | refine blk_alloc ?_ _)); exact BK390.out⟩, ⟨by repeat (first | (with_reducible first | exact HB.out | apply below_alloc | apply pw_below_drewN | apply below_drew1 | refine below_set ?_ GE379.out | refine below_set ?_ GE386.out | refine below_set ?_ GE390.out) | exact HB.out)⟩⟩
                                    · rw [if_neg c58] at H
                                      have c58b0 : decide (t384 < 1) = false := decide_eq_false c58
                                      clear c58
                                      have H' := Aside0.mk H
                                      clear H
                                      have hnb65 := NB386_379.out
                                      have hnc65 := NB379_386.out
                                      have hnb66 := NB386_390.out
                                      have hnc66 := NB390_386.out
                                      have hcz67_0 : w51.cell? ⟨gb386, 0, none⟩ = some (.int .i64 t383) := (blk_cell BK386.out 0).trans rfl
                                      have hcz67_1 : w51.cell? ⟨gb386, 1, none⟩ = some (.int .i64 t384) := (blk_cell BK386.out 1).trans rfl
                                      have hfz67_0 := blk_frozen BK386.out 0
                                      have hfz67_1 := blk_frozen BK386.out 1
                                      have hnb68 := NB390_379.out
                                      have hnc68 := NB379_390.out
                                      have hcz69_0 : w51.cell? ⟨gb390, 0, none⟩ = some (.int .i64 0) := (blk_cell BK390.out 0).trans rfl
                                      have hcz69_1 : w51.cell? ⟨gb390, 1, none⟩ = some (.int .i64 0) := (blk_cell BK390.out 1).trans rfl
                                      have hfz69_0 := blk_frozen BK390.out 0
                                      have hfz69_1 := blk_frozen BK390.out 1
                                      have hcz70_0 : w51.cell? ⟨gb379, 0, none⟩ = some (.int .i64 t376) := (blk_cell BK379.out 0).trans rfl
                                      have hcz70_1 : w51.cell? ⟨gb379, 1, none⟩ = some (.int .i64 t377) := (blk_cell BK379.out 1).trans rfl
                                      have hfz70_0 := blk_frozen BK379.out 0
                                      have hfz70_1 := blk_frozen BK379.out 1
                                      go_wp2
                                      repeat (go_quiet (fail); try go_wp2)
                                      go_meet
                                      case rel => exact ⟨_, (decide (t388 < 1)), (by first | rfl | (simp; done) | (simp [*]; done)), H', ⟨by have := HK1.out; have := HJ11.out; have := HK3.out; have := HJ32.out; first | omega | exact Nat.le_refl _⟩, ⟨by (with_reducible repeat (first | refine blk_drewN ?_ _ | refine blk_drew ?_ | refine blk_alloc ?_ _)); refine blk_far ?_ NB379_390.out _; (with_reducible repeat (first | refine blk_drewN ?_ _ | refine blk_drew ?_ | refine blk_alloc ?_ _)); refine blk_far ?_ NB379_390.out _; (with_reducible repeat (first | refine blk_drewN ?_ _ | refine blk_drew ?_ | refine blk_alloc ?_ _)); exact BK379.out⟩, ⟨by (with_reducible repeat (first | refine blk_drewN ?_ _ | refine blk_drew ?_ | refine blk_alloc ?_ _)); refine blk_far ?_ NB386_390.out _; (with_reducible repeat (first | refine blk_drewN ?_ _ | refine blk_drew ?_ | refine blk_alloc ?_ _)); refine blk_far ?_ NB386_390.out _; (with_reducible repeat (first | refine blk_drewN ?_ _ | refine blk_drew ?_ | refine blk_alloc ?_ _)); exact BK386.out⟩, ⟨by (with_reducible repeat (first | refine blk_drewN ?_ _ | refine blk_drew ?_ | refine blk_alloc ?_ _)); refine blk_put (cs := #[.int .i64 t387, .int .i64 0]) ?_ 1 _ rfl; (with_reducible repeat (first | refine blk_drewN ?_ _ | refine blk_drew ?_ | refine blk_alloc ?_ _)); refine blk_put (cs := #[.int .i64 0, .int .i64 0]) ?_ 0 _ rfl; (with_reducible repeat (first | refine blk_drewN ?_ _ | refine blk_drew ?_ | refine blk_alloc ?_ _)); exact BK390.out⟩, ⟨by repeat (first | (with_reducible first | exact HB.out | apply below_alloc | apply pw_below_drewN | apply below_drew1 | refine below_set ?_ GE379.out | refine below_set ?_ GE386.out | refine below_set ?_ GE390.out) | exact HB.out)⟩⟩
                                  · rw [if_neg c57] at H
                                    have c57b0 : ((wrap64 (t384 + t388)) == t377) = false := beq_eq_false_iff_ne.mpr c57
                                    have c57b1 : ((wrap64 (t384 + t388)) != t377) = true := bne_iff_ne.mpr c57
                                    have H' := Aside0.mk H
                                    clear H
                                    have hnb71 := NB386_379.out
                                    have hnc71 := NB379_386.out
                                    have hnb72 := NB386_390.out
                                    have hnc72 := NB390_386.out
                                    have hcz73_0 : w51.cell? ⟨gb386, 0, none⟩ = some (.int .i64 t383) := (blk_cell BK386.out 0).trans rfl
                                    have hcz73_1 : w51.cell? ⟨gb386, 1, none⟩ = some (.int .i64 t384) := (blk_cell BK386.out 1).trans rfl
                                    have hfz73_0 := blk_frozen BK386.out 0
                                    have hfz73_1 := blk_frozen BK386.out 1
                                    have hnb74 := NB390_379.out
                                    have hnc74 := NB379_390.out
                                    have hcz75_0 : w51.cell? ⟨gb390, 0, none⟩ = some (.int .i64 0) := (blk_cell BK390.out 0).trans rfl
                                    have hcz75_1 : w51.cell? ⟨gb390, 1, none⟩ = some (.int .i64 0) := (blk_cell BK390.out 1).trans rfl
                                    have hfz75_0 := blk_frozen BK390.out 0
                                    have hfz75_1 := blk_frozen BK390.out 1
                                    have hcz76_0 : w51.cell? ⟨gb379, 0, none⟩ = some (.int .i64 t376) := (blk_cell BK379.out 0).trans rfl
                                    have hcz76_1 : w51.cell? ⟨gb379, 1, none⟩ = some (.int .i64 t377) := (blk_cell BK379.out 1).trans rfl
                                    have hfz76_0 := blk_frozen BK379.out 0
                                    have hfz76_1 := blk_frozen BK379.out 1
                                    go_wp2
                                    repeat (go_quiet (fail); try go_wp2)
                                    go_meet
                                    case rel => exact ⟨_, (true), (by first | rfl | (simp; done) | (simp [*]; done)), H', ⟨by have := HK1.out; have := HJ11.out; have := HK3.out; have := HJ32.out; first | omega | exact Nat.le_refl _⟩, ⟨by (with_reducible repeat (first | refine blk_drewN ?_ _ | refine blk_drew ?_ | refine blk_alloc ?_ _)); refine blk_far ?_ NB379_390.out _; (with_reducible repeat (first | refine blk_drewN ?_ _ | refine blk_drew ?_ | refine blk_alloc ?_ _)); refine blk_far ?_ NB379_390.out _; (with_reducible repeat (first | refine blk_drewN ?_ _ | refine blk_drew ?_ | refine blk_alloc ?_ _)); exact BK379.out⟩, ⟨by (with_reducible repeat (first | refine blk_drewN ?_ _ | refine blk_drew ?_ | refine blk_alloc ?_ _)); refine blk_far ?_ NB386_390.out _; (with_reducible repeat (first | refine blk_drewN ?_ _ | refine blk_drew ?_ | refine blk_alloc ?_ _)); refine blk_far ?_ NB386_390.out _; (with_reducible repeat (first | refine blk_drewN ?_ _ | refine blk_drew ?_ | refine blk_alloc ?_ _)); exact BK386.out⟩, ⟨by (with_reducible repeat (first | refine blk_drewN ?_ _ | refine blk_drew ?_ | refine blk_alloc ?_ _)); refine blk_put (cs := #[.int .i64 t387, .int .i64 0]) ?_ 1 _ rfl; (with_reducible repeat (first | refine blk_drewN ?_ _ | refine blk_drew ?_ | refine blk_alloc ?_ _)); refine blk_put (cs := #[.int .i64 0, .int .i64 0]) ?_ 0 _ rfl; (with_reducible repeat (first | refine blk_drewN ?_ _ | refine blk_drew ?_ | refine blk_alloc ?_ _)); exact BK390.out⟩, ⟨by repeat (first | (with_reducible first | exact HB.out | apply below_alloc | apply pw_below_drewN | apply below_drew1 | refine below_set ?_ GE379.out | refine below_set ?_ GE386.out | refine below_set ?_ GE390.out) | exact HB.out)⟩⟩
                                · rw [if_neg c56] at H
                                  have c56b0 : (t389 == 0) = false := beq_eq_false_iff_ne.mpr c56
                                  have c56b1 : (t389 != 0) = true := bne_iff_ne.mpr c56
                                  have H' := Aside0.mk H
                                  clear H
                                  go_wp2
                                  repeat (go_quiet (fail); try go_wp2)
                                  go_meet
                                  case rel => exact ⟨_, (true), (by first | rfl | (simp; done) | (simp [*]; done)), H', ⟨by have := HK1.out; have := HJ11.out; have := HK3.out; have := HJ32.out; first | omega | exact Nat.le_refl _⟩, ⟨by (with_reducible repeat (first | refine blk_drewN ?_ _ | refine blk_drew ?_ | refine blk_alloc ?_ _)); refine blk_far ?_ NB379_390.out _; (with_reducible repeat (first | refine blk_drewN ?_ _ | refine blk_drew ?_ | refine blk_alloc ?_ _)); refine blk_far ?_ NB379_390.out _; (with_reducible repeat (first | refine blk_drewN ?_ _ | refine blk_drew ?_ | refine blk_alloc ?_ _)); exact BK379.out⟩, ⟨by (with_reducible repeat (first | refine blk_drewN ?_ _ | refine blk_drew ?_ | refine blk_alloc ?_ _)); refine blk_far ?_ NB386_390.out _; (with_reducible repeat (first | refine blk_drewN ?_ _ | refine blk_drew ?_ | refine blk_alloc ?_ _)); refine blk_far ?_ NB386_390.out _; (with_reducible repeat (first | refine blk_drewN ?_ _ | refine blk_drew ?_ | refine blk_alloc ?_ _)); exact BK386.out⟩, ⟨by (with_reducible repeat (first | refine blk_drewN ?_ _ | refine blk_drew ?_ | refine blk_alloc ?_ _)); refine blk_put (cs := #[.int .i64 t387, .int .i64 0]) ?_ 1 _ rfl; (with_reducible repeat (first | refine blk_drewN ?_ _ | refine blk_drew ?_ | refine blk_alloc ?_ _)); refine blk_put (cs := #[.int .i64 0, .int .i64 0]) ?_ 0 _ rfl; (with_reducible repeat (first | refine blk_drewN ?_ _ | refine blk_drew ?_ | refine blk_alloc ?_ _)); exact BK390.out⟩, ⟨by repeat (first | (with_reducible first | exact HB.out | apply below_alloc | apply pw_below_drewN | apply below_drew1 | refine below_set ?_ GE379.out | refine below_set ?_ GE386.out | refine below_set ?_ GE390.out) | exact HB.out)⟩⟩
                              · rw [if_neg c55] at H
                                have c55b0 : (t385 == 0) = false := beq_eq_false_iff_ne.mpr c55
                                have c55b1 : (t385 != 0) = true := bne_iff_ne.mpr c55
                                (first | rw [c55b0] | (simp only [i64_w, i32_w]; rw [c55b0]) | skip)
                                have H' := Aside0.mk H
                                clear H
                                go_wp2
                                repeat (go_quiet (fail); try go_wp2)
                                go_meet
                                case rel => exact ⟨_, (true), (by first | rfl | (simp; done) | (simp [*]; done)), H', ⟨by have := HK1.out; have := HJ11.out; have := HK3.out; have := HJ32.out; first | omega | exact Nat.le_refl _⟩, ⟨by (with_reducible repeat (first | refine blk_drewN ?_ _ | refine blk_drew ?_ | refine blk_alloc ?_ _)); refine blk_far ?_ NB379_390.out _; (with_reducible repeat (first | refine blk_drewN ?_ _ | refine blk_drew ?_ | refine blk_alloc ?_ _)); refine blk_far ?_ NB379_390.out _; (with_reducible repeat (first | refine blk_drewN ?_ _ | refine blk_drew ?_ | refine blk_alloc ?_ _)); exact BK379.out⟩, ⟨by (with_reducible repeat (first | refine blk_drewN ?_ _ | refine blk_drew ?_ | refine blk_alloc ?_ _)); refine blk_far ?_ NB386_390.out _; (with_reducible repeat (first | refine blk_drewN ?_ _ | refine blk_drew ?_ | refine blk_alloc ?_ _)); refine blk_far ?_ NB386_390.out _; (with_reducible repeat (first | refine blk_drewN ?_ _ | refine blk_drew ?_ | refine blk_alloc ?_ _)); exact BK386.out⟩, ⟨by (with_reducible repeat (first | refine blk_drewN ?_ _ | refine blk_drew ?_ | refine blk_alloc ?_ _)); refine blk_put (cs := #[.int .i64 t387, .int .i64 0]) ?_ 1 _ rfl; (with_reducible repeat (first | refine blk_drewN ?_ _ | refine blk_drew ?_ | refine blk_alloc ?_ _)); refine blk_put (cs := #[.int .i64 0, .int .i64 0]) ?_ 0 _ rfl; (with_reducible repeat (first | refine blk_drewN ?_ _ | refine blk_drew ?_ | refine blk_alloc ?_ _)); exact BK390.out⟩, ⟨by repeat (first | (with_reducible first | exact HB.out | apply below_alloc | apply pw_below_drewN | apply below_drew1 | refine below_set ?_ GE379.out | refine below_set ?_ GE386.out | refine below_set ?_ GE390.out) | exact HB.out)⟩⟩
                            case rest =>
                              clear HC43
                              try clear c1
                              try clear c2
                              try clear p2
                              try clear c3
                              try clear p3
                              try clear q3
                              try clear hx3
                              try clear c4
                              try clear c4b0
                              try clear c5
                              try clear c5b0
                              try clear c6
                              try clear p6
                              try clear q6
                              try clear hx6
                              try clear c7
                              try clear c7b0
                              try clear c7b1
                              try clear c8
                              try clear c8b0
                              try clear c8b1
                              try clear c8b2
                              try clear c9
                              try clear c9b0
                              try clear c9b1
                              try clear c9b2
                              try clear c17
                              try clear c17b0
                              try clear c17b1
                              try clear c18
                              try clear c18b0
                              try clear c21
                              try clear c22
                              try clear c22b0
                              try clear c23
                              try clear c23b0
                              try clear c23b1
                              try clear c24
                              try clear c24b0
                              try clear c24b1
                              try clear c29
                              try clear c29b0
                              try clear c30
                              try clear c30b0
                              try clear p31
                              try clear q31
                              try clear hx31
                              try clear c32
                              try clear c32b0
                              try clear c32b1
                              try clear c34
                              try clear c34b0
                              try clear c34b1
                              try clear c35
                              try clear c35b0
                              try clear c35b1
                              try clear c38
                              try clear c41
                              try clear c41b0
                              try clear c47
                              try clear c52
                              try clear c53
                              try clear c55
                              try clear c55b0
                              try clear c55b1
                              try clear c56
                              try clear c56b0
                              try clear c56b1
                              try clear c57
                              try clear c57b0
                              try clear c57b1
                              try clear c58
                              try clear c58b0
                              try clear c59
                              try clear c60
                              try clear c62
                              try clear p64
                              try clear c65
                              try clear c66
                              try clear c68
                              try clear c71
                              try clear c72
                              try clear c74
                              try clear hcz15_0
                              try clear hcz15_1
                              try clear hcz19_0
                              try clear hcz19_1
                              try clear hcz20_0
                              try clear hcz20_1
                              try clear hcz26_0
                              try clear hcz26_1
                              try clear hcz28_0
                              try clear hcz28_1
                              try clear hcz36_0
                              try clear hcz36_1
                              try clear hcz37_0
                              try clear hcz37_1
                              try clear hcz44_0
                              try clear hcz44_1
                              try clear hcz48_0
                              try clear hcz48_1
                              try clear hcz49_0
                              try clear hcz49_1
                              try clear hcz54_0
                              try clear hcz54_1
                              try clear hcz61_0
                              try clear hcz61_1
                              try clear hcz63_0
                              try clear hcz63_1
                              try clear hcz64_0
                              try clear hcz64_1
                              try clear hcz67_0
                              try clear hcz67_1
                              try clear hcz69_0
                              try clear hcz69_1
                              try clear hcz70_0
                              try clear hcz70_1
                              try clear hcz73_0
                              try clear hcz73_1
                              try clear hcz75_0
                              try clear hcz75_1
                              try clear hcz76_0
                              try clear hcz76_1
                              try clear hfz15_0
                              try clear hfz15_1
                              try clear hfz19_0
                              try clear hfz19_1
                              try clear hfz20_0
                              try clear hfz20_1
                              try clear hfz26_0
                              try clear hfz26_1
                              try clear hfz28_0
                              try clear hfz28_1
                              try clear hfz36_0
                              try clear hfz36_1
                              try clear hfz37_0
                              try clear hfz37_1
                              try clear hfz44_0
                              try clear hfz44_1
                              try clear hfz48_0
                              try clear hfz48_1
                              try clear hfz49_0
                              try clear hfz49_1
                              try clear hfz54_0
                              try clear hfz54_1
                              try clear hfz61_0
                              try clear hfz61_1
                              try clear hfz63_0
                              try clear hfz63_1
                              try clear hfz64_0
                              try clear hfz64_1
                              try clear hfz67_0
                              try clear hfz67_1
                              try clear hfz69_0
                              try clear hfz69_1
                              try clear hfz70_0
                              try clear hfz70_1
                              try clear hfz73_0
                              try clear hfz73_1
                              try clear hfz75_0
                              try clear hfz75_1
                              try clear hfz76_0
                              try clear hfz76_1
                              try clear p2
                              try clear p3
                              try clear p31
                              try clear p6
                              try clear q3
                              try clear q31
                              try clear q6
                              obtain ⟨kq, x140_42, rfl, HA, HJ42, BK379, BK386, BK390, HB⟩ := hcut
                              cases kq with
                              | zero => exact absurd HA.out (by simp [galloontop_TopCentral.j4])
                              | succ kj42 =>
                                have H := HA.out
                                clear HA
                                simp only [galloontop_TopCentral.j4] at H
                                by_cases c77 : x140_42 = true
                                · subst c77
                                  have H1 : (some false) = some r := by rw [if_pos rfl] at H; exact H
                                  clear H
                                  have H := H1
                                  clear H1
                                  obtain rfl := Option.some.inj H
                                  exact absurd hr.out (by decide)
                                · replace c77 := Bool.eq_false_iff.mpr c77
                                  subst c77
                                  have H1 : (galloontop_TopCentral.l2 kj42 t380 0 t383 t384 t387 t388) = some r := by rw [if_neg (show ¬ (false = true) by decide)] at H; exact H
                                  clear H
                                  have H := H1
                                  clear H1
                                  have H' := Aside0.mk H
                                  clear H
                                  go_wp2
                                  repeat (go_quiet (fail); try go_wp2)
                                  go_loopg [16] kj42 (fun kq v16 w' => ∃ (x16_6 : Int), v16 = .int .i64 x16_6 ∧ Aside0 (galloontop_TopCentral.l2 kq t380 x16_6 t383 t384 t387 t388 = some r) ∧ Aside0 (kq ≤ kj42) ∧ Aside0 (w'.heap[gb379]? = some (.cells #[.int .i64 t376, .int .i64 t377] 23 (0, 0))) ∧ Aside0 (w'.heap[gb386]? = some (.cells #[.int .i64 t383, .int .i64 t384] 23 (0, 0))) ∧ Aside0 (w'.heap[gb390]? = some (.cells #[.int .i64 t387, .int .i64 t388] 23 (0, 0))) ∧ Aside0 (Below w.heap.size w w'))
                                  case atStart => exact ⟨(0), (by first | rfl | (simp; done) | (simp [*]; done)), H', ⟨Nat.le_refl _⟩, ⟨by (with_reducible repeat (first | refine blk_drewN ?_ _ | refine blk_drew ?_ | refine blk_alloc ?_ _)); exact BK379.out⟩, ⟨by (with_reducible repeat (first | refine blk_drewN ?_ _ | refine blk_drew ?_ | refine blk_alloc ?_ _)); exact BK386.out⟩, ⟨by (with_reducible repeat (first | refine blk_drewN ?_ _ | refine blk_drew ?_ | refine blk_alloc ?_ _)); exact BK390.out⟩, ⟨by repeat (first | (with_reducible first | exact HB.out | apply below_alloc | apply pw_below_drewN | apply below_drew1 | refine below_set ?_ GE379.out | refine below_set ?_ GE386.out | refine below_set ?_ GE390.out) | exact HB.out)⟩⟩
                                  case round =>
                                    clear H'
                                    try clear c1
                                    try clear c2
                                    try clear p2
                                    try clear c3
                                    try clear p3
                                    try clear q3
                                    try clear hx3
                                    try clear c4
                                    try clear c4b0
                                    try clear c5
                                    try clear c5b0
                                    try clear c6
                                    try clear p6
                                    try clear q6
                                    try clear hx6
                                    try clear c7
                                    try clear c7b0
                                    try clear c7b1
                                    try clear c8
                                    try clear c8b0
                                    try clear c8b1
                                    try clear c8b2
                                    try clear c9
                                    try clear c9b0
                                    try clear c9b1
                                    try clear c9b2
                                    try clear c17
                                    try clear c17b0
                                    try clear c17b1
                                    try clear c18
                                    try clear c18b0
                                    try clear c21
                                    try clear c22
                                    try clear c22b0
                                    try clear c23
                                    try clear c23b0
                                    try clear c23b1
                                    try clear c24
                                    try clear c24b0
                                    try clear c24b1
                                    try clear c29
                                    try clear c29b0
                                    try clear c30
                                    try clear c30b0
                                    try clear p31
                                    try clear q31
                                    try clear hx31
                                    try clear c32
                                    try clear c32b0
                                    try clear c32b1
                                    try clear c34
                                    try clear c34b0
                                    try clear c34b1
                                    try clear c35
                                    try clear c35b0
                                    try clear c35b1
                                    try clear c38
                                    try clear c41
                                    try clear c41b0
                                    try clear c47
                                    try clear c52
                                    try clear c53
                                    try clear c55
                                    try clear c55b0
                                    try clear c55b1
                                    try clear c56
                                    try clear c56b0
                                    try clear c56b1
                                    try clear c57
                                    try clear c57b0
                                    try clear c57b1
                                    try clear c58
                                    try clear c58b0
                                    try clear c59
                                    try clear c60
                                    try clear c62
                                    try clear p64
                                    try clear c65
                                    try clear c66
                                    try clear c68
                                    try clear c71
                                    try clear c72
                                    try clear c74
                                    try clear c77
                                    try clear hcz15_0
                                    try clear hcz15_1
                                    try clear hcz19_0
                                    try clear hcz19_1
                                    try clear hcz20_0
                                    try clear hcz20_1
                                    try clear hcz26_0
                                    try clear hcz26_1
                                    try clear hcz28_0
                                    try clear hcz28_1
                                    try clear hcz36_0
                                    try clear hcz36_1
                                    try clear hcz37_0
                                    try clear hcz37_1
                                    try clear hcz44_0
                                    try clear hcz44_1
                                    try clear hcz48_0
                                    try clear hcz48_1
                                    try clear hcz49_0
                                    try clear hcz49_1
                                    try clear hcz54_0
                                    try clear hcz54_1
                                    try clear hcz61_0
                                    try clear hcz61_1
                                    try clear hcz63_0
                                    try clear hcz63_1
                                    try clear hcz64_0
                                    try clear hcz64_1
                                    try clear hcz67_0
                                    try clear hcz67_1
                                    try clear hcz69_0
                                    try clear hcz69_1
                                    try clear hcz70_0
                                    try clear hcz70_1
                                    try clear hcz73_0
                                    try clear hcz73_1
                                    try clear hcz75_0
                                    try clear hcz75_1
                                    try clear hcz76_0
                                    try clear hcz76_1
                                    try clear hfz15_0
                                    try clear hfz15_1
                                    try clear hfz19_0
                                    try clear hfz19_1
                                    try clear hfz20_0
                                    try clear hfz20_1
                                    try clear hfz26_0
                                    try clear hfz26_1
                                    try clear hfz28_0
                                    try clear hfz28_1
                                    try clear hfz36_0
                                    try clear hfz36_1
                                    try clear hfz37_0
                                    try clear hfz37_1
                                    try clear hfz44_0
                                    try clear hfz44_1
                                    try clear hfz48_0
                                    try clear hfz48_1
                                    try clear hfz49_0
                                    try clear hfz49_1
                                    try clear hfz54_0
                                    try clear hfz54_1
                                    try clear hfz61_0
                                    try clear hfz61_1
                                    try clear hfz63_0
                                    try clear hfz63_1
                                    try clear hfz64_0
                                    try clear hfz64_1
                                    try clear hfz67_0
                                    try clear hfz67_1
                                    try clear hfz69_0
                                    try clear hfz69_1
                                    try clear hfz70_0
                                    try clear hfz70_1
                                    try clear hfz73_0
                                    try clear hfz73_1
                                    try clear hfz75_0
                                    try clear hfz75_1
                                    try clear hfz76_0
                                    try clear hfz76_1
                                    try clear p2
                                    try clear p3
                                    try clear p31
                                    try clear p6
                                    try clear p64
                                    try clear q3
                                    try clear q31
                                    try clear q6
                                    obtain ⟨x16_6, rfl, HA, HK6, BK379, BK386, BK390, HB⟩ := hrel
                                    cases gk with
                                    | zero => exact absurd HA.out (by simp [galloontop_TopCentral.l2])
                                    | succ k6 =>
                                      have H := HA.out
                                      clear HA
                                      simp only [galloontop_TopCentral.l2] at H
                                      by_cases c78 : x16_6 < (t380.size : Int)
                                      · rw [if_pos c78] at H
                                        have c78b0 : decide (x16_6 < (t380.size : Int)) = true := decide_eq_true c78
                                        clear c78
                                        by_cases c79 : x16_6 ≥ t384
                                        · rw [if_pos c79] at H
                                          have c79b0 : decide (t384 ≤ x16_6) = true := decide_eq_true c79
                                          clear c79
                                          by_cases c80 : 0 ≤ x16_6
                                          · rw [if_pos c80] at H
                                            have c80b0 : decide (0 ≤ x16_6) = true := decide_eq_true c80
                                            clear c80
                                            obtain ⟨ji82, hji82⟩ : ∃ j_ : Int, (wrap64 (x16_6 - t384)) = j_ := ⟨_, rfl⟩
                                            replace H : (if 0 ≤ (ji82) then (if (ji82) < (t380.size : Int) then (if (bt t380 x16_6) = (bt t380 (ji82)) then (if x16_6 ≥ t388 then (if 0 ≤ (wrap64 (x16_6 - t388)) then (if (wrap64 (x16_6 - t388)) < (t380.size : Int) then (if (bt t380 x16_6) = (bt t380 (wrap64 (x16_6 - t388))) then (galloontop_TopCentral.l2 k6 t380 (wrap64 (x16_6 + 1)) t383 t384 t387 t388) else (some false)) else (none)) else (none)) else (galloontop_TopCentral.l2 k6 t380 (wrap64 (x16_6 + 1)) t383 t384 t387 t388)) else (some false)) else (none)) else (none)) = some r := by first | (rw [hji82] at H; exact H) | (simp only [hji82] at H ⊢; exact H)
                                            have hji82w : (IntKind.i64.wrap (x16_6 - t384)) = ji82 := (i64_w _).trans hji82
                                            by_cases c83 : 0 ≤ (ji82)
                                            · rw [if_pos c83] at H
                                              have c83b0 : decide (0 ≤ (ji82)) = true := decide_eq_true c83
                                              clear c83
                                              by_cases c84 : (ji82) < (t380.size : Int)
                                              · rw [if_pos c84] at H
                                                have c84b0 : decide ((ji82) < (t380.size : Int)) = true := decide_eq_true c84
                                                clear c84
                                                by_cases c86 : (bt t380 x16_6) = (bt t380 (ji82))
                                                · rw [if_pos c86] at H
                                                  have c86b0 : ((bt t380 x16_6) == (bt t380 (ji82))) = true := beq_iff_eq.mpr c86
                                                  have c86b1 : ((bt t380 x16_6) != (bt t380 (ji82))) = false := bne_eq_false_iff_eq.mpr c86
                                                  clear c86
                                                  by_cases c87 : x16_6 ≥ t388
                                                  · rw [if_pos c87] at H
                                                    have c87b0 : decide (t388 ≤ x16_6) = true := decide_eq_true c87
                                                    clear c87
                                                    obtain ⟨ji89, hji89⟩ : ∃ j_ : Int, (wrap64 (x16_6 - t388)) = j_ := ⟨_, rfl⟩
                                                    replace H : (if 0 ≤ (ji89) then (if (ji89) < (t380.size : Int) then (if (bt t380 x16_6) = (bt t380 (ji89)) then (galloontop_TopCentral.l2 k6 t380 (wrap64 (x16_6 + 1)) t383 t384 t387 t388) else (some false)) else (none)) else (none)) = some r := by first | (rw [hji89] at H; exact H) | (simp only [hji89] at H ⊢; exact H)
                                                    have hji89w : (IntKind.i64.wrap (x16_6 - t388)) = ji89 := (i64_w _).trans hji89
                                                    by_cases c90 : 0 ≤ (ji89)
                                                    · rw [if_pos c90] at H
                                                      have c90b0 : decide (0 ≤ (ji89)) = true := decide_eq_true c90
                                                      clear c90
                                                      by_cases c91 : (ji89) < (t380.size : Int)
                                                      · rw [if_pos c91] at H
                                                        have c91b0 : decide ((ji89) < (t380.size : Int)) = true := decide_eq_true c91
                                                        clear c91
                                                        by_cases c93 : (bt t380 x16_6) = (bt t380 (ji89))
                                                        · rw [if_pos c93] at H
                                                          have c93b0 : ((bt t380 x16_6) == (bt t380 (ji89))) = true := beq_iff_eq.mpr c93
                                                          have c93b1 : ((bt t380 x16_6) != (bt t380 (ji89))) = false := bne_eq_false_iff_eq.mpr c93
                                                          clear c93
                                                          have H' := Aside0.mk H
                                                          clear H
                                                          have hnb94 := NB386_379.out
                                                          have hnc94 := NB379_386.out
                                                          have hnb95 := NB386_390.out
                                                          have hnc95 := NB390_386.out
                                                          have hcz96_0 : wr.cell? ⟨gb386, 0, none⟩ = some (.int .i64 t383) := (blk_cell BK386.out 0).trans rfl
                                                          have hcz96_1 : wr.cell? ⟨gb386, 1, none⟩ = some (.int .i64 t384) := (blk_cell BK386.out 1).trans rfl
                                                          have hfz96_0 := blk_frozen BK386.out 0
                                                          have hfz96_1 := blk_frozen BK386.out 1
                                                          have p81 : 0 ≤ (x16_6 : Int) := of_decide_eq_true (by first | (with_reducible assumption) | assumption)
                                                          have q81 : x16_6 < (t380.size : Int) := of_decide_eq_true (by first | (with_reducible assumption) | assumption)
                                                          have hx81 := bt_at t380 x16_6
                                                          replace p81 := eq_true p81
                                                          replace q81 := eq_true q81
                                                          have p85 : 0 ≤ ((ji82) : Int) := of_decide_eq_true (by first | (with_reducible assumption) | assumption)
                                                          have q85 : (ji82) < (t380.size : Int) := of_decide_eq_true (by first | (with_reducible assumption) | assumption)
                                                          have hx85 := bt_at t380 (ji82)
                                                          replace p85 := eq_true p85
                                                          replace q85 := eq_true q85
                                                          have hnb97 := NB390_379.out
                                                          have hnc97 := NB379_390.out
                                                          have hcz98_0 : wr.cell? ⟨gb390, 0, none⟩ = some (.int .i64 t387) := (blk_cell BK390.out 0).trans rfl
                                                          have hcz98_1 : wr.cell? ⟨gb390, 1, none⟩ = some (.int .i64 t388) := (blk_cell BK390.out 1).trans rfl
                                                          have hfz98_0 := blk_frozen BK390.out 0
                                                          have hfz98_1 := blk_frozen BK390.out 1
                                                          have p88 : 0 ≤ (x16_6 : Int) := of_decide_eq_true (by first | (with_reducible assumption) | assumption)
                                                          have q88 : x16_6 < (t380.size : Int) := of_decide_eq_true (by first | (with_reducible assumption) | assumption)
                                                          have hx88 := bt_at t380 x16_6
                                                          replace p88 := eq_true p88
                                                          replace q88 := eq_true q88
                                                          have p92 : 0 ≤ ((ji89) : Int) := of_decide_eq_true (by first | (with_reducible assumption) | assumption)
                                                          have q92 : (ji89) < (t380.size : Int) := of_decide_eq_true (by first | (with_reducible assumption) | assumption)
                                                          have hx92 := bt_at t380 (ji89)
                                                          replace p92 := eq_true p92
                                                          replace q92 := eq_true q92
                                                          go_wp2
                                                          repeat (go_quiet (fail); try go_wp2)
                                                          go_roundg k6
                                                          case measure => have := HK1.out; have := HJ11.out; have := HK3.out; have := HJ32.out; have := HJ42.out; have := HK6.out; omega
                                                          case rel => exact ⟨(wrap64 (x16_6 + 1)), (by first | rfl | (simp; done) | (simp [*]; done)), H', ⟨by have := HK1.out; have := HJ11.out; have := HK3.out; have := HJ32.out; have := HJ42.out; have := HK6.out; omega⟩, ⟨by (with_reducible repeat (first | refine blk_drewN ?_ _ | refine blk_drew ?_ | refine blk_alloc ?_ _)); exact BK379.out⟩, ⟨by (with_reducible repeat (first | refine blk_drewN ?_ _ | refine blk_drew ?_ | refine blk_alloc ?_ _)); exact BK386.out⟩, ⟨by (with_reducible repeat (first | refine blk_drewN ?_ _ | refine blk_drew ?_ | refine blk_alloc ?_ _)); exact BK390.out⟩, ⟨by repeat (first | (with_reducible first | exact HB.out | apply below_alloc | apply pw_below_drewN | apply below_drew1 | refine below_set ?_ GE379.out | refine below_set ?_ GE386.out | refine below_set ?_ GE390.out) | exact HB.out)⟩⟩
                                                        · rw [if_neg c93] at H
                                                          have c93b0 : ((bt t380 x16_6) == (bt t380 (ji89))) = false := beq_eq_false_iff_ne.mpr c93
                                                          have c93b1 : ((bt t380 x16_6) != (bt t380 (ji89))) = true := bne_iff_ne.mpr c93
                                                          obtain rfl := Option.some.inj H
                                                          exact absurd hr.out (by decide)
                                                      · rw [if_neg c91] at H
                                                        exact absurd H (by simp)
                                                    · rw [if_neg c90] at H
                                                      exact absurd H (by simp)
                                                  · rw [if_neg c87] at H
                                                    have c87b0 : decide (t388 ≤ x16_6) = false := decide_eq_false c87
                                                    clear c87
                                                    have H' := Aside0.mk H
                                                    clear H
                                                    have hnb99 := NB386_379.out
                                                    have hnc99 := NB379_386.out
                                                    have hnb100 := NB386_390.out
                                                    have hnc100 := NB390_386.out
                                                    have hcz101_0 : wr.cell? ⟨gb386, 0, none⟩ = some (.int .i64 t383) := (blk_cell BK386.out 0).trans rfl
                                                    have hcz101_1 : wr.cell? ⟨gb386, 1, none⟩ = some (.int .i64 t384) := (blk_cell BK386.out 1).trans rfl
                                                    have hfz101_0 := blk_frozen BK386.out 0
                                                    have hfz101_1 := blk_frozen BK386.out 1
                                                    have p81 : 0 ≤ (x16_6 : Int) := of_decide_eq_true (by first | (with_reducible assumption) | assumption)
                                                    have q81 : x16_6 < (t380.size : Int) := of_decide_eq_true (by first | (with_reducible assumption) | assumption)
                                                    have hx81 := bt_at t380 x16_6
                                                    replace p81 := eq_true p81
                                                    replace q81 := eq_true q81
                                                    have p85 : 0 ≤ ((ji82) : Int) := of_decide_eq_true (by first | (with_reducible assumption) | assumption)
                                                    have q85 : (ji82) < (t380.size : Int) := of_decide_eq_true (by first | (with_reducible assumption) | assumption)
                                                    have hx85 := bt_at t380 (ji82)
                                                    replace p85 := eq_true p85
                                                    replace q85 := eq_true q85
                                                    have hnb102 := NB390_379.out
                                                    have hnc102 := NB379_390.out
                                                    have hcz103_0 : wr.cell? ⟨gb390, 0, none⟩ = some (.int .i64 t387) := (blk_cell BK390.out 0).trans rfl
                                                    have hcz103_1 : wr.cell? ⟨gb390, 1, none⟩ = some (.int .i64 t388) := (blk_cell BK390.out 1).trans rfl
                                                    have hfz103_0 := blk_frozen BK390.out 0
                                                    have hfz103_1 := blk_frozen BK390.out 1
                                                    go_wp2
                                                    repeat (go_quiet (fail); try go_wp2)
                                                    go_roundg k6
                                                    case measure => have := HK1.out; have := HJ11.out; have := HK3.out; have := HJ32.out; have := HJ42.out; have := HK6.out; omega
                                                    case rel => exact ⟨(wrap64 (x16_6 + 1)), (by first | rfl | (simp; done) | (simp [*]; done)), H', ⟨by have := HK1.out; have := HJ11.out; have := HK3.out; have := HJ32.out; have := HJ42.out; have := HK6.out; omega⟩, ⟨by (with_reducible repeat (first | refine blk_drewN ?_ _ | refine blk_drew ?_ | refine blk_alloc ?_ _)); exact BK379.out⟩, ⟨by (with_reducible repeat (first | refine blk_drewN ?_ _ | refine blk_drew ?_ | refine blk_alloc ?_ _)); exact BK386.out⟩, ⟨by (with_reducible repeat (first | refine blk_drewN ?_ _ | refine blk_drew ?_ | refine blk_alloc ?_ _)); exact BK390.out⟩, ⟨by repeat (first | (with_reducible first | exact HB.out | apply below_alloc | apply pw_below_drewN | apply below_drew1 | refine below_set ?_ GE379.out | refine below_set ?_ GE386.out | refine below_set ?_ GE390.out) | exact HB.out)⟩⟩
                                                · rw [if_neg c86] at H
                                                  have c86b0 : ((bt t380 x16_6) == (bt t380 (ji82))) = false := beq_eq_false_iff_ne.mpr c86
                                                  have c86b1 : ((bt t380 x16_6) != (bt t380 (ji82))) = true := bne_iff_ne.mpr c86
                                                  obtain rfl := Option.some.inj H
                                                  exact absurd hr.out (by decide)
                                              · rw [if_neg c84] at H
                                                exact absurd H (by simp)
                                            · rw [if_neg c83] at H
                                              exact absurd H (by simp)
                                          · rw [if_neg c80] at H
                                            exact absurd H (by simp)
                                        · rw [if_neg c79] at H
                                          have c79b0 : decide (t384 ≤ x16_6) = false := decide_eq_false c79
                                          clear c79
                                          by_cases c104 : x16_6 ≥ t388
                                          · rw [if_pos c104] at H
                                            have c104b0 : decide (t388 ≤ x16_6) = true := decide_eq_true c104
                                            clear c104
                                            by_cases c105 : 0 ≤ x16_6
                                            · rw [if_pos c105] at H
                                              have c105b0 : decide (0 ≤ x16_6) = true := decide_eq_true c105
                                              clear c105
                                              obtain ⟨ji107, hji107⟩ : ∃ j_ : Int, (wrap64 (x16_6 - t388)) = j_ := ⟨_, rfl⟩
                                              replace H : (if 0 ≤ (ji107) then (if (ji107) < (t380.size : Int) then (if (bt t380 x16_6) = (bt t380 (ji107)) then (galloontop_TopCentral.l2 k6 t380 (wrap64 (x16_6 + 1)) t383 t384 t387 t388) else (some false)) else (none)) else (none)) = some r := by first | (rw [hji107] at H; exact H) | (simp only [hji107] at H ⊢; exact H)
                                              have hji107w : (IntKind.i64.wrap (x16_6 - t388)) = ji107 := (i64_w _).trans hji107
                                              by_cases c108 : 0 ≤ (ji107)
                                              · rw [if_pos c108] at H
                                                have c108b0 : decide (0 ≤ (ji107)) = true := decide_eq_true c108
                                                clear c108
                                                by_cases c109 : (ji107) < (t380.size : Int)
                                                · rw [if_pos c109] at H
                                                  have c109b0 : decide ((ji107) < (t380.size : Int)) = true := decide_eq_true c109
                                                  clear c109
                                                  by_cases c111 : (bt t380 x16_6) = (bt t380 (ji107))
                                                  · rw [if_pos c111] at H
                                                    have c111b0 : ((bt t380 x16_6) == (bt t380 (ji107))) = true := beq_iff_eq.mpr c111
                                                    have c111b1 : ((bt t380 x16_6) != (bt t380 (ji107))) = false := bne_eq_false_iff_eq.mpr c111
                                                    clear c111
                                                    have H' := Aside0.mk H
                                                    clear H
                                                    have hnb112 := NB386_379.out
                                                    have hnc112 := NB379_386.out
                                                    have hnb113 := NB386_390.out
                                                    have hnc113 := NB390_386.out
                                                    have hcz114_0 : wr.cell? ⟨gb386, 0, none⟩ = some (.int .i64 t383) := (blk_cell BK386.out 0).trans rfl
                                                    have hcz114_1 : wr.cell? ⟨gb386, 1, none⟩ = some (.int .i64 t384) := (blk_cell BK386.out 1).trans rfl
                                                    have hfz114_0 := blk_frozen BK386.out 0
                                                    have hfz114_1 := blk_frozen BK386.out 1
                                                    have hnb115 := NB390_379.out
                                                    have hnc115 := NB379_390.out
                                                    have hcz116_0 : wr.cell? ⟨gb390, 0, none⟩ = some (.int .i64 t387) := (blk_cell BK390.out 0).trans rfl
                                                    have hcz116_1 : wr.cell? ⟨gb390, 1, none⟩ = some (.int .i64 t388) := (blk_cell BK390.out 1).trans rfl
                                                    have hfz116_0 := blk_frozen BK390.out 0
                                                    have hfz116_1 := blk_frozen BK390.out 1
                                                    have p106 : 0 ≤ (x16_6 : Int) := of_decide_eq_true (by first | (with_reducible assumption) | assumption)
                                                    have q106 : x16_6 < (t380.size : Int) := of_decide_eq_true (by first | (with_reducible assumption) | assumption)
                                                    have hx106 := bt_at t380 x16_6
                                                    replace p106 := eq_true p106
                                                    replace q106 := eq_true q106
                                                    have p110 : 0 ≤ ((ji107) : Int) := of_decide_eq_true (by first | (with_reducible assumption) | assumption)
                                                    have q110 : (ji107) < (t380.size : Int) := of_decide_eq_true (by first | (with_reducible assumption) | assumption)
                                                    have hx110 := bt_at t380 (ji107)
                                                    replace p110 := eq_true p110
                                                    replace q110 := eq_true q110
                                                    go_wp2
                                                    repeat (go_quiet (fail); try go_wp2)
                                                    go_roundg k6
                                                    case measure => have := HK1.out; have := HJ11.out; have := HK3.out; have := HJ32.out; have := HJ42.out; have := HK6.out; omega
                                                    case rel => exact ⟨(wrap64 (x16_6 + 1)), (by first | rfl | (simp; done) | (simp [*]; done)), H', ⟨by have := HK1.out; have := HJ11.out; have := HK3.out; have := HJ32.out; have := HJ42.out; have := HK6.out; omega⟩, ⟨by (with_reducible repeat (first | refine blk_drewN ?_ _ | refine blk_drew ?_ | refine blk_alloc ?_ _)); exact BK379.out⟩, ⟨by (with_reducible repeat (first | refine blk_drewN ?_ _ | refine blk_drew ?_ | refine blk_alloc ?_ _)); exact BK386.out⟩, ⟨by (with_reducible repeat (first | refine blk_drewN ?_ _ | refine blk_drew ?_ | refine blk_alloc ?_ _)); exact BK390.out⟩, ⟨by repeat (first | (with_reducible first | exact HB.out | apply below_alloc | apply pw_below_drewN | apply below_drew1 | refine below_set ?_ GE379.out | refine below_set ?_ GE386.out | refine below_set ?_ GE390.out) | exact HB.out)⟩⟩
                                                  · rw [if_neg c111] at H
                                                    have c111b0 : ((bt t380 x16_6) == (bt t380 (ji107))) = false := beq_eq_false_iff_ne.mpr c111
                                                    have c111b1 : ((bt t380 x16_6) != (bt t380 (ji107))) = true := bne_iff_ne.mpr c111
                                                    obtain rfl := Option.some.inj H
                                                    exact absurd hr.out (by decide)
                                                · rw [if_neg c109] at H
                                                  exact absurd H (by simp)
                                              · rw [if_neg c108] at H
                                                exact absurd H (by simp)
                                            · rw [if_neg c105] at H
                                              exact absurd H (by simp)
                                          · rw [if_neg c104] at H
                                            have c104b0 : decide (t388 ≤ x16_6) = false := decide_eq_false c104
                                            clear c104
                                            have H' := Aside0.mk H
                                            clear H
                                            have hnb117 := NB386_379.out
                                            have hnc117 := NB379_386.out
                                            have hnb118 := NB386_390.out
                                            have hnc118 := NB390_386.out
                                            have hcz119_0 : wr.cell? ⟨gb386, 0, none⟩ = some (.int .i64 t383) := (blk_cell BK386.out 0).trans rfl
                                            have hcz119_1 : wr.cell? ⟨gb386, 1, none⟩ = some (.int .i64 t384) := (blk_cell BK386.out 1).trans rfl
                                            have hfz119_0 := blk_frozen BK386.out 0
                                            have hfz119_1 := blk_frozen BK386.out 1
                                            have hnb120 := NB390_379.out
                                            have hnc120 := NB379_390.out
                                            have hcz121_0 : wr.cell? ⟨gb390, 0, none⟩ = some (.int .i64 t387) := (blk_cell BK390.out 0).trans rfl
                                            have hcz121_1 : wr.cell? ⟨gb390, 1, none⟩ = some (.int .i64 t388) := (blk_cell BK390.out 1).trans rfl
                                            have hfz121_0 := blk_frozen BK390.out 0
                                            have hfz121_1 := blk_frozen BK390.out 1
                                            go_wp2
                                            repeat (go_quiet (fail); try go_wp2)
                                            go_roundg k6
                                            case measure => have := HK1.out; have := HJ11.out; have := HK3.out; have := HJ32.out; have := HJ42.out; have := HK6.out; omega
                                            case rel => exact ⟨(wrap64 (x16_6 + 1)), (by first | rfl | (simp; done) | (simp [*]; done)), H', ⟨by have := HK1.out; have := HJ11.out; have := HK3.out; have := HJ32.out; have := HJ42.out; have := HK6.out; omega⟩, ⟨by (with_reducible repeat (first | refine blk_drewN ?_ _ | refine blk_drew ?_ | refine blk_alloc ?_ _)); exact BK379.out⟩, ⟨by (with_reducible repeat (first | refine blk_drewN ?_ _ | refine blk_drew ?_ | refine blk_alloc ?_ _)); exact BK386.out⟩, ⟨by (with_reducible repeat (first | refine blk_drewN ?_ _ | refine blk_drew ?_ | refine blk_alloc ?_ _)); exact BK390.out⟩, ⟨by repeat (first | (with_reducible first | exact HB.out | apply below_alloc | apply pw_below_drewN | apply below_drew1 | refine below_set ?_ GE379.out | refine below_set ?_ GE386.out | refine below_set ?_ GE390.out) | exact HB.out)⟩⟩
                                      · rw [if_neg c78] at H
                                        have c78b0 : decide (x16_6 < (t380.size : Int)) = false := decide_eq_false c78
                                        clear c78
                                        replace H := Option.bind_eq_some_iff.mp H
                                        obtain ⟨t391, A1220, H⟩ := H
                                        replace H : (some t391) = some r := H
                                        have A122 := Aside0.mk A1220
                                        clear A1220
                                        obtain rfl := Option.some.inj H
                                        go_wp2_with (first | (go_at_call 44; (with_reducible refine (galloontop_three.calls k6  t391 _ A122.out).mono ?_); rintro e w123 ⟨rfl, hb⟩; have n0_ := Aside0.mk (blk_below (g := gb379) (o := .cells #[.int .i64 t376, .int .i64 t377] 23 (0, 0)) (by (with_reducible repeat (first | refine blk_drewN ?_ _ | refine blk_drew ?_ | refine blk_alloc ?_ _)); exact BK379.out) hb); have n1_ := Aside0.mk (blk_below (g := gb386) (o := .cells #[.int .i64 t383, .int .i64 t384] 23 (0, 0)) (by (with_reducible repeat (first | refine blk_drewN ?_ _ | refine blk_drew ?_ | refine blk_alloc ?_ _)); exact BK386.out) hb); have n2_ := Aside0.mk (blk_below (g := gb390) (o := .cells #[.int .i64 t387, .int .i64 t388] 23 (0, 0)) (by (with_reducible repeat (first | refine blk_drewN ?_ _ | refine blk_drew ?_ | refine blk_alloc ?_ _)); exact BK390.out) hb); have n3_ := Aside0.mk (below_step (by repeat (first | (with_reducible first | exact HB.out | apply below_alloc | apply pw_below_drewN | apply below_drew1 | refine below_set ?_ GE379.out | refine below_set ?_ GE386.out | refine below_set ?_ GE390.out) | exact HB.out)) hb); clear BK379; clear BK386; clear BK390; clear HB; have BK379 := n0_; have BK386 := n1_; have BK390 := n2_; have HB := n3_; clear n0_ n1_ n2_ n3_; (try clear hb); (try clear hb2); (try clear hk); (try clear hi)))
                                        repeat (go_quiet (first | (go_at_call 44; (with_reducible refine (galloontop_three.calls k6  t391 _ A122.out).mono ?_); rintro e w123 ⟨rfl, hb⟩; have n0_ := Aside0.mk (blk_below (g := gb379) (o := .cells #[.int .i64 t376, .int .i64 t377] 23 (0, 0)) (by (with_reducible repeat (first | refine blk_drewN ?_ _ | refine blk_drew ?_ | refine blk_alloc ?_ _)); exact BK379.out) hb); have n1_ := Aside0.mk (blk_below (g := gb386) (o := .cells #[.int .i64 t383, .int .i64 t384] 23 (0, 0)) (by (with_reducible repeat (first | refine blk_drewN ?_ _ | refine blk_drew ?_ | refine blk_alloc ?_ _)); exact BK386.out) hb); have n2_ := Aside0.mk (blk_below (g := gb390) (o := .cells #[.int .i64 t387, .int .i64 t388] 23 (0, 0)) (by (with_reducible repeat (first | refine blk_drewN ?_ _ | refine blk_drew ?_ | refine blk_alloc ?_ _)); exact BK390.out) hb); have n3_ := Aside0.mk (below_step (by repeat (first | (with_reducible first | exact HB.out | apply below_alloc | apply pw_below_drewN | apply below_drew1 | refine below_set ?_ GE379.out | refine below_set ?_ GE386.out | refine below_set ?_ GE390.out) | exact HB.out)) hb); clear BK379; clear BK386; clear BK390; clear HB; have BK379 := n0_; have BK386 := n1_; have BK390 := n2_; have HB := n3_; clear n0_ n1_ n2_ n3_; (try clear hb); (try clear hb2); (try clear hk); (try clear hi))); try go_wp2_with (first | (go_at_call 44; (with_reducible refine (galloontop_three.calls k6  t391 _ A122.out).mono ?_); rintro e w123 ⟨rfl, hb⟩; have n0_ := Aside0.mk (blk_below (g := gb379) (o := .cells #[.int .i64 t376, .int .i64 t377] 23 (0, 0)) (by (with_reducible repeat (first | refine blk_drewN ?_ _ | refine blk_drew ?_ | refine blk_alloc ?_ _)); exact BK379.out) hb); have n1_ := Aside0.mk (blk_below (g := gb386) (o := .cells #[.int .i64 t383, .int .i64 t384] 23 (0, 0)) (by (with_reducible repeat (first | refine blk_drewN ?_ _ | refine blk_drew ?_ | refine blk_alloc ?_ _)); exact BK386.out) hb); have n2_ := Aside0.mk (blk_below (g := gb390) (o := .cells #[.int .i64 t387, .int .i64 t388] 23 (0, 0)) (by (with_reducible repeat (first | refine blk_drewN ?_ _ | refine blk_drew ?_ | refine blk_alloc ?_ _)); exact BK390.out) hb); have n3_ := Aside0.mk (below_step (by repeat (first | (with_reducible first | exact HB.out | apply below_alloc | apply pw_below_drewN | apply below_drew1 | refine below_set ?_ GE379.out | refine below_set ?_ GE386.out | refine below_set ?_ GE390.out) | exact HB.out)) hb); clear BK379; clear BK386; clear BK390; clear HB; have BK379 := n0_; have BK386 := n1_; have BK390 := n2_; have HB := n3_; clear n0_ n1_ n2_ n3_; (try clear hb); (try clear hb2); (try clear hk); (try clear hi))))
                                        go_ret
                                        exact ⟨by first | rfl | (simp [errW_none, errW_some] <;> rfl) | (simp only [← hji39]; first | rfl | (simp [errW_none, errW_some] <;> rfl)) | (simp [*, errW_none, errW_some] <;> rfl), by repeat (first | (with_reducible first | exact HB.out | apply below_alloc | apply pw_below_drewN | apply below_drew1 | refine below_set ?_ GE379.out | refine below_set ?_ GE386.out | refine below_set ?_ GE390.out) | exact HB.out)⟩

/-- THE ONE PURE STATEMENT of galloontop_TopCentral: yours. -/
def galloontop_TopCentral.Pure : Prop := ∀ (a0 : ByteArray), a0.size ≤ 140737488351232 → ∃ k, galloontop_TopCentral.f k a0 = some true
theorem galloontop_TopCentral.walk (P : galloontop_TopCentral.Pure) (a0 : ByteArray) (w : World) (w0 : a0.size ≤ 140737488351232) :
    Calls Try.prog 9 #[.string a0] w fun e w' => e = .returned (.bool true) ∧ Below w.heap.size w w' := by
  obtain ⟨k, h⟩ := P a0 w0
  refine (galloontop_TopCentral.calls k a0 true w h ⟨rfl⟩).mono ?_
  rintro e w' ⟨rfl, hd⟩
  exact ⟨rfl, hd⟩

end Go.Proofs.Ythjodhmkmjabbaa.PY
