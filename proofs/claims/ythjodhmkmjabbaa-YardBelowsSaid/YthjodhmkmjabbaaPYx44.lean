-- Made by the session's own driver (wip/tools/p2.py) out of the translation; Lean checks it.
import Derived.Test.YthjodhmkmjabbaaSq
import Derived.Test.YthjodhmkmjabbaaPYx0
import Derived.Test.YthjodhmkmjabbaaPYx1
import Derived.Test.YthjodhmkmjabbaaPYx4
import Derived.Test.YthjodhmkmjabbaaPYx7
import Derived.Test.YthjodhmkmjabbaaPYx16
import Derived.Test.YthjodhmkmjabbaaPYx25
import Derived.Test.YthjodhmkmjabbaaPYx27
import Derived.Test.YthjodhmkmjabbaaPYx36
import Derived.Test.YthjodhmkmjabbaaPYx38
import Derived.Test.YthjodhmkmjabbaaPYx39
import Derived.Test.YthjodhmkmjabbaaPYx40
import Derived.Test.YthjodhmkmjabbaaPYx41
import Derived.Test.YthjodhmkmjabbaaPYx42
import Derived.Test.YthjodhmkmjabbaaPYx43
import Derived.Test.YthjodhmkmjabbaaGTouching
namespace Go.Proofs.Ythjodhmkmjabbaa.PY
open Go.RowKit Go.Proofs.YthjodhmkmjabbaaW.PrintWords Go.Proofs.YthjodhmkmjabbaaW.PrintLast Go.Proofs.YthjodhmkmjabbaaW.PrintMore
attribute [local go_sem] max2_int min2_int max_two min_two max_three min_three max_four min_four   -- for this text's walks alone
set_option linter.unusedVariables false
set_option linter.unusedSimpArgs false
attribute [local go_sem high] eqA23
/-! ### galloonlaw03_YardBelows: function 16 -/
mutual
def galloonlaw03_YardBelows.j0 : Nat → Int → Int → Int → Int → Int → Int → List (S23) → Int → Bool → Int → Int → Int → Int → Int → Int → Int → Int → Option (Bool)
 | 0, _, _, _, _, _, _, _, _, _, _, _, _, _, _, _, _, _ => none
 | k + 1, x0, x5, x6, x8, x10, x12, x13, x14, x56, x678000, x678001, x684000, x684001, x688000, x688001, x692000, x692001 => if x56 = true then (if x5 = 0 then (if x6 = 2 then (if (x684000 == 0 && (x684001 == 0)) = true then (if x8 = 2 then (if (x688000 == 0 && (x688001 == 0)) = true then (if x10 = 2 then (if (x692000 == 0 && (x692001 == 0)) = true then (if x12 = 2 then (if (x13.length : Int) = 0 then (if x14 = 2 then ((galloonlaw03_awake.f k).bind fun t698 => (some t698)) else (some false)) else (some false)) else (some false)) else (some false)) else (some false)) else (some false)) else (some false)) else (some false)) else (some false)) else (some false)) else ((galloonref03_Next.f k x0 x678000 x678001).bind fun bt699 => ((galloonref03_Before.f k x0 x678000 x678001).bind fun bt703 => ((galloonref03_Below.f k x0 x678000 x678001).bind fun t707 => (if x5 = t707 then (if x6 = 0 then (if (!(x684000 == bt699.1) || (!(x684001 == bt699.2.1))) = true then (galloonlaw03_YardBelows.j1 k x0 x12 x13 x14 true x678000 x678001 x692000 x692001) else (if bt699.2.2 = true then (if x8 = 0 then (if (!(x688000 == bt703.1) || (!(x688001 == bt703.2.1))) = true then (galloonlaw03_YardBelows.j1 k x0 x12 x13 x14 true x678000 x678001 x692000 x692001) else (if bt703.2.2 = true then (if x10 = 0 then (galloonlaw03_YardBelows.j1 k x0 x12 x13 x14 false x678000 x678001 x692000 x692001) else (galloonlaw03_YardBelows.j1 k x0 x12 x13 x14 true x678000 x678001 x692000 x692001)) else (galloonlaw03_YardBelows.j1 k x0 x12 x13 x14 (x10 != 6) x678000 x678001 x692000 x692001))) else (galloonlaw03_YardBelows.j1 k x0 x12 x13 x14 true x678000 x678001 x692000 x692001)) else (if x8 = 6 then (if (!(x688000 == bt703.1) || (!(x688001 == bt703.2.1))) = true then (galloonlaw03_YardBelows.j1 k x0 x12 x13 x14 true x678000 x678001 x692000 x692001) else (if bt703.2.2 = true then (if x10 = 0 then (galloonlaw03_YardBelows.j1 k x0 x12 x13 x14 false x678000 x678001 x692000 x692001) else (galloonlaw03_YardBelows.j1 k x0 x12 x13 x14 true x678000 x678001 x692000 x692001)) else (galloonlaw03_YardBelows.j1 k x0 x12 x13 x14 (x10 != 6) x678000 x678001 x692000 x692001))) else (galloonlaw03_YardBelows.j1 k x0 x12 x13 x14 true x678000 x678001 x692000 x692001)))) else (galloonlaw03_YardBelows.j1 k x0 x12 x13 x14 true x678000 x678001 x692000 x692001)) else (galloonlaw03_YardBelows.j1 k x0 x12 x13 x14 true x678000 x678001 x692000 x692001)))))
def galloonlaw03_YardBelows.j1 : Nat → Int → Int → List (S23) → Int → Bool → Int → Int → Int → Int → Option (Bool)
 | 0, _, _, _, _, _, _, _, _, _ => none
 | k + 1, x0, x12, x13, x14, x162, x678000, x678001, x692000, x692001 => if x162 = true then (some false) else ((galloonref03_Nearest.f k x0 x678000 x678001).bind fun bt708 => (if (!(x692000 == bt708.1) || (!(x692001 == bt708.2))) = true then (galloonlaw03_YardBelows.j2 k x0 x13 x14 true x678000 x678001) else (galloonlaw03_YardBelows.j2 k x0 x13 x14 (x12 != 0) x678000 x678001)))
def galloonlaw03_YardBelows.j2 : Nat → Int → List (S23) → Int → Bool → Int → Int → Option (Bool)
 | 0, _, _, _, _, _, _ => none
 | k + 1, x0, x13, x14, x171, x678000, x678001 => if x171 = true then (some false) else (if x678001 > x0 then (if (x13.length : Int) = 0 then (if x14 = 2 then ((galloonlaw03_awake.f k).bind fun t710 => (some t710)) else (some false)) else (some false)) else ((galloonref03_Touching.f k x0 x678000 x678001).bind fun t711 => ((galloonlaw03_fracs.f k x13 t711).bind fun t714 => (if t714 = true then (if x14 = 0 then ((galloonlaw03_awake.f k).bind fun t715 => (some t715)) else (some false)) else (some false)))))
end
def galloonlaw03_YardBelows.f (k : Nat) (a0 : Int) (a1_0 : Int) (a1_1 : Int) : Option (Bool) := (yard_Below.f k a0 a1_0 a1_1).bind fun bt678 => ((yard_Next.f k a0 a1_0 a1_1).bind fun bt680 => ((yard_Before.f k a0 a1_0 a1_1).bind fun bt684 => ((yard_Nearest.f k a0 a1_0 a1_1).bind fun bt688 => ((yard_Touching.f k a0 a1_0 a1_1).bind fun bt692 => ((galloonlaw03_row.f a0).bind fun t696 => (if t696 = true then ((galloonref03_Valid.f k a1_0 a1_1).bind fun t697 => (galloonlaw03_YardBelows.j0 k a0 bt678.1 bt678.2 bt680.2.2 bt684.2.2 bt688.2.2 bt692.1 bt692.2 (!t697) a1_0 a1_1 bt680.1 bt680.2.1 bt684.1 bt684.2.1 bt688.1 bt688.2.1)) else (galloonlaw03_YardBelows.j0 k a0 bt678.1 bt678.2 bt680.2.2 bt684.2.2 bt688.2.2 bt692.1 bt692.2 true a1_0 a1_1 bt680.1 bt680.2.1 bt684.1 bt684.2.1 bt688.1 bt688.2.1)))))))
theorem galloonlaw03_YardBelows.j1_bad {k : Nat} {x0 : Int} {x12 : Int} {x13 : List (S23)} {x14 : Int} {x678000 : Int} {x678001 : Int} {x692000 : Int} {x692001 : Int} {r : Bool} (h : galloonlaw03_YardBelows.j1 k x0 x12 x13 x14 true x678000 x678001 x692000 x692001 = some r) : r = false := by
 cases k with
 | zero => exact absurd h (by simp [galloonlaw03_YardBelows.j1])
 | succ k =>
  simp only [galloonlaw03_YardBelows.j1] at h
  rw [if_pos trivial] at h
  exact (Option.some.inj h).symm
theorem galloonlaw03_YardBelows.j2_bad {k : Nat} {x0 : Int} {x13 : List (S23)} {x14 : Int} {x678000 : Int} {x678001 : Int} {r : Bool} (h : galloonlaw03_YardBelows.j2 k x0 x13 x14 true x678000 x678001 = some r) : r = false := by
 cases k with
 | zero => exact absurd h (by simp [galloonlaw03_YardBelows.j2])
 | succ k =>
  simp only [galloonlaw03_YardBelows.j2] at h
  rw [if_pos trivial] at h
  exact (Option.some.inj h).symm
theorem galloonlaw03_YardBelows.mono_l : ∀ k, (∀ y0 y1 y2 y3 y4 y5 y6 y7 y8 y9 y10 y11 y12 y13 y14 y15 y16, LeO (galloonlaw03_YardBelows.j0 k y0 y1 y2 y3 y4 y5 y6 y7 y8 y9 y10 y11 y12 y13 y14 y15 y16) (galloonlaw03_YardBelows.j0 (k + 1) y0 y1 y2 y3 y4 y5 y6 y7 y8 y9 y10 y11 y12 y13 y14 y15 y16)) ∧ (∀ y0 y1 y2 y3 y4 y5 y6 y7 y8, LeO (galloonlaw03_YardBelows.j1 k y0 y1 y2 y3 y4 y5 y6 y7 y8) (galloonlaw03_YardBelows.j1 (k + 1) y0 y1 y2 y3 y4 y5 y6 y7 y8)) ∧ (∀ y0 y1 y2 y3 y4 y5, LeO (galloonlaw03_YardBelows.j2 k y0 y1 y2 y3 y4 y5) (galloonlaw03_YardBelows.j2 (k + 1) y0 y1 y2 y3 y4 y5))
 | 0 => ⟨fun _ _ _ _ _ _ _ _ _ _ _ _ _ _ _ _ _ r h => by simp [galloonlaw03_YardBelows.j0] at h, fun _ _ _ _ _ _ _ _ _ r h => by simp [galloonlaw03_YardBelows.j1] at h, fun _ _ _ _ _ _ r h => by simp [galloonlaw03_YardBelows.j2] at h⟩
 | k + 1 => by
  obtain ⟨ih0, ih1, ih2⟩ := galloonlaw03_YardBelows.mono_l k
  refine ⟨?_, ?_, ?_⟩
  ·intro y0 y1 y2 y3 y4 y5 y6 y7 y8 y9 y10 y11 y12 y13 y14 y15 y16
   unfold galloonlaw03_YardBelows.j0
   repeat' first
   | (with_reducible exact ih0 _ _ _ _ _ _ _ _ _ _ _ _ _ _ _ _ _)
   | (with_reducible exact ih1 _ _ _ _ _ _ _ _ _)
   | (with_reducible exact ih2 _ _ _ _ _ _)
   | (with_reducible exact galloonlaw03_awake.mono _)
   | (with_reducible exact galloonlaw03_fracs.mono _ _ _)
   | (with_reducible exact galloonref03_Before.mono _ _ _ _)
   | (with_reducible exact galloonref03_Below.mono _ _ _ _)
   | (with_reducible exact galloonref03_Nearest.mono _ _ _ _)
   | (with_reducible exact galloonref03_Next.mono _ _ _ _)
   | (with_reducible exact galloonref03_Touching.mono _ _ _ _)
   | (with_reducible exact galloonref03_Valid.mono _ _ _)
   | (with_reducible exact yard_Before.mono _ _ _ _)
   | (with_reducible exact yard_Below.mono _ _ _ _)
   | (with_reducible exact yard_Nearest.mono _ _ _ _)
   | (with_reducible exact yard_Next.mono _ _ _ _)
   | (with_reducible exact yard_Touching.mono _ _ _ _)
   | (with_reducible exact LeO.refl _)
   | (with_reducible exact LeO.none _)
   | (with_reducible refine LeO.ite ?_ ?_)
   | (with_reducible refine LeO.bind ?_ (fun _ => ?_))
   | exact ih0 _ _ _ _ _ _ _ _ _ _ _ _ _ _ _ _ _
   | exact ih1 _ _ _ _ _ _ _ _ _
   | exact ih2 _ _ _ _ _ _
   | exact galloonlaw03_awake.mono _
   | exact galloonlaw03_fracs.mono _ _ _
   | exact galloonref03_Before.mono _ _ _ _
   | exact galloonref03_Below.mono _ _ _ _
   | exact galloonref03_Nearest.mono _ _ _ _
   | exact galloonref03_Next.mono _ _ _ _
   | exact galloonref03_Touching.mono _ _ _ _
   | exact galloonref03_Valid.mono _ _ _
   | exact yard_Before.mono _ _ _ _
   | exact yard_Below.mono _ _ _ _
   | exact yard_Nearest.mono _ _ _ _
   | exact yard_Next.mono _ _ _ _
   | exact yard_Touching.mono _ _ _ _
   | exact LeO.none _
   | refine LeO.ite ?_ ?_
   | refine LeO.bind ?_ (fun _ => ?_)
  ·intro y0 y1 y2 y3 y4 y5 y6 y7 y8
   unfold galloonlaw03_YardBelows.j1
   repeat' first
   | (with_reducible exact ih0 _ _ _ _ _ _ _ _ _ _ _ _ _ _ _ _ _)
   | (with_reducible exact ih1 _ _ _ _ _ _ _ _ _)
   | (with_reducible exact ih2 _ _ _ _ _ _)
   | (with_reducible exact galloonlaw03_awake.mono _)
   | (with_reducible exact galloonlaw03_fracs.mono _ _ _)
   | (with_reducible exact galloonref03_Before.mono _ _ _ _)
   | (with_reducible exact galloonref03_Below.mono _ _ _ _)
   | (with_reducible exact galloonref03_Nearest.mono _ _ _ _)
   | (with_reducible exact galloonref03_Next.mono _ _ _ _)
   | (with_reducible exact galloonref03_Touching.mono _ _ _ _)
   | (with_reducible exact galloonref03_Valid.mono _ _ _)
   | (with_reducible exact yard_Before.mono _ _ _ _)
   | (with_reducible exact yard_Below.mono _ _ _ _)
   | (with_reducible exact yard_Nearest.mono _ _ _ _)
   | (with_reducible exact yard_Next.mono _ _ _ _)
   | (with_reducible exact yard_Touching.mono _ _ _ _)
   | (with_reducible exact LeO.refl _)
   | (with_reducible exact LeO.none _)
   | (with_reducible refine LeO.ite ?_ ?_)
   | (with_reducible refine LeO.bind ?_ (fun _ => ?_))
   | exact ih0 _ _ _ _ _ _ _ _ _ _ _ _ _ _ _ _ _
   | exact ih1 _ _ _ _ _ _ _ _ _
   | exact ih2 _ _ _ _ _ _
   | exact galloonlaw03_awake.mono _
   | exact galloonlaw03_fracs.mono _ _ _
   | exact galloonref03_Before.mono _ _ _ _
   | exact galloonref03_Below.mono _ _ _ _
   | exact galloonref03_Nearest.mono _ _ _ _
   | exact galloonref03_Next.mono _ _ _ _
   | exact galloonref03_Touching.mono _ _ _ _
   | exact galloonref03_Valid.mono _ _ _
   | exact yard_Before.mono _ _ _ _
   | exact yard_Below.mono _ _ _ _
   | exact yard_Nearest.mono _ _ _ _
   | exact yard_Next.mono _ _ _ _
   | exact yard_Touching.mono _ _ _ _
   | exact LeO.none _
   | refine LeO.ite ?_ ?_
   | refine LeO.bind ?_ (fun _ => ?_)
  ·intro y0 y1 y2 y3 y4 y5
   unfold galloonlaw03_YardBelows.j2
   repeat' first
   | (with_reducible exact ih0 _ _ _ _ _ _ _ _ _ _ _ _ _ _ _ _ _)
   | (with_reducible exact ih1 _ _ _ _ _ _ _ _ _)
   | (with_reducible exact ih2 _ _ _ _ _ _)
   | (with_reducible exact galloonlaw03_awake.mono _)
   | (with_reducible exact galloonlaw03_fracs.mono _ _ _)
   | (with_reducible exact galloonref03_Before.mono _ _ _ _)
   | (with_reducible exact galloonref03_Below.mono _ _ _ _)
   | (with_reducible exact galloonref03_Nearest.mono _ _ _ _)
   | (with_reducible exact galloonref03_Next.mono _ _ _ _)
   | (with_reducible exact galloonref03_Touching.mono _ _ _ _)
   | (with_reducible exact galloonref03_Valid.mono _ _ _)
   | (with_reducible exact yard_Before.mono _ _ _ _)
   | (with_reducible exact yard_Below.mono _ _ _ _)
   | (with_reducible exact yard_Nearest.mono _ _ _ _)
   | (with_reducible exact yard_Next.mono _ _ _ _)
   | (with_reducible exact yard_Touching.mono _ _ _ _)
   | (with_reducible exact LeO.refl _)
   | (with_reducible exact LeO.none _)
   | (with_reducible refine LeO.ite ?_ ?_)
   | (with_reducible refine LeO.bind ?_ (fun _ => ?_))
   | exact ih0 _ _ _ _ _ _ _ _ _ _ _ _ _ _ _ _ _
   | exact ih1 _ _ _ _ _ _ _ _ _
   | exact ih2 _ _ _ _ _ _
   | exact galloonlaw03_awake.mono _
   | exact galloonlaw03_fracs.mono _ _ _
   | exact galloonref03_Before.mono _ _ _ _
   | exact galloonref03_Below.mono _ _ _ _
   | exact galloonref03_Nearest.mono _ _ _ _
   | exact galloonref03_Next.mono _ _ _ _
   | exact galloonref03_Touching.mono _ _ _ _
   | exact galloonref03_Valid.mono _ _ _
   | exact yard_Before.mono _ _ _ _
   | exact yard_Below.mono _ _ _ _
   | exact yard_Nearest.mono _ _ _ _
   | exact yard_Next.mono _ _ _ _
   | exact yard_Touching.mono _ _ _ _
   | exact LeO.none _
   | refine LeO.ite ?_ ?_
   | refine LeO.bind ?_ (fun _ => ?_)
theorem galloonlaw03_YardBelows.mono : ∀ a0 a1 a2 k, LeO (galloonlaw03_YardBelows.f k a0 a1 a2) (galloonlaw03_YardBelows.f (k + 1) a0 a1 a2) := by
 intro a0 a1 a2 k
 obtain ⟨ih0, ih1, ih2⟩ := galloonlaw03_YardBelows.mono_l k
 unfold galloonlaw03_YardBelows.f
 repeat' first
  | (with_reducible exact ih0 _ _ _ _ _ _ _ _ _ _ _ _ _ _ _ _ _)
  | (with_reducible exact ih1 _ _ _ _ _ _ _ _ _)
  | (with_reducible exact ih2 _ _ _ _ _ _)
  | (with_reducible exact galloonlaw03_awake.mono _)
  | (with_reducible exact galloonlaw03_fracs.mono _ _ _)
  | (with_reducible exact galloonref03_Before.mono _ _ _ _)
  | (with_reducible exact galloonref03_Below.mono _ _ _ _)
  | (with_reducible exact galloonref03_Nearest.mono _ _ _ _)
  | (with_reducible exact galloonref03_Next.mono _ _ _ _)
  | (with_reducible exact galloonref03_Touching.mono _ _ _ _)
  | (with_reducible exact galloonref03_Valid.mono _ _ _)
  | (with_reducible exact yard_Before.mono _ _ _ _)
  | (with_reducible exact yard_Below.mono _ _ _ _)
  | (with_reducible exact yard_Nearest.mono _ _ _ _)
  | (with_reducible exact yard_Next.mono _ _ _ _)
  | (with_reducible exact yard_Touching.mono _ _ _ _)
  | (with_reducible exact LeO.refl _)
  | (with_reducible exact LeO.none _)
  | (with_reducible refine LeO.ite ?_ ?_)
  | (with_reducible refine LeO.bind ?_ (fun _ => ?_))
  | exact ih0 _ _ _ _ _ _ _ _ _ _ _ _ _ _ _ _ _
  | exact ih1 _ _ _ _ _ _ _ _ _
  | exact ih2 _ _ _ _ _ _
  | exact galloonlaw03_awake.mono _
  | exact galloonlaw03_fracs.mono _ _ _
  | exact galloonref03_Before.mono _ _ _ _
  | exact galloonref03_Below.mono _ _ _ _
  | exact galloonref03_Nearest.mono _ _ _ _
  | exact galloonref03_Next.mono _ _ _ _
  | exact galloonref03_Touching.mono _ _ _ _
  | exact galloonref03_Valid.mono _ _ _
  | exact yard_Before.mono _ _ _ _
  | exact yard_Below.mono _ _ _ _
  | exact yard_Nearest.mono _ _ _ _
  | exact yard_Next.mono _ _ _ _
  | exact yard_Touching.mono _ _ _ _
  | exact LeO.none _
  | refine LeO.ite ?_ ?_
  | refine LeO.bind ?_ (fun _ => ?_)
def galloonlaw03_YardBelows.T12 : Bool × List (List Nat × List Nat) := (true, [([], []), ([], []), ([], []), ([1, 2], [1, 2]), ([0, 3], [0, 3]), ([4, 3], [4]), ([5], [5]), ([6, 5], [5, 6]), ([5, 7], [5, 7])])
def galloonlaw03_YardBelows.B12 : List Nat := [0, 0, 0, 6, 15, 31, 63, 127, 255]
theorem galloonlaw03_YardBelows.tab12 : rtab .any (opsOf Try.f16 12) = galloonlaw03_YardBelows.T12 := by kernel_rfl
theorem galloonlaw03_YardBelows.bits12 : waitsOk galloonlaw03_YardBelows.T12.2 galloonlaw03_YardBelows.B12 = true := by kernel_rfl
set_option maxHeartbeats 8000000 in
set_option maxRecDepth 100000 in
theorem galloonlaw03_YardBelows.calls (k : Nat) (a0 : Int) (a1_0 : Int) (a1_1 : Int) (r : Bool) (w : World) (h : galloonlaw03_YardBelows.f k a0 a1_0 a1_1 = some r) (hr : Aside0 (r = true)) :
 Calls Try.prog 16 #[.int .i64 a0, .agg #[.int .i64 a1_0, .int .i64 a1_1]] w fun e w' => e = .returned (.bool r) ∧ Below w.heap.size w w' := by
 have hu23 := Try.underlying23
 have HB := Aside0.mk (Below.refl w.heap.size w)
 have H : ((yard_Below.f k a0 a1_0 a1_1).bind fun bt678 => ((yard_Next.f k a0 a1_0 a1_1).bind fun bt680 => ((yard_Before.f k a0 a1_0 a1_1).bind fun bt684 => ((yard_Nearest.f k a0 a1_0 a1_1).bind fun bt688 => ((yard_Touching.f k a0 a1_0 a1_1).bind fun bt692 => ((galloonlaw03_row.f a0).bind fun t696 => (if t696 = true then ((galloonref03_Valid.f k a1_0 a1_1).bind fun t697 => (galloonlaw03_YardBelows.j0 k a0 bt678.1 bt678.2 bt680.2.2 bt684.2.2 bt688.2.2 bt692.1 bt692.2 (!t697) a1_0 a1_1 bt680.1 bt680.2.1 bt684.1 bt684.2.1 bt688.1 bt688.2.1)) else (galloonlaw03_YardBelows.j0 k a0 bt678.1 bt678.2 bt680.2.2 bt684.2.2 bt688.2.2 bt692.1 bt692.2 true a1_0 a1_1 bt680.1 bt680.2.1 bt684.1 bt684.2.1 bt688.1 bt688.2.1)))))))) = some r := h
 clear h
 replace H := Option.bind_eq_some_iff.mp H
 obtain ⟨⟨t678, t679⟩, A30, H⟩ := H
 replace H : ((yard_Next.f k a0 a1_0 a1_1).bind fun bt680 => ((yard_Before.f k a0 a1_0 a1_1).bind fun bt684 => ((yard_Nearest.f k a0 a1_0 a1_1).bind fun bt688 => ((yard_Touching.f k a0 a1_0 a1_1).bind fun bt692 => ((galloonlaw03_row.f a0).bind fun t696 => (if t696 = true then ((galloonref03_Valid.f k a1_0 a1_1).bind fun t697 => (galloonlaw03_YardBelows.j0 k a0 t678 t679 bt680.2.2 bt684.2.2 bt688.2.2 bt692.1 bt692.2 (!t697) a1_0 a1_1 bt680.1 bt680.2.1 bt684.1 bt684.2.1 bt688.1 bt688.2.1)) else (galloonlaw03_YardBelows.j0 k a0 t678 t679 bt680.2.2 bt684.2.2 bt688.2.2 bt692.1 bt692.2 true a1_0 a1_1 bt680.1 bt680.2.1 bt684.1 bt684.2.1 bt688.1 bt688.2.1))))))) = some r := H
 have A3 := Aside0.mk A30
 clear A30
 replace H := Option.bind_eq_some_iff.mp H
 obtain ⟨⟨t680, t681, t682⟩, A40, H⟩ := H
 replace H : ((yard_Before.f k a0 a1_0 a1_1).bind fun bt684 => ((yard_Nearest.f k a0 a1_0 a1_1).bind fun bt688 => ((yard_Touching.f k a0 a1_0 a1_1).bind fun bt692 => ((galloonlaw03_row.f a0).bind fun t696 => (if t696 = true then ((galloonref03_Valid.f k a1_0 a1_1).bind fun t697 => (galloonlaw03_YardBelows.j0 k a0 t678 t679 t682 bt684.2.2 bt688.2.2 bt692.1 bt692.2 (!t697) a1_0 a1_1 t680 t681 bt684.1 bt684.2.1 bt688.1 bt688.2.1)) else (galloonlaw03_YardBelows.j0 k a0 t678 t679 t682 bt684.2.2 bt688.2.2 bt692.1 bt692.2 true a1_0 a1_1 t680 t681 bt684.1 bt684.2.1 bt688.1 bt688.2.1)))))) = some r := H
 have A4 := Aside0.mk A40
 clear A40
 replace H := Option.bind_eq_some_iff.mp H
 obtain ⟨⟨t684, t685, t686⟩, A50, H⟩ := H
 replace H : ((yard_Nearest.f k a0 a1_0 a1_1).bind fun bt688 => ((yard_Touching.f k a0 a1_0 a1_1).bind fun bt692 => ((galloonlaw03_row.f a0).bind fun t696 => (if t696 = true then ((galloonref03_Valid.f k a1_0 a1_1).bind fun t697 => (galloonlaw03_YardBelows.j0 k a0 t678 t679 t682 t686 bt688.2.2 bt692.1 bt692.2 (!t697) a1_0 a1_1 t680 t681 t684 t685 bt688.1 bt688.2.1)) else (galloonlaw03_YardBelows.j0 k a0 t678 t679 t682 t686 bt688.2.2 bt692.1 bt692.2 true a1_0 a1_1 t680 t681 t684 t685 bt688.1 bt688.2.1))))) = some r := H
 have A5 := Aside0.mk A50
 clear A50
 replace H := Option.bind_eq_some_iff.mp H
 obtain ⟨⟨t688, t689, t690⟩, A60, H⟩ := H
 replace H : ((yard_Touching.f k a0 a1_0 a1_1).bind fun bt692 => ((galloonlaw03_row.f a0).bind fun t696 => (if t696 = true then ((galloonref03_Valid.f k a1_0 a1_1).bind fun t697 => (galloonlaw03_YardBelows.j0 k a0 t678 t679 t682 t686 t690 bt692.1 bt692.2 (!t697) a1_0 a1_1 t680 t681 t684 t685 t688 t689)) else (galloonlaw03_YardBelows.j0 k a0 t678 t679 t682 t686 t690 bt692.1 bt692.2 true a1_0 a1_1 t680 t681 t684 t685 t688 t689)))) = some r := H
 have A6 := Aside0.mk A60
 clear A60
 replace H := Option.bind_eq_some_iff.mp H
 obtain ⟨⟨t692, t695⟩, A70, H⟩ := H
 replace H : ((galloonlaw03_row.f a0).bind fun t696 => (if t696 = true then ((galloonref03_Valid.f k a1_0 a1_1).bind fun t697 => (galloonlaw03_YardBelows.j0 k a0 t678 t679 t682 t686 t690 t692 t695 (!t697) a1_0 a1_1 t680 t681 t684 t685 t688 t689)) else (galloonlaw03_YardBelows.j0 k a0 t678 t679 t682 t686 t690 t692 t695 true a1_0 a1_1 t680 t681 t684 t685 t688 t689))) = some r := H
 have A7 := Aside0.mk A70
 clear A70
 have HC8 := Aside0.mk H
 clear H
 go_enter Try.func16, Try.ntmps16
 go_upto_region 6 with (first | ((with_reducible refine gate_dst (N := 3) rfl ?_); (try (refine gate_guard (by rfl) ?_; dsimp only)); refine box_event ?hg (N := 3) ?hd (cs := #[.int .i64 a1_0, .int .i64 a1_1]) (t := 23) ?hr ?_; (case hd => rfl); (case hg => rfl); (case hr => first | (go_simp; done) | (go_simp; rfl)); intro gb677 hg w9 hbox hb; have BK677 := Aside0.mk (hbox); have GW677 := bG HB hg; have GE677 := bG HB hg; replace HB := bS HB hb; clear hb hbox hg; obtain ⟨hcz10_0, hcz10_1, hfz10_0, hfz10_1⟩ := cQ BK677) | ((with_reducible refine gate_callee (f := 48) rfl ?_); refine gL 22 Try.func48 #[.int .i64 a0, .agg #[.int .i64 a1_0, .int .i64 a1_1]] (h := ?_); (with_reducible refine (yard_Below.calls k a0 a1_0 a1_1 t678 t679 _ A3.out).mono ?_); rintro e w11 ⟨rfl, hb⟩; refine ⟨_, rfl, ?_⟩; replace BK677 := kB BK677 hb; replace HB := bS HB hb; (try clear hb); (try clear hb2); (try clear hk); (try clear hi); obtain ⟨hcz12_0, hcz12_1, hfz12_0, hfz12_1⟩ := cQ BK677) | ((with_reducible refine gate_callee (f := 46) rfl ?_); refine gL 28 Try.func46 #[.int .i64 a0, .agg #[.int .i64 a1_0, .int .i64 a1_1]] (h := ?_); (with_reducible refine (yard_Next.calls k a0 a1_0 a1_1 t680 t681 t682 _ A4.out).mono ?_); rintro e w13 ⟨rfl, hb⟩; refine ⟨_, rfl, ?_⟩; replace BK677 := kB BK677 hb; replace HB := bS HB hb; (try clear hb); (try clear hb2); (try clear hk); (try clear hi)) | ((with_reducible refine gate_dst (N := 7) rfl ?_); (try (refine gate_guard (by rfl) ?_; dsimp only)); refine box_event ?hg (N := 7) ?hd (cs := #[.int .i64 0, .int .i64 0]) (t := 23) ?hr ?_; (case hd => rfl); (case hg => rfl); (case hr => first | (go_simp; done) | (go_simp; rfl)); intro gb683 hg w14 hbox hb; have BK683 := Aside0.mk (hbox); have GW683 := bG HB hg; have GE683 := bG HB hg; replace HB := bS HB hb; have NB677_683 := nL BK677 hg; have NB683_677 := nG BK677 hg; replace BK677 := kB BK677 hb; clear hb hbox hg; have hnb15 := NB683_677.out; have hnc15 := NB677_683.out; obtain ⟨hcz16_0, hcz16_1, hfz16_0, hfz16_1⟩ := cQ BK683; obtain ⟨hcz17_0, hcz17_1, hfz17_0, hfz17_1⟩ := cQ BK677) | ((with_reducible refine gate_callee (f := 45) rfl ?_); refine gL 34 Try.func45 #[.int .i64 a0, .agg #[.int .i64 a1_0, .int .i64 a1_1]] (h := ?_); (with_reducible refine (yard_Before.calls k a0 a1_0 a1_1 t684 t685 t686 _ A5.out).mono ?_); rintro e w18 ⟨rfl, hb⟩; refine ⟨_, rfl, ?_⟩; replace BK677 := kF BK677 hb; replace BK683 := Aside0.mk (blk_below (g := gb683) (o := .cells #[.int .i64 t680, .int .i64 t681] 23 (0, 0)) (by (with_reducible repeat (first | refine blk_drewN ?_ _ | refine blk_drew ?_ | refine blk_alloc ?_ _)); refine blk_put (cs := #[.int .i64 t680, .int .i64 0]) ?_ 1 _ rfl; (with_reducible repeat (first | refine blk_drewN ?_ _ | refine blk_drew ?_ | refine blk_alloc ?_ _)); refine blk_put (cs := #[.int .i64 0, .int .i64 0]) ?_ 0 _ rfl; (with_reducible repeat (first | refine blk_drewN ?_ _ | refine blk_drew ?_ | refine blk_alloc ?_ _)); exact BK683.out) hb); replace HB := bS HB hb; (try clear hb); (try clear hb2); (try clear hk); (try clear hi)) | ((with_reducible refine gate_dst (N := 9) rfl ?_); (try (refine gate_guard (by rfl) ?_; dsimp only)); refine box_event ?hg (N := 9) ?hd (cs := #[.int .i64 0, .int .i64 0]) (t := 23) ?hr ?_; (case hd => rfl); (case hg => rfl); (case hr => first | (go_simp; done) | (go_simp; rfl)); intro gb687 hg w19 hbox hb; have BK687 := Aside0.mk (hbox); have GW687 := bG HB hg; have GE687 := bG HB hg; replace HB := bS HB hb; have NB677_687 := nL BK677 hg; have NB687_677 := nG BK677 hg; replace BK677 := kB BK677 hb; have NB683_687 := nL BK683 hg; have NB687_683 := nG BK683 hg; replace BK683 := kB BK683 hb; clear hb hbox hg; have hnb20 := NB687_677.out; have hnc20 := NB677_687.out; have hnb21 := NB687_683.out; have hnc21 := NB683_687.out; obtain ⟨hcz22_0, hcz22_1, hfz22_0, hfz22_1⟩ := cQ BK687; obtain ⟨hcz23_0, hcz23_1, hfz23_0, hfz23_1⟩ := cQ BK677) | ((with_reducible refine gate_callee (f := 53) rfl ?_); refine gL 40 Try.func53 #[.int .i64 a0, .agg #[.int .i64 a1_0, .int .i64 a1_1]] (h := ?_); (with_reducible refine (yard_Nearest.calls k a0 a1_0 a1_1 t688 t689 t690 _ A6.out).mono ?_); rintro e w24 ⟨rfl, hb⟩; refine ⟨_, rfl, ?_⟩; replace BK677 := kF BK677 hb; replace BK683 := kF BK683 hb; replace BK687 := Aside0.mk (blk_below (g := gb687) (o := .cells #[.int .i64 t684, .int .i64 t685] 23 (0, 0)) (by (with_reducible repeat (first | refine blk_drewN ?_ _ | refine blk_drew ?_ | refine blk_alloc ?_ _)); refine blk_put (cs := #[.int .i64 t684, .int .i64 0]) ?_ 1 _ rfl; (with_reducible repeat (first | refine blk_drewN ?_ _ | refine blk_drew ?_ | refine blk_alloc ?_ _)); refine blk_put (cs := #[.int .i64 0, .int .i64 0]) ?_ 0 _ rfl; (with_reducible repeat (first | refine blk_drewN ?_ _ | refine blk_drew ?_ | refine blk_alloc ?_ _)); exact BK687.out) hb); replace HB := bS HB hb; (try clear hb); (try clear hb2); (try clear hk); (try clear hi)) | ((with_reducible refine gate_dst (N := 11) rfl ?_); (try (refine gate_guard (by rfl) ?_; dsimp only)); refine box_event ?hg (N := 11) ?hd (cs := #[.int .i64 0, .int .i64 0]) (t := 23) ?hr ?_; (case hd => rfl); (case hg => rfl); (case hr => first | (go_simp; done) | (go_simp; rfl)); intro gb691 hg w25 hbox hb; have BK691 := Aside0.mk (hbox); have GW691 := bG HB hg; have GE691 := bG HB hg; replace HB := bS HB hb; have NB677_691 := nL BK677 hg; have NB691_677 := nG BK677 hg; replace BK677 := kB BK677 hb; have NB683_691 := nL BK683 hg; have NB691_683 := nG BK683 hg; replace BK683 := kB BK683 hb; have NB687_691 := nL BK687 hg; have NB691_687 := nG BK687 hg; replace BK687 := kB BK687 hb; clear hb hbox hg; have hnb26 := NB691_677.out; have hnc26 := NB677_691.out; have hnb27 := NB691_683.out; have hnc27 := NB683_691.out; have hnb28 := NB691_687.out; have hnc28 := NB687_691.out; obtain ⟨hcz29_0, hcz29_1, hfz29_0, hfz29_1⟩ := cQ BK691; obtain ⟨hcz30_0, hcz30_1, hfz30_0, hfz30_1⟩ := cQ BK677) | ((with_reducible refine gate_callee (f := 52) rfl ?_); refine gL 46 Try.func52 #[.int .i64 a0, .agg #[.int .i64 a1_0, .int .i64 a1_1]] (h := ?_); (with_reducible refine (yard_Touching.calls k a0 a1_0 a1_1 t692 t695 _ A7.out).mono ?_); rintro e w31 ⟨v693, rfl, ho0, hb⟩; refine ⟨_, rfl, ?_⟩; have HO694 := Aside0.mk (Kd.R_lower (Kd.R_newB (Kd.R_newB (Kd.R_newB (Kd.R_newB ho0 (g := gb677) (o := .cells #[.int .i64 a1_0, .int .i64 a1_1] 23 (0, 0)) (kf BK677)) (g := gb683) (o := .cells #[.int .i64 t680, .int .i64 t681] 23 (0, 0)) (kf BK683)) (g := gb687) (o := .cells #[.int .i64 t684, .int .i64 t685] 23 (0, 0)) (kf BK687)) (g := gb691) (o := .cells #[.int .i64 t688, .int .i64 t689] 23 (0, 0)) (by (with_reducible repeat (first | refine blk_drewN ?_ _ | refine blk_drew ?_ | refine blk_alloc ?_ _)); refine blk_put (cs := #[.int .i64 t688, .int .i64 0]) ?_ 1 _ rfl; (with_reducible repeat (first | refine blk_drewN ?_ _ | refine blk_drew ?_ | refine blk_alloc ?_ _)); refine blk_put (cs := #[.int .i64 0, .int .i64 0]) ?_ 0 _ rfl; (with_reducible repeat (first | refine blk_drewN ?_ _ | refine blk_drew ?_ | refine blk_alloc ?_ _)); exact BK691.out)) (below_size (bB HB))); replace BK677 := kF BK677 hb; replace BK683 := kF BK683 hb; replace BK687 := kF BK687 hb; replace BK691 := Aside0.mk (blk_below (g := gb691) (o := .cells #[.int .i64 t688, .int .i64 t689] 23 (0, 0)) (by (with_reducible repeat (first | refine blk_drewN ?_ _ | refine blk_drew ?_ | refine blk_alloc ?_ _)); refine blk_put (cs := #[.int .i64 t688, .int .i64 0]) ?_ 1 _ rfl; (with_reducible repeat (first | refine blk_drewN ?_ _ | refine blk_drew ?_ | refine blk_alloc ?_ _)); refine blk_put (cs := #[.int .i64 0, .int .i64 0]) ?_ 0 _ rfl; (with_reducible repeat (first | refine blk_drewN ?_ _ | refine blk_drew ?_ | refine blk_alloc ?_ _)); exact BK691.out) hb); replace HB := bS HB hb; (try clear hb); (try clear hb2); (try clear hk); (try clear hi); (try clear ho0)))
 (try simp only [Act.put, List.setIfInBounds_toArray, List.set_cons_zero, List.set_cons_succ])
 go_cut [56] (fun v56 wc => ∃ (kq : Nat) (x56_7 : Bool), v56 = .bool x56_7 ∧ Aside0 (galloonlaw03_YardBelows.j0 kq a0 t678 t679 t682 t686 t690 t692 t695 x56_7 a1_0 a1_1 t680 t681 t684 t685 t688 t689 = some r) ∧ Aside0 (kq ≤ k) ∧ Aside0 (Kd.R k23 23 wc w.heap.size (fun k_ => k_ ≠ gb677 ∧ k_ ≠ gb683 ∧ k_ ≠ gb687 ∧ k_ ≠ gb691) v693 t692) ∧ Aside0 (wc.heap[gb677]? = some (.cells #[.int .i64 a1_0, .int .i64 a1_1] 23 (0, 0))) ∧ Aside0 (wc.heap[gb683]? = some (.cells #[.int .i64 t680, .int .i64 t681] 23 (0, 0))) ∧ Aside0 (wc.heap[gb687]? = some (.cells #[.int .i64 t684, .int .i64 t685] 23 (0, 0))) ∧ Aside0 (wc.heap[gb691]? = some (.cells #[.int .i64 t688, .int .i64 t689] 23 (0, 0))) ∧ Aside0 (Below w.heap.size w wc))
 case first =>
  have H := HC8.out
  clear HC8
  replace H := Option.bind_eq_some_iff.mp H
  obtain ⟨t696, A320, H⟩ := H
  replace H : (if t696 = true then ((galloonref03_Valid.f k a1_0 a1_1).bind fun t697 => (galloonlaw03_YardBelows.j0 k a0 t678 t679 t682 t686 t690 t692 t695 (!t697) a1_0 a1_1 t680 t681 t684 t685 t688 t689)) else (galloonlaw03_YardBelows.j0 k a0 t678 t679 t682 t686 t690 t692 t695 true a1_0 a1_1 t680 t681 t684 t685 t688 t689)) = some r := H
  have A32 := Aside0.mk A320
  clear A320
  by_cases c33 : t696 = true
  ·subst c33
   have H1 : ((galloonref03_Valid.f k a1_0 a1_1).bind fun t697 => (galloonlaw03_YardBelows.j0 k a0 t678 t679 t682 t686 t690 t692 t695 (!t697) a1_0 a1_1 t680 t681 t684 t685 t688 t689)) = some r := by rw [if_pos rfl] at H; exact H
   clear H
   have H := H1
   clear H1
   replace H := Option.bind_eq_some_iff.mp H
   obtain ⟨t697, A340, H⟩ := H
   replace H : (galloonlaw03_YardBelows.j0 k a0 t678 t679 t682 t686 t690 t692 t695 (!t697) a1_0 a1_1 t680 t681 t684 t685 t688 t689) = some r := H
   have A34 := Aside0.mk A340
   clear A340
   have H' := Aside0.mk H
   clear H
   go_wp2_with (first | ((with_reducible refine gate_callee (f := 37) rfl ?_); refine gL 50 Try.func37 #[.int .i64 a0] (h := ?_); (with_reducible refine (galloonlaw03_row.calls a0 true _ A32.out).mono ?_); rintro e w' ⟨rfl, ⟨nd, rfl⟩⟩; refine ⟨_, rfl, ?_⟩; have hnb35 := NB677_683.out; have hnc35 := NB683_677.out; have hnb36 := NB677_687.out; have hnc36 := NB687_677.out; have hnb37 := NB677_691.out; have hnc37 := NB691_677.out; obtain ⟨hcz38_0, hcz38_1, hfz38_0, hfz38_1⟩ := cQ BK677) | (go_at_call 20; (with_reducible refine (galloonref03_Valid.calls k a1_0 a1_1 t697 _ A34.out).mono ?_); rintro e w39 ⟨rfl, hb⟩; replace HO694 := rB HO694 hb; replace BK677 := kB BK677 hb; replace BK683 := kB BK683 hb; replace BK687 := kB BK687 hb; replace BK691 := kB BK691 hb; replace HB := bS HB hb; (try clear hb); (try clear hb2); (try clear hk); (try clear hi)))
   go_meet
   case rel => exact ⟨_, (!t697), (by first | rfl | (simp; done) | (simp [*]; done)), H', ⟨by first | omega | exact Nat.le_refl _⟩, ⟨by (with_reducible repeat (first | apply Kd.R_alloc | apply Kd.R_drewN | apply Kd.R_drew)); exact Kd.R_mono HO694.out (fun _ hk => ⟨hk.1.1.1.2, ⟨hk.1.1.2, ⟨hk.1.2, hk.2⟩⟩⟩)⟩, kA BK677, kA BK683, kA BK687, kA BK691, bA HB⟩
  ·replace c33 := Bool.eq_false_iff.mpr c33
   subst c33
   have H1 : (galloonlaw03_YardBelows.j0 k a0 t678 t679 t682 t686 t690 t692 t695 true a1_0 a1_1 t680 t681 t684 t685 t688 t689) = some r := by rw [if_neg (show ¬ (false = true) by decide)] at H; exact H
   clear H
   have H := H1
   clear H1
   have H' := Aside0.mk H
   clear H
   go_wp2_with (first | ((with_reducible refine gate_callee (f := 37) rfl ?_); refine gL 50 Try.func37 #[.int .i64 a0] (h := ?_); (with_reducible refine (galloonlaw03_row.calls a0 false _ A32.out).mono ?_); rintro e w' ⟨rfl, ⟨nd, rfl⟩⟩; refine ⟨_, rfl, ?_⟩))
   go_meet
   case rel => exact ⟨_, (true), (by first | rfl | (simp; done) | (simp [*]; done)), H', ⟨by first | omega | exact Nat.le_refl _⟩, ⟨by (with_reducible repeat (first | apply Kd.R_alloc | apply Kd.R_drewN | apply Kd.R_drew)); exact Kd.R_mono HO694.out (fun _ hk => ⟨hk.1.1.1.2, ⟨hk.1.1.2, ⟨hk.1.2, hk.2⟩⟩⟩)⟩, kA BK677, kA BK683, kA BK687, kA BK691, bA HB⟩
 case rest =>
  clear HC8
  try clear p2
  obtain ⟨kq, x56_7, rfl, HA, HJ7, HO_13, BK677, BK683, BK687, BK691, HB⟩ := hcut
  cases kq with
  | zero => exact absurd HA.out (by simp [galloonlaw03_YardBelows.j0])
  | succ kj7 =>
   have H := HA.out
   clear HA
   simp only [galloonlaw03_YardBelows.j0] at H
   by_cases c40 : x56_7 = true
   ·subst c40
    have H1 : (if t678 = 0 then (if t679 = 2 then (if (t680 == 0 && (t681 == 0)) = true then (if t682 = 2 then (if (t684 == 0 && (t685 == 0)) = true then (if t686 = 2 then (if (t688 == 0 && (t689 == 0)) = true then (if t690 = 2 then (if (t692.length : Int) = 0 then (if t695 = 2 then ((galloonlaw03_awake.f kj7).bind fun t698 => (some t698)) else (some false)) else (some false)) else (some false)) else (some false)) else (some false)) else (some false)) else (some false)) else (some false)) else (some false)) else (some false)) = some r := by rw [if_pos rfl] at H; exact H
    clear H
    have H := H1
    clear H1
    by_cases c41 : t678 = 0
    case neg =>
     rw [if_neg c41] at H
     have c41b0 : (t678 == 0) = false := beq_eq_false_iff_ne.mpr c41
     have c41b1 : (t678 != 0) = true := bne_iff_ne.mpr c41
     obtain rfl := Option.some.inj H
     exact absurd hr.out (by decide)
    rw [if_pos c41] at H
    have c41b0 : (t678 == 0) = true := beq_iff_eq.mpr c41
    have c41b1 : (t678 != 0) = false := bne_eq_false_iff_eq.mpr c41
    clear c41
    by_cases c42 : t679 = 2
    case neg =>
     rw [if_neg c42] at H
     have c42b0 : (t679 == 2) = false := beq_eq_false_iff_ne.mpr c42
     have c42b1 : (t679 != 2) = true := bne_iff_ne.mpr c42
     obtain rfl := Option.some.inj H
     exact absurd hr.out (by decide)
    rw [if_pos c42] at H
    have c42b0 : (t679 == 2) = true := beq_iff_eq.mpr c42
    have c42b1 : (t679 != 2) = false := bne_eq_false_iff_eq.mpr c42
    clear c42
    by_cases c43 : (t680 == 0 && (t681 == 0)) = true
    case neg =>
     rw [if_neg c43] at H
     have c43b0 : (t680 == 0 && (t681 == 0)) = false := by simpa using c43
     (try (have c43b1 : decide (t680 = 0 && (t681 == 0)) = false := by simpa using c43))
     (try (have c43b2 : (t680 == 0 && (t681 == 0)) = false := by simpa using c43))
     (try (have c43b3 : ¬ (t680 = 0 && (t681 == 0)) := by simpa using c43))
     clear c43
     obtain rfl := Option.some.inj H
     exact absurd hr.out (by decide)
    rw [if_pos c43] at H
    have c43b0 : (t680 == 0 && (t681 == 0)) = true := c43
    (try (have c43b1 : decide (t680 = 0 && (t681 == 0)) = true := by simpa using c43))
    (try (have c43b2 : (t680 == 0 && (t681 == 0)) = true := by simpa using c43))
    clear c43
    by_cases c44 : t682 = 2
    case neg =>
     rw [if_neg c44] at H
     have c44b0 : (t682 == 2) = false := beq_eq_false_iff_ne.mpr c44
     have c44b1 : (t682 != 2) = true := bne_iff_ne.mpr c44
     obtain rfl := Option.some.inj H
     exact absurd hr.out (by decide)
    rw [if_pos c44] at H
    have c44b0 : (t682 == 2) = true := beq_iff_eq.mpr c44
    have c44b1 : (t682 != 2) = false := bne_eq_false_iff_eq.mpr c44
    clear c44
    by_cases c45 : (t684 == 0 && (t685 == 0)) = true
    case neg =>
     rw [if_neg c45] at H
     have c45b0 : (t684 == 0 && (t685 == 0)) = false := by simpa using c45
     (try (have c45b1 : decide (t684 = 0 && (t685 == 0)) = false := by simpa using c45))
     (try (have c45b2 : (t684 == 0 && (t685 == 0)) = false := by simpa using c45))
     (try (have c45b3 : ¬ (t684 = 0 && (t685 == 0)) := by simpa using c45))
     clear c45
     obtain rfl := Option.some.inj H
     exact absurd hr.out (by decide)
    rw [if_pos c45] at H
    have c45b0 : (t684 == 0 && (t685 == 0)) = true := c45
    (try (have c45b1 : decide (t684 = 0 && (t685 == 0)) = true := by simpa using c45))
    (try (have c45b2 : (t684 == 0 && (t685 == 0)) = true := by simpa using c45))
    clear c45
    by_cases c46 : t686 = 2
    case neg =>
     rw [if_neg c46] at H
     have c46b0 : (t686 == 2) = false := beq_eq_false_iff_ne.mpr c46
     have c46b1 : (t686 != 2) = true := bne_iff_ne.mpr c46
     obtain rfl := Option.some.inj H
     exact absurd hr.out (by decide)
    rw [if_pos c46] at H
    have c46b0 : (t686 == 2) = true := beq_iff_eq.mpr c46
    have c46b1 : (t686 != 2) = false := bne_eq_false_iff_eq.mpr c46
    clear c46
    by_cases c47 : (t688 == 0 && (t689 == 0)) = true
    case neg =>
     rw [if_neg c47] at H
     have c47b0 : (t688 == 0 && (t689 == 0)) = false := by simpa using c47
     (try (have c47b1 : decide (t688 = 0 && (t689 == 0)) = false := by simpa using c47))
     (try (have c47b2 : (t688 == 0 && (t689 == 0)) = false := by simpa using c47))
     (try (have c47b3 : ¬ (t688 = 0 && (t689 == 0)) := by simpa using c47))
     clear c47
     obtain rfl := Option.some.inj H
     exact absurd hr.out (by decide)
    rw [if_pos c47] at H
    have c47b0 : (t688 == 0 && (t689 == 0)) = true := c47
    (try (have c47b1 : decide (t688 = 0 && (t689 == 0)) = true := by simpa using c47))
    (try (have c47b2 : (t688 == 0 && (t689 == 0)) = true := by simpa using c47))
    clear c47
    by_cases c48 : t690 = 2
    case neg =>
     rw [if_neg c48] at H
     have c48b0 : (t690 == 2) = false := beq_eq_false_iff_ne.mpr c48
     have c48b1 : (t690 != 2) = true := bne_iff_ne.mpr c48
     obtain rfl := Option.some.inj H
     exact absurd hr.out (by decide)
    rw [if_pos c48] at H
    have c48b0 : (t690 == 2) = true := beq_iff_eq.mpr c48
    have c48b1 : (t690 != 2) = false := bne_eq_false_iff_eq.mpr c48
    clear c48
    by_cases c49 : (t692.length : Int) = 0
    case neg =>
     rw [if_neg c49] at H
     have c49b0 : ((t692.length : Int) == 0) = false := beq_eq_false_iff_ne.mpr c49
     have c49b1 : ((t692.length : Int) != 0) = true := bne_iff_ne.mpr c49
     have c49b2 : ¬ (t692 = []) := fun h_ => c49 (by rw [h_]; rfl)
     obtain rfl := Option.some.inj H
     exact absurd hr.out (by decide)
    rw [if_pos c49] at H
    have c49b0 : ((t692.length : Int) == 0) = true := beq_iff_eq.mpr c49
    have c49b1 : ((t692.length : Int) != 0) = false := bne_eq_false_iff_eq.mpr c49
    clear c49
    by_cases c50 : t695 = 2
    case neg =>
     rw [if_neg c50] at H
     have c50b0 : (t695 == 2) = false := beq_eq_false_iff_ne.mpr c50
     have c50b1 : (t695 != 2) = true := bne_iff_ne.mpr c50
     obtain rfl := Option.some.inj H
     exact absurd hr.out (by decide)
    rw [if_pos c50] at H
    have c50b0 : (t695 == 2) = true := beq_iff_eq.mpr c50
    have c50b1 : (t695 != 2) = false := bne_eq_false_iff_eq.mpr c50
    clear c50
    replace H := Option.bind_eq_some_iff.mp H
    obtain ⟨t698, A510, H⟩ := H
    replace H : (some t698) = some r := H
    have A51 := Aside0.mk A510
    clear A510
    obtain rfl := Option.some.inj H
    have hnb52 := NB683_677.out
    have hnc52 := NB677_683.out
    have hnb53 := NB683_687.out
    have hnc53 := NB687_683.out
    have hnb54 := NB683_691.out
    have hnc54 := NB691_683.out
    obtain ⟨hcz55_0, hcz55_1, hfz55_0, hfz55_1⟩ := cQ BK683
    have hnb56 := NB687_677.out
    have hnc56 := NB677_687.out
    have hnb57 := NB687_691.out
    have hnc57 := NB691_687.out
    obtain ⟨hcz58_0, hcz58_1, hfz58_0, hfz58_1⟩ := cQ BK687
    have hnb59 := NB691_677.out
    have hnc59 := NB677_691.out
    obtain ⟨hcz60_0, hcz60_1, hfz60_0, hfz60_1⟩ := cQ BK691
    obtain ⟨Ao61, co61, eo61⟩ := Kd.R_slice HO_13.out
    subst eo61
    go_wp2_with (first | (go_at_call 21; (with_reducible refine (galloonlaw03_awake.calls kj7  t698 _ A51.out).mono ?_); rintro e w62 ⟨rfl, hb⟩; replace HO_13 := rB HO_13 hb; replace BK677 := kB BK677 hb; replace BK683 := kB BK683 hb; replace BK687 := kB BK687 hb; replace BK691 := kB BK691 hb; replace HB := bS HB hb; (try clear hb); (try clear hb2); (try clear hk); (try clear hi)))
    go_ret
    exact ⟨by first | rfl | (simp [errW_none, errW_some] <;> rfl) | (simp [*, errW_none, errW_some] <;> rfl), bB HB⟩
   ·replace c40 := Bool.eq_false_iff.mpr c40
    subst c40
    have H1 : ((galloonref03_Next.f kj7 a0 a1_0 a1_1).bind fun bt699 => ((galloonref03_Before.f kj7 a0 a1_0 a1_1).bind fun bt703 => ((galloonref03_Below.f kj7 a0 a1_0 a1_1).bind fun t707 => (if t678 = t707 then (if t679 = 0 then (if (!(t680 == bt699.1) || (!(t681 == bt699.2.1))) = true then (galloonlaw03_YardBelows.j1 kj7 a0 t690 t692 t695 true a1_0 a1_1 t688 t689) else (if bt699.2.2 = true then (if t682 = 0 then (if (!(t684 == bt703.1) || (!(t685 == bt703.2.1))) = true then (galloonlaw03_YardBelows.j1 kj7 a0 t690 t692 t695 true a1_0 a1_1 t688 t689) else (if bt703.2.2 = true then (if t686 = 0 then (galloonlaw03_YardBelows.j1 kj7 a0 t690 t692 t695 false a1_0 a1_1 t688 t689) else (galloonlaw03_YardBelows.j1 kj7 a0 t690 t692 t695 true a1_0 a1_1 t688 t689)) else (galloonlaw03_YardBelows.j1 kj7 a0 t690 t692 t695 (t686 != 6) a1_0 a1_1 t688 t689))) else (galloonlaw03_YardBelows.j1 kj7 a0 t690 t692 t695 true a1_0 a1_1 t688 t689)) else (if t682 = 6 then (if (!(t684 == bt703.1) || (!(t685 == bt703.2.1))) = true then (galloonlaw03_YardBelows.j1 kj7 a0 t690 t692 t695 true a1_0 a1_1 t688 t689) else (if bt703.2.2 = true then (if t686 = 0 then (galloonlaw03_YardBelows.j1 kj7 a0 t690 t692 t695 false a1_0 a1_1 t688 t689) else (galloonlaw03_YardBelows.j1 kj7 a0 t690 t692 t695 true a1_0 a1_1 t688 t689)) else (galloonlaw03_YardBelows.j1 kj7 a0 t690 t692 t695 (t686 != 6) a1_0 a1_1 t688 t689))) else (galloonlaw03_YardBelows.j1 kj7 a0 t690 t692 t695 true a1_0 a1_1 t688 t689)))) else (galloonlaw03_YardBelows.j1 kj7 a0 t690 t692 t695 true a1_0 a1_1 t688 t689)) else (galloonlaw03_YardBelows.j1 kj7 a0 t690 t692 t695 true a1_0 a1_1 t688 t689))))) = some r := by rw [if_neg (show ¬ (false = true) by decide)] at H; exact H
    clear H
    have H := H1
    clear H1
    replace H := Option.bind_eq_some_iff.mp H
    obtain ⟨⟨t699, t700, t701⟩, A630, H⟩ := H
    replace H : ((galloonref03_Before.f kj7 a0 a1_0 a1_1).bind fun bt703 => ((galloonref03_Below.f kj7 a0 a1_0 a1_1).bind fun t707 => (if t678 = t707 then (if t679 = 0 then (if (!(t680 == t699) || (!(t681 == t700))) = true then (galloonlaw03_YardBelows.j1 kj7 a0 t690 t692 t695 true a1_0 a1_1 t688 t689) else (if t701 = true then (if t682 = 0 then (if (!(t684 == bt703.1) || (!(t685 == bt703.2.1))) = true then (galloonlaw03_YardBelows.j1 kj7 a0 t690 t692 t695 true a1_0 a1_1 t688 t689) else (if bt703.2.2 = true then (if t686 = 0 then (galloonlaw03_YardBelows.j1 kj7 a0 t690 t692 t695 false a1_0 a1_1 t688 t689) else (galloonlaw03_YardBelows.j1 kj7 a0 t690 t692 t695 true a1_0 a1_1 t688 t689)) else (galloonlaw03_YardBelows.j1 kj7 a0 t690 t692 t695 (t686 != 6) a1_0 a1_1 t688 t689))) else (galloonlaw03_YardBelows.j1 kj7 a0 t690 t692 t695 true a1_0 a1_1 t688 t689)) else (if t682 = 6 then (if (!(t684 == bt703.1) || (!(t685 == bt703.2.1))) = true then (galloonlaw03_YardBelows.j1 kj7 a0 t690 t692 t695 true a1_0 a1_1 t688 t689) else (if bt703.2.2 = true then (if t686 = 0 then (galloonlaw03_YardBelows.j1 kj7 a0 t690 t692 t695 false a1_0 a1_1 t688 t689) else (galloonlaw03_YardBelows.j1 kj7 a0 t690 t692 t695 true a1_0 a1_1 t688 t689)) else (galloonlaw03_YardBelows.j1 kj7 a0 t690 t692 t695 (t686 != 6) a1_0 a1_1 t688 t689))) else (galloonlaw03_YardBelows.j1 kj7 a0 t690 t692 t695 true a1_0 a1_1 t688 t689)))) else (galloonlaw03_YardBelows.j1 kj7 a0 t690 t692 t695 true a1_0 a1_1 t688 t689)) else (galloonlaw03_YardBelows.j1 kj7 a0 t690 t692 t695 true a1_0 a1_1 t688 t689)))) = some r := H
    have A63 := Aside0.mk A630
    clear A630
    replace H := Option.bind_eq_some_iff.mp H
    obtain ⟨⟨t703, t704, t705⟩, A640, H⟩ := H
    replace H : ((galloonref03_Below.f kj7 a0 a1_0 a1_1).bind fun t707 => (if t678 = t707 then (if t679 = 0 then (if (!(t680 == t699) || (!(t681 == t700))) = true then (galloonlaw03_YardBelows.j1 kj7 a0 t690 t692 t695 true a1_0 a1_1 t688 t689) else (if t701 = true then (if t682 = 0 then (if (!(t684 == t703) || (!(t685 == t704))) = true then (galloonlaw03_YardBelows.j1 kj7 a0 t690 t692 t695 true a1_0 a1_1 t688 t689) else (if t705 = true then (if t686 = 0 then (galloonlaw03_YardBelows.j1 kj7 a0 t690 t692 t695 false a1_0 a1_1 t688 t689) else (galloonlaw03_YardBelows.j1 kj7 a0 t690 t692 t695 true a1_0 a1_1 t688 t689)) else (galloonlaw03_YardBelows.j1 kj7 a0 t690 t692 t695 (t686 != 6) a1_0 a1_1 t688 t689))) else (galloonlaw03_YardBelows.j1 kj7 a0 t690 t692 t695 true a1_0 a1_1 t688 t689)) else (if t682 = 6 then (if (!(t684 == t703) || (!(t685 == t704))) = true then (galloonlaw03_YardBelows.j1 kj7 a0 t690 t692 t695 true a1_0 a1_1 t688 t689) else (if t705 = true then (if t686 = 0 then (galloonlaw03_YardBelows.j1 kj7 a0 t690 t692 t695 false a1_0 a1_1 t688 t689) else (galloonlaw03_YardBelows.j1 kj7 a0 t690 t692 t695 true a1_0 a1_1 t688 t689)) else (galloonlaw03_YardBelows.j1 kj7 a0 t690 t692 t695 (t686 != 6) a1_0 a1_1 t688 t689))) else (galloonlaw03_YardBelows.j1 kj7 a0 t690 t692 t695 true a1_0 a1_1 t688 t689)))) else (galloonlaw03_YardBelows.j1 kj7 a0 t690 t692 t695 true a1_0 a1_1 t688 t689)) else (galloonlaw03_YardBelows.j1 kj7 a0 t690 t692 t695 true a1_0 a1_1 t688 t689))) = some r := H
    have A64 := Aside0.mk A640
    clear A640
    have HC65 := Aside0.mk H
    clear H
    have hnb66 := NB677_683.out
    have hnc66 := NB683_677.out
    have hnb67 := NB677_687.out
    have hnc67 := NB687_677.out
    have hnb68 := NB677_691.out
    have hnc68 := NB691_677.out
    obtain ⟨hcz69_0, hcz69_1, hfz69_0, hfz69_1⟩ := cQ BK677
    go_upto_region 10 with (first | ((with_reducible refine gate_callee (f := 54) rfl ?_); refine gL 105 Try.func54 #[.int .i64 a0, .agg #[.int .i64 a1_0, .int .i64 a1_1]] (h := ?_); (with_reducible refine (galloonref03_Next.calls kj7 a0 a1_0 a1_1 t699 t700 t701 _ A63.out).mono ?_); rintro e w70 ⟨rfl, hb⟩; refine ⟨_, rfl, ?_⟩; replace HO_13 := rB HO_13 hb; replace BK677 := kB BK677 hb; replace BK683 := kB BK683 hb; replace BK687 := kB BK687 hb; replace BK691 := kB BK691 hb; replace HB := bS HB hb; (try clear hb); (try clear hb2); (try clear hk); (try clear hi)) | ((with_reducible refine gate_dst (N := 15) rfl ?_); (try (refine gate_guard (by rfl) ?_; dsimp only)); refine box_event ?hg (N := 15) ?hd (cs := #[.int .i64 0, .int .i64 0]) (t := 23) ?hr ?_; (case hd => rfl); (case hg => rfl); (case hr => first | (go_simp; done) | (go_simp; rfl)); intro gb702 hg w71 hbox hb; replace HO_13 := Aside0.mk (Kd.R_below (Kd.R_elderB (by (with_reducible repeat (first | apply Kd.R_alloc | apply Kd.R_drewN | apply Kd.R_drew)); exact HO_13.out) gb702 (Nat.le_of_eq hg.symm)) hb); have BK702 := Aside0.mk (hbox); have GW702 := bG HB hg; have GE702 := bG HB hg; replace HB := bS HB hb; have NB677_702 := nL BK677 hg; have NB702_677 := nG BK677 hg; replace BK677 := kB BK677 hb; have NB683_702 := nL BK683 hg; have NB702_683 := nG BK683 hg; replace BK683 := kB BK683 hb; have NB687_702 := nL BK687 hg; have NB702_687 := nG BK687 hg; replace BK687 := kB BK687 hb; have NB691_702 := nL BK691 hg; have NB702_691 := nG BK691 hg; replace BK691 := kB BK691 hb; clear hb hbox hg; have hnb72 := NB702_677.out; have hnc72 := NB677_702.out; have hnb73 := NB702_683.out; have hnc73 := NB683_702.out; have hnb74 := NB702_687.out; have hnc74 := NB687_702.out; have hnb75 := NB702_691.out; have hnc75 := NB691_702.out; obtain ⟨hcz76_0, hcz76_1, hfz76_0, hfz76_1⟩ := cQ BK702; obtain ⟨hcz77_0, hcz77_1, hfz77_0, hfz77_1⟩ := cQ BK677) | ((with_reducible refine gate_callee (f := 55) rfl ?_); refine gL 111 Try.func55 #[.int .i64 a0, .agg #[.int .i64 a1_0, .int .i64 a1_1]] (h := ?_); (with_reducible refine (galloonref03_Before.calls kj7 a0 a1_0 a1_1 t703 t704 t705 _ A64.out).mono ?_); rintro e w78 ⟨rfl, hb⟩; refine ⟨_, rfl, ?_⟩; replace HO_13 := Aside0.mk (Kd.R_below (by (with_reducible repeat (first | apply Kd.R_alloc | apply Kd.R_drewN | apply Kd.R_drew)); exact (Kd.R_mono (Kd.R_far (p := ⟨gb702, 1, none⟩) (Kd.R_far (p := ⟨gb702, 0, none⟩) (Kd.R_mono HO_13.out (fun k_ hk => (⟨hk, hk.2⟩ : _ ∧ k_ ≠ gb702))) (fun _ hk => hk.2) (.int .i64 t699)) (fun _ hk => hk.2) (.int .i64 t700)) (fun _ h_ => h_.1))) hb); replace BK677 := kF BK677 hb; replace BK683 := kF BK683 hb; replace BK687 := kF BK687 hb; replace BK691 := kF BK691 hb; replace BK702 := Aside0.mk (blk_below (g := gb702) (o := .cells #[.int .i64 t699, .int .i64 t700] 23 (0, 0)) (by (with_reducible repeat (first | refine blk_drewN ?_ _ | refine blk_drew ?_ | refine blk_alloc ?_ _)); refine blk_put (cs := #[.int .i64 t699, .int .i64 0]) ?_ 1 _ rfl; (with_reducible repeat (first | refine blk_drewN ?_ _ | refine blk_drew ?_ | refine blk_alloc ?_ _)); refine blk_put (cs := #[.int .i64 0, .int .i64 0]) ?_ 0 _ rfl; (with_reducible repeat (first | refine blk_drewN ?_ _ | refine blk_drew ?_ | refine blk_alloc ?_ _)); exact BK702.out) hb); replace HB := bS HB hb; (try clear hb); (try clear hb2); (try clear hk); (try clear hi)) | ((with_reducible refine gate_dst (N := 17) rfl ?_); (try (refine gate_guard (by rfl) ?_; dsimp only)); refine box_event ?hg (N := 17) ?hd (cs := #[.int .i64 0, .int .i64 0]) (t := 23) ?hr ?_; (case hd => rfl); (case hg => rfl); (case hr => first | (go_simp; done) | (go_simp; rfl)); intro gb706 hg w79 hbox hb; replace HO_13 := Aside0.mk (Kd.R_below (Kd.R_elderB (by (with_reducible repeat (first | apply Kd.R_alloc | apply Kd.R_drewN | apply Kd.R_drew)); exact HO_13.out) gb706 (Nat.le_of_eq hg.symm)) hb); have BK706 := Aside0.mk (hbox); have GW706 := bG HB hg; have GE706 := bG HB hg; replace HB := bS HB hb; have NB677_706 := nL BK677 hg; have NB706_677 := nG BK677 hg; replace BK677 := kB BK677 hb; have NB683_706 := nL BK683 hg; have NB706_683 := nG BK683 hg; replace BK683 := kB BK683 hb; have NB687_706 := nL BK687 hg; have NB706_687 := nG BK687 hg; replace BK687 := kB BK687 hb; have NB691_706 := nL BK691 hg; have NB706_691 := nG BK691 hg; replace BK691 := kB BK691 hb; have NB702_706 := nL BK702 hg; have NB706_702 := nG BK702 hg; replace BK702 := kB BK702 hb; clear hb hbox hg; have hnb80 := NB706_677.out; have hnc80 := NB677_706.out; have hnb81 := NB706_683.out; have hnc81 := NB683_706.out; have hnb82 := NB706_687.out; have hnc82 := NB687_706.out; have hnb83 := NB706_691.out; have hnc83 := NB691_706.out; have hnb84 := NB706_702.out; have hnc84 := NB702_706.out; obtain ⟨hcz85_0, hcz85_1, hfz85_0, hfz85_1⟩ := cQ BK706))
    (try simp only [Act.put, List.setIfInBounds_toArray, List.set_cons_zero, List.set_cons_succ])
    go_cut [162] (fun v162 wc => ∃ (kq : Nat) (x162_64 : Bool), v162 = .bool x162_64 ∧ Aside0 (galloonlaw03_YardBelows.j1 kq a0 t690 t692 t695 x162_64 a1_0 a1_1 t688 t689 = some r) ∧ Aside0 (kq ≤ kj7) ∧ Aside0 (Kd.R k23 23 wc w.heap.size (fun k_ => k_ ≠ gb677 ∧ k_ ≠ gb683 ∧ k_ ≠ gb687 ∧ k_ ≠ gb691 ∧ k_ ≠ gb702 ∧ k_ ≠ gb706) v693 t692) ∧ Aside0 (wc.heap[gb677]? = some (.cells #[.int .i64 a1_0, .int .i64 a1_1] 23 (0, 0))) ∧ Aside0 (wc.heap[gb683]? = some (.cells #[.int .i64 t680, .int .i64 t681] 23 (0, 0))) ∧ Aside0 (wc.heap[gb687]? = some (.cells #[.int .i64 t684, .int .i64 t685] 23 (0, 0))) ∧ Aside0 (wc.heap[gb691]? = some (.cells #[.int .i64 t688, .int .i64 t689] 23 (0, 0))) ∧ Aside0 (wc.heap[gb702]? = some (.cells #[.int .i64 t699, .int .i64 t700] 23 (0, 0))) ∧ Aside0 (wc.heap[gb706]? = some (.cells #[.int .i64 t703, .int .i64 t704] 23 (0, 0))) ∧ Aside0 (Below w.heap.size w wc))
    case first =>
     have H := HC65.out
     clear HC65
     replace H := Option.bind_eq_some_iff.mp H
     obtain ⟨t707, A860, H⟩ := H
     replace H : (if t678 = t707 then (if t679 = 0 then (if (!(t680 == t699) || (!(t681 == t700))) = true then (galloonlaw03_YardBelows.j1 kj7 a0 t690 t692 t695 true a1_0 a1_1 t688 t689) else (if t701 = true then (if t682 = 0 then (if (!(t684 == t703) || (!(t685 == t704))) = true then (galloonlaw03_YardBelows.j1 kj7 a0 t690 t692 t695 true a1_0 a1_1 t688 t689) else (if t705 = true then (if t686 = 0 then (galloonlaw03_YardBelows.j1 kj7 a0 t690 t692 t695 false a1_0 a1_1 t688 t689) else (galloonlaw03_YardBelows.j1 kj7 a0 t690 t692 t695 true a1_0 a1_1 t688 t689)) else (galloonlaw03_YardBelows.j1 kj7 a0 t690 t692 t695 (t686 != 6) a1_0 a1_1 t688 t689))) else (galloonlaw03_YardBelows.j1 kj7 a0 t690 t692 t695 true a1_0 a1_1 t688 t689)) else (if t682 = 6 then (if (!(t684 == t703) || (!(t685 == t704))) = true then (galloonlaw03_YardBelows.j1 kj7 a0 t690 t692 t695 true a1_0 a1_1 t688 t689) else (if t705 = true then (if t686 = 0 then (galloonlaw03_YardBelows.j1 kj7 a0 t690 t692 t695 false a1_0 a1_1 t688 t689) else (galloonlaw03_YardBelows.j1 kj7 a0 t690 t692 t695 true a1_0 a1_1 t688 t689)) else (galloonlaw03_YardBelows.j1 kj7 a0 t690 t692 t695 (t686 != 6) a1_0 a1_1 t688 t689))) else (galloonlaw03_YardBelows.j1 kj7 a0 t690 t692 t695 true a1_0 a1_1 t688 t689)))) else (galloonlaw03_YardBelows.j1 kj7 a0 t690 t692 t695 true a1_0 a1_1 t688 t689)) else (galloonlaw03_YardBelows.j1 kj7 a0 t690 t692 t695 true a1_0 a1_1 t688 t689)) = some r := H
     have A86 := Aside0.mk A860
     clear A860
     by_cases c87 : t678 = t707
     case neg =>
      rw [if_neg c87] at H
      have c87b0 : (t678 == t707) = false := beq_eq_false_iff_ne.mpr c87
      have c87b1 : (t678 != t707) = true := bne_iff_ne.mpr c87
      (first | rw [c87b0] | (simp only [i64_w, i32_w]; rw [c87b0]) | skip)
      first | (exact absurd ((galloonlaw03_YardBelows.j1_bad H).symm.trans hr.out) (by decide)) | (exact absurd ((galloonlaw03_YardBelows.j2_bad H).symm.trans hr.out) (by decide))
     rw [if_pos c87] at H
     have c87b0 : (t678 == t707) = true := beq_iff_eq.mpr c87
     have c87b1 : (t678 != t707) = false := bne_eq_false_iff_eq.mpr c87
     clear c87
     (first | rw [c87b0] | (simp only [i64_w, i32_w]; rw [c87b0]) | skip)
     by_cases c88 : t679 = 0
     case neg =>
      rw [if_neg c88] at H
      have c88b0 : (t679 == 0) = false := beq_eq_false_iff_ne.mpr c88
      have c88b1 : (t679 != 0) = true := bne_iff_ne.mpr c88
      first | (exact absurd ((galloonlaw03_YardBelows.j1_bad H).symm.trans hr.out) (by decide)) | (exact absurd ((galloonlaw03_YardBelows.j2_bad H).symm.trans hr.out) (by decide))
     rw [if_pos c88] at H
     have c88b0 : (t679 == 0) = true := beq_iff_eq.mpr c88
     have c88b1 : (t679 != 0) = false := bne_eq_false_iff_eq.mpr c88
     clear c88
     by_cases c89 : (!(t680 == t699) || (!(t681 == t700))) = true
     ·rw [if_pos c89] at H
      have c89b0 : (!(t680 == t699) || (!(t681 == t700))) = true := c89
      clear c89
      first | (exact absurd ((galloonlaw03_YardBelows.j1_bad H).symm.trans hr.out) (by decide)) | (exact absurd ((galloonlaw03_YardBelows.j2_bad H).symm.trans hr.out) (by decide))
     ·rw [if_neg c89] at H
      have c89b0 : (!(t680 == t699) || (!(t681 == t700))) = false := by simpa using c89
      clear c89
      by_cases c106 : t701 = true
      ·subst c106
       have H1 : (if t682 = 0 then (if (!(t684 == t703) || (!(t685 == t704))) = true then (galloonlaw03_YardBelows.j1 kj7 a0 t690 t692 t695 true a1_0 a1_1 t688 t689) else (if t705 = true then (if t686 = 0 then (galloonlaw03_YardBelows.j1 kj7 a0 t690 t692 t695 false a1_0 a1_1 t688 t689) else (galloonlaw03_YardBelows.j1 kj7 a0 t690 t692 t695 true a1_0 a1_1 t688 t689)) else (galloonlaw03_YardBelows.j1 kj7 a0 t690 t692 t695 (t686 != 6) a1_0 a1_1 t688 t689))) else (galloonlaw03_YardBelows.j1 kj7 a0 t690 t692 t695 true a1_0 a1_1 t688 t689)) = some r := by rw [if_pos rfl] at H; exact H
       clear H
       have H := H1
       clear H1
       by_cases c107 : t682 = 0
       case neg =>
        rw [if_neg c107] at H
        have c107b0 : (t682 == 0) = false := beq_eq_false_iff_ne.mpr c107
        have c107b1 : (t682 != 0) = true := bne_iff_ne.mpr c107
        first | (exact absurd ((galloonlaw03_YardBelows.j1_bad H).symm.trans hr.out) (by decide)) | (exact absurd ((galloonlaw03_YardBelows.j2_bad H).symm.trans hr.out) (by decide))
       rw [if_pos c107] at H
       have c107b0 : (t682 == 0) = true := beq_iff_eq.mpr c107
       have c107b1 : (t682 != 0) = false := bne_eq_false_iff_eq.mpr c107
       clear c107
       by_cases c108 : (!(t684 == t703) || (!(t685 == t704))) = true
       ·rw [if_pos c108] at H
        have c108b0 : (!(t684 == t703) || (!(t685 == t704))) = true := c108
        clear c108
        first | (exact absurd ((galloonlaw03_YardBelows.j1_bad H).symm.trans hr.out) (by decide)) | (exact absurd ((galloonlaw03_YardBelows.j2_bad H).symm.trans hr.out) (by decide))
       ·rw [if_neg c108] at H
        have c108b0 : (!(t684 == t703) || (!(t685 == t704))) = false := by simpa using c108
        clear c108
        by_cases c130 : t705 = true
        ·subst c130
         have H1 : (if t686 = 0 then (galloonlaw03_YardBelows.j1 kj7 a0 t690 t692 t695 false a1_0 a1_1 t688 t689) else (galloonlaw03_YardBelows.j1 kj7 a0 t690 t692 t695 true a1_0 a1_1 t688 t689)) = some r := by rw [if_pos rfl] at H; exact H
         clear H
         have H := H1
         clear H1
         by_cases c131 : t686 = 0
         case neg =>
          rw [if_neg c131] at H
          have c131b0 : (t686 == 0) = false := beq_eq_false_iff_ne.mpr c131
          have c131b1 : (t686 != 0) = true := bne_iff_ne.mpr c131
          first | (exact absurd ((galloonlaw03_YardBelows.j1_bad H).symm.trans hr.out) (by decide)) | (exact absurd ((galloonlaw03_YardBelows.j2_bad H).symm.trans hr.out) (by decide))
         rw [if_pos c131] at H
         have c131b0 : (t686 == 0) = true := beq_iff_eq.mpr c131
         have c131b1 : (t686 != 0) = false := bne_eq_false_iff_eq.mpr c131
         clear c131
         have H' := Aside0.mk H
         clear H
         have hnb132 := NB677_683.out
         have hnc132 := NB683_677.out
         have hnb133 := NB677_687.out
         have hnc133 := NB687_677.out
         have hnb134 := NB677_691.out
         have hnc134 := NB691_677.out
         have hnb135 := NB677_702.out
         have hnc135 := NB702_677.out
         have hnb136 := NB677_706.out
         have hnc136 := NB706_677.out
         obtain ⟨hcz137_0, hcz137_1, hfz137_0, hfz137_1⟩ := cQ BK677
         go_wp2_with (first | ((with_reducible refine gate_callee (f := 56) rfl ?_); refine gL 117 Try.func56 #[.int .i64 a0, .agg #[.int .i64 a1_0, .int .i64 a1_1]] (h := ?_); (with_reducible refine (galloonref03_Below.calls kj7 a0 a1_0 a1_1 t707 _ A86.out).mono ?_); rintro e w138 ⟨rfl, hb⟩; refine ⟨_, rfl, ?_⟩; replace HO_13 := Aside0.mk (Kd.R_below (by (with_reducible repeat (first | apply Kd.R_alloc | apply Kd.R_drewN | apply Kd.R_drew)); exact (Kd.R_mono (Kd.R_far (p := ⟨gb706, 1, none⟩) (Kd.R_far (p := ⟨gb706, 0, none⟩) (Kd.R_mono HO_13.out (fun k_ hk => (⟨hk, hk.2⟩ : _ ∧ k_ ≠ gb706))) (fun _ hk => hk.2) (.int .i64 t703)) (fun _ hk => hk.2) (.int .i64 t704)) (fun _ h_ => h_.1))) hb); replace BK677 := kF BK677 hb; replace BK683 := kF BK683 hb; replace BK687 := kF BK687 hb; replace BK691 := kF BK691 hb; replace BK702 := kF BK702 hb; replace BK706 := Aside0.mk (blk_below (g := gb706) (o := .cells #[.int .i64 t703, .int .i64 t704] 23 (0, 0)) (by (with_reducible repeat (first | refine blk_drewN ?_ _ | refine blk_drew ?_ | refine blk_alloc ?_ _)); refine blk_put (cs := #[.int .i64 t703, .int .i64 0]) ?_ 1 _ rfl; (with_reducible repeat (first | refine blk_drewN ?_ _ | refine blk_drew ?_ | refine blk_alloc ?_ _)); refine blk_put (cs := #[.int .i64 0, .int .i64 0]) ?_ 0 _ rfl; (with_reducible repeat (first | refine blk_drewN ?_ _ | refine blk_drew ?_ | refine blk_alloc ?_ _)); exact BK706.out) hb); replace HB := bS HB hb; (try clear hb); (try clear hb2); (try clear hk); (try clear hi); have hnb139 := NB683_687.out; have hnc139 := NB687_683.out; have hnb140 := NB683_691.out; have hnc140 := NB691_683.out; have hnb141 := NB683_702.out; have hnc141 := NB702_683.out; have hnb142 := NB683_706.out; have hnc142 := NB706_683.out; obtain ⟨hcz143_0, hcz143_1, hfz143_0, hfz143_1⟩ := cQ BK683; have hnb144 := NB702_687.out; have hnc144 := NB687_702.out; have hnb145 := NB702_691.out; have hnc145 := NB691_702.out; have hnb146 := NB702_706.out; have hnc146 := NB706_702.out; obtain ⟨hcz147_0, hcz147_1, hfz147_0, hfz147_1⟩ := cQ BK702; have hnb148 := NB687_691.out; have hnc148 := NB691_687.out; have hnb149 := NB687_706.out; have hnc149 := NB706_687.out; obtain ⟨hcz150_0, hcz150_1, hfz150_0, hfz150_1⟩ := cQ BK687; have hnb151 := NB706_691.out; have hnc151 := NB691_706.out; obtain ⟨hcz152_0, hcz152_1, hfz152_0, hfz152_1⟩ := cQ BK706))
         go_meet
         case rel => exact ⟨_, (false), (by first | rfl | (simp; done) | (simp [*]; done)), H', ⟨by have := HJ7.out; first | omega | exact Nat.le_refl _⟩, ⟨by (with_reducible repeat (first | apply Kd.R_alloc | apply Kd.R_drewN | apply Kd.R_drew)); exact Kd.R_mono HO_13.out (fun _ hk => ⟨hk.1.1.1, ⟨hk.1.1.2.1, ⟨hk.1.1.2.2.1, ⟨hk.1.1.2.2.2, ⟨hk.1.2, hk.2⟩⟩⟩⟩⟩)⟩, kA BK677, kA BK683, kA BK687, kA BK691, kA BK702, kA BK706, bA HB⟩
        ·replace c130 := Bool.eq_false_iff.mpr c130
         subst c130
         have H1 : (galloonlaw03_YardBelows.j1 kj7 a0 t690 t692 t695 (t686 != 6) a1_0 a1_1 t688 t689) = some r := by rw [if_neg (show ¬ (false = true) by decide)] at H; exact H
         clear H
         have H := H1
         clear H1
         have H' := Aside0.mk H
         clear H
         have hnb174 := NB677_683.out
         have hnc174 := NB683_677.out
         have hnb175 := NB677_687.out
         have hnc175 := NB687_677.out
         have hnb176 := NB677_691.out
         have hnc176 := NB691_677.out
         have hnb177 := NB677_702.out
         have hnc177 := NB702_677.out
         have hnb178 := NB677_706.out
         have hnc178 := NB706_677.out
         obtain ⟨hcz179_0, hcz179_1, hfz179_0, hfz179_1⟩ := cQ BK677
         go_wp2_with (first | ((with_reducible refine gate_callee (f := 56) rfl ?_); refine gL 117 Try.func56 #[.int .i64 a0, .agg #[.int .i64 a1_0, .int .i64 a1_1]] (h := ?_); (with_reducible refine (galloonref03_Below.calls kj7 a0 a1_0 a1_1 t707 _ A86.out).mono ?_); rintro e w180 ⟨rfl, hb⟩; refine ⟨_, rfl, ?_⟩; replace HO_13 := Aside0.mk (Kd.R_below (by (with_reducible repeat (first | apply Kd.R_alloc | apply Kd.R_drewN | apply Kd.R_drew)); exact (Kd.R_mono (Kd.R_far (p := ⟨gb706, 1, none⟩) (Kd.R_far (p := ⟨gb706, 0, none⟩) (Kd.R_mono HO_13.out (fun k_ hk => (⟨hk, hk.2⟩ : _ ∧ k_ ≠ gb706))) (fun _ hk => hk.2) (.int .i64 t703)) (fun _ hk => hk.2) (.int .i64 t704)) (fun _ h_ => h_.1))) hb); replace BK677 := kF BK677 hb; replace BK683 := kF BK683 hb; replace BK687 := kF BK687 hb; replace BK691 := kF BK691 hb; replace BK702 := kF BK702 hb; replace BK706 := Aside0.mk (blk_below (g := gb706) (o := .cells #[.int .i64 t703, .int .i64 t704] 23 (0, 0)) (by (with_reducible repeat (first | refine blk_drewN ?_ _ | refine blk_drew ?_ | refine blk_alloc ?_ _)); refine blk_put (cs := #[.int .i64 t703, .int .i64 0]) ?_ 1 _ rfl; (with_reducible repeat (first | refine blk_drewN ?_ _ | refine blk_drew ?_ | refine blk_alloc ?_ _)); refine blk_put (cs := #[.int .i64 0, .int .i64 0]) ?_ 0 _ rfl; (with_reducible repeat (first | refine blk_drewN ?_ _ | refine blk_drew ?_ | refine blk_alloc ?_ _)); exact BK706.out) hb); replace HB := bS HB hb; (try clear hb); (try clear hb2); (try clear hk); (try clear hi); have hnb181 := NB683_687.out; have hnc181 := NB687_683.out; have hnb182 := NB683_691.out; have hnc182 := NB691_683.out; have hnb183 := NB683_702.out; have hnc183 := NB702_683.out; have hnb184 := NB683_706.out; have hnc184 := NB706_683.out; obtain ⟨hcz185_0, hcz185_1, hfz185_0, hfz185_1⟩ := cQ BK683; have hnb186 := NB702_687.out; have hnc186 := NB687_702.out; have hnb187 := NB702_691.out; have hnc187 := NB691_702.out; have hnb188 := NB702_706.out; have hnc188 := NB706_702.out; obtain ⟨hcz189_0, hcz189_1, hfz189_0, hfz189_1⟩ := cQ BK702; have hnb190 := NB687_691.out; have hnc190 := NB691_687.out; have hnb191 := NB687_706.out; have hnc191 := NB706_687.out; obtain ⟨hcz192_0, hcz192_1, hfz192_0, hfz192_1⟩ := cQ BK687; have hnb193 := NB706_691.out; have hnc193 := NB691_706.out; obtain ⟨hcz194_0, hcz194_1, hfz194_0, hfz194_1⟩ := cQ BK706))
         go_meet
         case rel => exact ⟨_, ((t686 != 6)), (by first | rfl | (simp; done) | (simp [*]; done)), H', ⟨by have := HJ7.out; first | omega | exact Nat.le_refl _⟩, ⟨by (with_reducible repeat (first | apply Kd.R_alloc | apply Kd.R_drewN | apply Kd.R_drew)); exact Kd.R_mono HO_13.out (fun _ hk => ⟨hk.1.1.1, ⟨hk.1.1.2.1, ⟨hk.1.1.2.2.1, ⟨hk.1.1.2.2.2, ⟨hk.1.2, hk.2⟩⟩⟩⟩⟩)⟩, kA BK677, kA BK683, kA BK687, kA BK691, kA BK702, kA BK706, bA HB⟩
      ·replace c106 := Bool.eq_false_iff.mpr c106
       subst c106
       have H1 : (if t682 = 6 then (if (!(t684 == t703) || (!(t685 == t704))) = true then (galloonlaw03_YardBelows.j1 kj7 a0 t690 t692 t695 true a1_0 a1_1 t688 t689) else (if t705 = true then (if t686 = 0 then (galloonlaw03_YardBelows.j1 kj7 a0 t690 t692 t695 false a1_0 a1_1 t688 t689) else (galloonlaw03_YardBelows.j1 kj7 a0 t690 t692 t695 true a1_0 a1_1 t688 t689)) else (galloonlaw03_YardBelows.j1 kj7 a0 t690 t692 t695 (t686 != 6) a1_0 a1_1 t688 t689))) else (galloonlaw03_YardBelows.j1 kj7 a0 t690 t692 t695 true a1_0 a1_1 t688 t689)) = some r := by rw [if_neg (show ¬ (false = true) by decide)] at H; exact H
       clear H
       have H := H1
       clear H1
       by_cases c211 : t682 = 6
       case neg =>
        rw [if_neg c211] at H
        have c211b0 : (t682 == 6) = false := beq_eq_false_iff_ne.mpr c211
        have c211b1 : (t682 != 6) = true := bne_iff_ne.mpr c211
        first | (exact absurd ((galloonlaw03_YardBelows.j1_bad H).symm.trans hr.out) (by decide)) | (exact absurd ((galloonlaw03_YardBelows.j2_bad H).symm.trans hr.out) (by decide))
       rw [if_pos c211] at H
       have c211b0 : (t682 == 6) = true := beq_iff_eq.mpr c211
       have c211b1 : (t682 != 6) = false := bne_eq_false_iff_eq.mpr c211
       clear c211
       by_cases c212 : (!(t684 == t703) || (!(t685 == t704))) = true
       ·rw [if_pos c212] at H
        have c212b0 : (!(t684 == t703) || (!(t685 == t704))) = true := c212
        clear c212
        first | (exact absurd ((galloonlaw03_YardBelows.j1_bad H).symm.trans hr.out) (by decide)) | (exact absurd ((galloonlaw03_YardBelows.j2_bad H).symm.trans hr.out) (by decide))
       ·rw [if_neg c212] at H
        have c212b0 : (!(t684 == t703) || (!(t685 == t704))) = false := by simpa using c212
        clear c212
        by_cases c234 : t705 = true
        ·subst c234
         have H1 : (if t686 = 0 then (galloonlaw03_YardBelows.j1 kj7 a0 t690 t692 t695 false a1_0 a1_1 t688 t689) else (galloonlaw03_YardBelows.j1 kj7 a0 t690 t692 t695 true a1_0 a1_1 t688 t689)) = some r := by rw [if_pos rfl] at H; exact H
         clear H
         have H := H1
         clear H1
         by_cases c235 : t686 = 0
         case neg =>
          rw [if_neg c235] at H
          have c235b0 : (t686 == 0) = false := beq_eq_false_iff_ne.mpr c235
          have c235b1 : (t686 != 0) = true := bne_iff_ne.mpr c235
          first | (exact absurd ((galloonlaw03_YardBelows.j1_bad H).symm.trans hr.out) (by decide)) | (exact absurd ((galloonlaw03_YardBelows.j2_bad H).symm.trans hr.out) (by decide))
         rw [if_pos c235] at H
         have c235b0 : (t686 == 0) = true := beq_iff_eq.mpr c235
         have c235b1 : (t686 != 0) = false := bne_eq_false_iff_eq.mpr c235
         clear c235
         have H' := Aside0.mk H
         clear H
         have hnb236 := NB677_683.out
         have hnc236 := NB683_677.out
         have hnb237 := NB677_687.out
         have hnc237 := NB687_677.out
         have hnb238 := NB677_691.out
         have hnc238 := NB691_677.out
         have hnb239 := NB677_702.out
         have hnc239 := NB702_677.out
         have hnb240 := NB677_706.out
         have hnc240 := NB706_677.out
         obtain ⟨hcz241_0, hcz241_1, hfz241_0, hfz241_1⟩ := cQ BK677
         go_wp2_with (first | ((with_reducible refine gate_callee (f := 56) rfl ?_); refine gL 117 Try.func56 #[.int .i64 a0, .agg #[.int .i64 a1_0, .int .i64 a1_1]] (h := ?_); (with_reducible refine (galloonref03_Below.calls kj7 a0 a1_0 a1_1 t707 _ A86.out).mono ?_); rintro e w242 ⟨rfl, hb⟩; refine ⟨_, rfl, ?_⟩; replace HO_13 := Aside0.mk (Kd.R_below (by (with_reducible repeat (first | apply Kd.R_alloc | apply Kd.R_drewN | apply Kd.R_drew)); exact (Kd.R_mono (Kd.R_far (p := ⟨gb706, 1, none⟩) (Kd.R_far (p := ⟨gb706, 0, none⟩) (Kd.R_mono HO_13.out (fun k_ hk => (⟨hk, hk.2⟩ : _ ∧ k_ ≠ gb706))) (fun _ hk => hk.2) (.int .i64 t703)) (fun _ hk => hk.2) (.int .i64 t704)) (fun _ h_ => h_.1))) hb); replace BK677 := kF BK677 hb; replace BK683 := kF BK683 hb; replace BK687 := kF BK687 hb; replace BK691 := kF BK691 hb; replace BK702 := kF BK702 hb; replace BK706 := Aside0.mk (blk_below (g := gb706) (o := .cells #[.int .i64 t703, .int .i64 t704] 23 (0, 0)) (by (with_reducible repeat (first | refine blk_drewN ?_ _ | refine blk_drew ?_ | refine blk_alloc ?_ _)); refine blk_put (cs := #[.int .i64 t703, .int .i64 0]) ?_ 1 _ rfl; (with_reducible repeat (first | refine blk_drewN ?_ _ | refine blk_drew ?_ | refine blk_alloc ?_ _)); refine blk_put (cs := #[.int .i64 0, .int .i64 0]) ?_ 0 _ rfl; (with_reducible repeat (first | refine blk_drewN ?_ _ | refine blk_drew ?_ | refine blk_alloc ?_ _)); exact BK706.out) hb); replace HB := bS HB hb; (try clear hb); (try clear hb2); (try clear hk); (try clear hi); have hnb243 := NB683_687.out; have hnc243 := NB687_683.out; have hnb244 := NB683_691.out; have hnc244 := NB691_683.out; have hnb245 := NB683_702.out; have hnc245 := NB702_683.out; have hnb246 := NB683_706.out; have hnc246 := NB706_683.out; obtain ⟨hcz247_0, hcz247_1, hfz247_0, hfz247_1⟩ := cQ BK683; have hnb248 := NB702_687.out; have hnc248 := NB687_702.out; have hnb249 := NB702_691.out; have hnc249 := NB691_702.out; have hnb250 := NB702_706.out; have hnc250 := NB706_702.out; obtain ⟨hcz251_0, hcz251_1, hfz251_0, hfz251_1⟩ := cQ BK702; have hnb252 := NB687_691.out; have hnc252 := NB691_687.out; have hnb253 := NB687_706.out; have hnc253 := NB706_687.out; obtain ⟨hcz254_0, hcz254_1, hfz254_0, hfz254_1⟩ := cQ BK687; have hnb255 := NB706_691.out; have hnc255 := NB691_706.out; obtain ⟨hcz256_0, hcz256_1, hfz256_0, hfz256_1⟩ := cQ BK706))
         go_meet
         case rel => exact ⟨_, (false), (by first | rfl | (simp; done) | (simp [*]; done)), H', ⟨by have := HJ7.out; first | omega | exact Nat.le_refl _⟩, ⟨by (with_reducible repeat (first | apply Kd.R_alloc | apply Kd.R_drewN | apply Kd.R_drew)); exact Kd.R_mono HO_13.out (fun _ hk => ⟨hk.1.1.1, ⟨hk.1.1.2.1, ⟨hk.1.1.2.2.1, ⟨hk.1.1.2.2.2, ⟨hk.1.2, hk.2⟩⟩⟩⟩⟩)⟩, kA BK677, kA BK683, kA BK687, kA BK691, kA BK702, kA BK706, bA HB⟩
        ·replace c234 := Bool.eq_false_iff.mpr c234
         subst c234
         have H1 : (galloonlaw03_YardBelows.j1 kj7 a0 t690 t692 t695 (t686 != 6) a1_0 a1_1 t688 t689) = some r := by rw [if_neg (show ¬ (false = true) by decide)] at H; exact H
         clear H
         have H := H1
         clear H1
         have H' := Aside0.mk H
         clear H
         have hnb278 := NB677_683.out
         have hnc278 := NB683_677.out
         have hnb279 := NB677_687.out
         have hnc279 := NB687_677.out
         have hnb280 := NB677_691.out
         have hnc280 := NB691_677.out
         have hnb281 := NB677_702.out
         have hnc281 := NB702_677.out
         have hnb282 := NB677_706.out
         have hnc282 := NB706_677.out
         obtain ⟨hcz283_0, hcz283_1, hfz283_0, hfz283_1⟩ := cQ BK677
         go_wp2_with (first | ((with_reducible refine gate_callee (f := 56) rfl ?_); refine gL 117 Try.func56 #[.int .i64 a0, .agg #[.int .i64 a1_0, .int .i64 a1_1]] (h := ?_); (with_reducible refine (galloonref03_Below.calls kj7 a0 a1_0 a1_1 t707 _ A86.out).mono ?_); rintro e w284 ⟨rfl, hb⟩; refine ⟨_, rfl, ?_⟩; replace HO_13 := Aside0.mk (Kd.R_below (by (with_reducible repeat (first | apply Kd.R_alloc | apply Kd.R_drewN | apply Kd.R_drew)); exact (Kd.R_mono (Kd.R_far (p := ⟨gb706, 1, none⟩) (Kd.R_far (p := ⟨gb706, 0, none⟩) (Kd.R_mono HO_13.out (fun k_ hk => (⟨hk, hk.2⟩ : _ ∧ k_ ≠ gb706))) (fun _ hk => hk.2) (.int .i64 t703)) (fun _ hk => hk.2) (.int .i64 t704)) (fun _ h_ => h_.1))) hb); replace BK677 := kF BK677 hb; replace BK683 := kF BK683 hb; replace BK687 := kF BK687 hb; replace BK691 := kF BK691 hb; replace BK702 := kF BK702 hb; replace BK706 := Aside0.mk (blk_below (g := gb706) (o := .cells #[.int .i64 t703, .int .i64 t704] 23 (0, 0)) (by (with_reducible repeat (first | refine blk_drewN ?_ _ | refine blk_drew ?_ | refine blk_alloc ?_ _)); refine blk_put (cs := #[.int .i64 t703, .int .i64 0]) ?_ 1 _ rfl; (with_reducible repeat (first | refine blk_drewN ?_ _ | refine blk_drew ?_ | refine blk_alloc ?_ _)); refine blk_put (cs := #[.int .i64 0, .int .i64 0]) ?_ 0 _ rfl; (with_reducible repeat (first | refine blk_drewN ?_ _ | refine blk_drew ?_ | refine blk_alloc ?_ _)); exact BK706.out) hb); replace HB := bS HB hb; (try clear hb); (try clear hb2); (try clear hk); (try clear hi); have hnb285 := NB683_687.out; have hnc285 := NB687_683.out; have hnb286 := NB683_691.out; have hnc286 := NB691_683.out; have hnb287 := NB683_702.out; have hnc287 := NB702_683.out; have hnb288 := NB683_706.out; have hnc288 := NB706_683.out; obtain ⟨hcz289_0, hcz289_1, hfz289_0, hfz289_1⟩ := cQ BK683; have hnb290 := NB702_687.out; have hnc290 := NB687_702.out; have hnb291 := NB702_691.out; have hnc291 := NB691_702.out; have hnb292 := NB702_706.out; have hnc292 := NB706_702.out; obtain ⟨hcz293_0, hcz293_1, hfz293_0, hfz293_1⟩ := cQ BK702; have hnb294 := NB687_691.out; have hnc294 := NB691_687.out; have hnb295 := NB687_706.out; have hnc295 := NB706_687.out; obtain ⟨hcz296_0, hcz296_1, hfz296_0, hfz296_1⟩ := cQ BK687; have hnb297 := NB706_691.out; have hnc297 := NB691_706.out; obtain ⟨hcz298_0, hcz298_1, hfz298_0, hfz298_1⟩ := cQ BK706))
         go_meet
         case rel => exact ⟨_, ((t686 != 6)), (by first | rfl | (simp; done) | (simp [*]; done)), H', ⟨by have := HJ7.out; first | omega | exact Nat.le_refl _⟩, ⟨by (with_reducible repeat (first | apply Kd.R_alloc | apply Kd.R_drewN | apply Kd.R_drew)); exact Kd.R_mono HO_13.out (fun _ hk => ⟨hk.1.1.1, ⟨hk.1.1.2.1, ⟨hk.1.1.2.2.1, ⟨hk.1.1.2.2.2, ⟨hk.1.2, hk.2⟩⟩⟩⟩⟩)⟩, kA BK677, kA BK683, kA BK687, kA BK691, kA BK702, kA BK706, bA HB⟩
    case rest =>
     clear HC65
     try clear p2
     obtain ⟨kq, x162_64, rfl, HA, HJ64, HO_13, BK677, BK683, BK687, BK691, BK702, BK706, HB⟩ := hcut
     cases kq with
     | zero => exact absurd HA.out (by simp [galloonlaw03_YardBelows.j1])
     | succ kj64 =>
      have H := HA.out
      clear HA
      simp only [galloonlaw03_YardBelows.j1] at H
      by_cases c329 : x162_64 = true
      ·subst c329
       have H1 : (some false) = some r := by rw [if_pos rfl] at H; exact H
       clear H
       have H := H1
       clear H1
       obtain rfl := Option.some.inj H
       exact absurd hr.out (by decide)
      ·replace c329 := Bool.eq_false_iff.mpr c329
       subst c329
       have H1 : ((galloonref03_Nearest.f kj64 a0 a1_0 a1_1).bind fun bt708 => (if (!(t688 == bt708.1) || (!(t689 == bt708.2))) = true then (galloonlaw03_YardBelows.j2 kj64 a0 t692 t695 true a1_0 a1_1) else (galloonlaw03_YardBelows.j2 kj64 a0 t692 t695 (t690 != 0) a1_0 a1_1))) = some r := by rw [if_neg (show ¬ (false = true) by decide)] at H; exact H
       clear H
       have H := H1
       clear H1
       have HC330 := Aside0.mk H
       clear H
       go_upto_region 12 with (fail)
       go_cut [171] (fun v171 wc => ∃ (kq : Nat) (x171_329 : Bool), v171 = .bool x171_329 ∧ Aside0 (galloonlaw03_YardBelows.j2 kq a0 t692 t695 x171_329 a1_0 a1_1 = some r) ∧ Aside0 (kq ≤ kj64) ∧ Aside0 (Kd.R k23 23 wc w.heap.size (fun k_ => k_ ≠ gb677 ∧ k_ ≠ gb683 ∧ k_ ≠ gb687 ∧ k_ ≠ gb691 ∧ k_ ≠ gb702 ∧ k_ ≠ gb706) v693 t692) ∧ Aside0 (wc.heap[gb677]? = some (.cells #[.int .i64 a1_0, .int .i64 a1_1] 23 (0, 0))) ∧ Aside0 (wc.heap[gb683]? = some (.cells #[.int .i64 t680, .int .i64 t681] 23 (0, 0))) ∧ Aside0 (wc.heap[gb687]? = some (.cells #[.int .i64 t684, .int .i64 t685] 23 (0, 0))) ∧ Aside0 (wc.heap[gb691]? = some (.cells #[.int .i64 t688, .int .i64 t689] 23 (0, 0))) ∧ Aside0 (wc.heap[gb702]? = some (.cells #[.int .i64 t699, .int .i64 t700] 23 (0, 0))) ∧ Aside0 (wc.heap[gb706]? = some (.cells #[.int .i64 t703, .int .i64 t704] 23 (0, 0))) ∧ Aside0 (Below w.heap.size w wc))
       case first =>
        have H := HC330.out
        clear HC330
        replace H := Option.bind_eq_some_iff.mp H
        obtain ⟨⟨t708, t709⟩, A3310, H⟩ := H
        replace H : (if (!(t688 == t708) || (!(t689 == t709))) = true then (galloonlaw03_YardBelows.j2 kj64 a0 t692 t695 true a1_0 a1_1) else (galloonlaw03_YardBelows.j2 kj64 a0 t692 t695 (t690 != 0) a1_0 a1_1)) = some r := H
        have A331 := Aside0.mk A3310
        clear A3310
        by_cases c332 : (!(t688 == t708) || (!(t689 == t709))) = true
        ·rw [if_pos c332] at H
         have c332b0 : (!(t688 == t708) || (!(t689 == t709))) = true := c332
         clear c332
         (first | rw [c332b0] | (simp only [i64_w, i32_w]; rw [c332b0]) | skip)
         first | (exact absurd ((galloonlaw03_YardBelows.j1_bad H).symm.trans hr.out) (by decide)) | (exact absurd ((galloonlaw03_YardBelows.j2_bad H).symm.trans hr.out) (by decide))
        ·rw [if_neg c332] at H
         have c332b0 : (!(t688 == t708) || (!(t689 == t709))) = false := by simpa using c332
         clear c332
         (first | rw [c332b0] | (simp only [i64_w, i32_w]; rw [c332b0]) | skip)
         have H' := Aside0.mk H
         clear H
         try go_wp2
         replace HO_13 := Aside0.mk (Kd.R_drew HO_13.out)
         replace BK677 := Aside0.mk (blk_drew BK677.out)
         replace BK683 := Aside0.mk (blk_drew BK683.out)
         replace BK687 := Aside0.mk (blk_drew BK687.out)
         replace BK691 := Aside0.mk (blk_drew BK691.out)
         replace BK702 := Aside0.mk (blk_drew BK702.out)
         replace BK706 := Aside0.mk (blk_drew BK706.out)
         replace HB := Aside0.mk (below_drew1 HB.out)
         refine start_ (n := 9) (S := fun w' => w'.cell? ⟨gb691, 0, none⟩ = some (.int .i64 t688) ∧ w'.cell? ⟨gb691, 1, none⟩ = some (.int .i64 t689) ∧ w'.cell? ⟨gb677, 0, none⟩ = some (.int .i64 a1_0) ∧ w'.cell? ⟨gb677, 1, none⟩ = some (.int .i64 a1_1)) (ds := []) (lb 9 0) (by kernel_rfl) rfl (by kernel_rfl) ⟨(blk_cell BK691.out 0).trans rfl, (blk_cell BK691.out 1).trans rfl, (blk_cell BK677.out 0).trans rfl, (blk_cell BK677.out 1).trans rfl⟩ (fun hHeld => ?_); refine with_tabW galloonlaw03_YardBelows.tab12 galloonlaw03_YardBelows.bits12 (fun HT_ HW_ => ?_)
         generalize wc.drew = w335 at HO_13 BK677 BK683 BK687 BK691 BK702 BK706 HB hHeld ⊢
         refine pk HT_ 9 2 1 164 (h := ?_)
         refine tk4 HT_ HW_ hHeld 9 3 0 163 (h := ?_)
         refine tk4 HT_ HW_ hHeld 9 7 2 165 (h := ?_)
         refine one_ (i := 3) (N := some 166) (lb 9 15) rfl rfl (one_of HT_.out (by kernel_rfl)) (by decide) (fun K hK => ?_)
         refine gS Try.func57 #[.int .i64 a0, .agg #[.int .i64 a1_0, .int .i64 a1_1]] (h := ?_)
         with_reducible refine (galloonref03_Nearest.calls kj64 a0 a1_0 a1_1 t708 t709 _ A331.out).mono ?_
         rintro e w336 ⟨rfl, hb⟩
         refine ⟨_, rfl, ?_⟩
         replace HO_13 := rB HO_13 hb
         replace BK677 := kB BK677 hb
         replace BK683 := kB BK683 hb
         replace BK687 := kB BK687 hb
         replace BK691 := kB BK691 hb
         replace BK702 := kB BK702 hb
         replace BK706 := kB BK706 hb
         replace HB := bS HB hb
         (try clear hb)
         (try clear hb2)
         (try clear hk)
         (try clear hi)
         refine hK.out _ _ ⟨(blk_cell BK691.out 0).trans rfl, (blk_cell BK691.out 1).trans rfl, (blk_cell BK677.out 0).trans rfl, (blk_cell BK677.out 1).trans rfl⟩ (fun hHeld => ?_)
         clear hK K
         refine norm_ (a' := ?_) ?_ ?_
         rotate_left
         ·show Act.put _ (some 166) _ = _
          simp only [Act.put, List.setIfInBounds_toArray, List.set_cons_zero, List.set_cons_succ, i64_w, i32_w]
          rfl
         refine pk HT_ 9 31 4 167 (h := ?_)
         refine pk HT_ 9 63 5 168 (h := ?_)
         refine pk HT_ 9 127 6 169 (h := ?_)
         refine pk HT_ 9 255 7 170 (h := ?_)
         refine pk HT_ 9 511 8 171 (h := ?_)
         refine done_ (done_of HT_.out (by kernel_rfl)) ?_
         try go_wp2
         go_meet
         case rel => exact ⟨_, ((t690 != 0)), (by first | rfl | (simp; done) | (simp [*]; done)), H', ⟨by have := HJ7.out; have := HJ64.out; first | omega | exact Nat.le_refl _⟩, ⟨by (with_reducible repeat (first | apply Kd.R_alloc | apply Kd.R_drewN | apply Kd.R_drew)); exact HO_13.out⟩, kA BK677, kA BK683, kA BK687, kA BK691, kA BK702, kA BK706, bA HB⟩
       case rest =>
        clear HC330
        try clear p2
        obtain ⟨kq, x171_329, rfl, HA, HJ329, HO_13, BK677, BK683, BK687, BK691, BK702, BK706, HB⟩ := hcut
        cases kq with
        | zero => exact absurd HA.out (by simp [galloonlaw03_YardBelows.j2])
        | succ kj329 =>
         have H := HA.out
         clear HA
         simp only [galloonlaw03_YardBelows.j2] at H
         by_cases c337 : x171_329 = true
         ·subst c337
          have H1 : (some false) = some r := by rw [if_pos rfl] at H; exact H
          clear H
          have H := H1
          clear H1
          obtain rfl := Option.some.inj H
          exact absurd hr.out (by decide)
         ·replace c337 := Bool.eq_false_iff.mpr c337
          subst c337
          have H1 : (if a1_1 > a0 then (if (t692.length : Int) = 0 then (if t695 = 2 then ((galloonlaw03_awake.f kj329).bind fun t710 => (some t710)) else (some false)) else (some false)) else ((galloonref03_Touching.f kj329 a0 a1_0 a1_1).bind fun t711 => ((galloonlaw03_fracs.f kj329 t692 t711).bind fun t714 => (if t714 = true then (if t695 = 0 then ((galloonlaw03_awake.f kj329).bind fun t715 => (some t715)) else (some false)) else (some false))))) = some r := by rw [if_neg (show ¬ (false = true) by decide)] at H; exact H
          clear H
          have H := H1
          clear H1
          by_cases c338 : a1_1 > a0
          ·rw [if_pos c338] at H
           have c338b0 : decide (a0 < a1_1) = true := decide_eq_true c338
           clear c338
           by_cases c339 : (t692.length : Int) = 0
           case neg =>
            rw [if_neg c339] at H
            have c339b0 : ((t692.length : Int) == 0) = false := beq_eq_false_iff_ne.mpr c339
            have c339b1 : ((t692.length : Int) != 0) = true := bne_iff_ne.mpr c339
            have c339b2 : ¬ (t692 = []) := fun h_ => c339 (by rw [h_]; rfl)
            obtain rfl := Option.some.inj H
            exact absurd hr.out (by decide)
           rw [if_pos c339] at H
           have c339b0 : ((t692.length : Int) == 0) = true := beq_iff_eq.mpr c339
           have c339b1 : ((t692.length : Int) != 0) = false := bne_eq_false_iff_eq.mpr c339
           clear c339
           by_cases c340 : t695 = 2
           case neg =>
            rw [if_neg c340] at H
            have c340b0 : (t695 == 2) = false := beq_eq_false_iff_ne.mpr c340
            have c340b1 : (t695 != 2) = true := bne_iff_ne.mpr c340
            obtain rfl := Option.some.inj H
            exact absurd hr.out (by decide)
           rw [if_pos c340] at H
           have c340b0 : (t695 == 2) = true := beq_iff_eq.mpr c340
           have c340b1 : (t695 != 2) = false := bne_eq_false_iff_eq.mpr c340
           clear c340
           replace H := Option.bind_eq_some_iff.mp H
           obtain ⟨t710, A3410, H⟩ := H
           replace H : (some t710) = some r := H
           have A341 := Aside0.mk A3410
           clear A3410
           obtain rfl := Option.some.inj H
           have hnb342 := NB677_683.out
           have hnc342 := NB683_677.out
           have hnb343 := NB677_687.out
           have hnc343 := NB687_677.out
           have hnb344 := NB677_691.out
           have hnc344 := NB691_677.out
           have hnb345 := NB677_702.out
           have hnc345 := NB702_677.out
           have hnb346 := NB677_706.out
           have hnc346 := NB706_677.out
           obtain ⟨hcz347_0, hcz347_1, hfz347_0, hfz347_1⟩ := cQ BK677
           obtain ⟨Ao348, co348, eo348⟩ := Kd.R_slice HO_13.out
           subst eo348
           go_wp2_with (first | (go_at_call 21; (with_reducible refine (galloonlaw03_awake.calls kj329  t710 _ A341.out).mono ?_); rintro e w349 ⟨rfl, hb⟩; replace HO_13 := rB HO_13 hb; replace BK677 := kB BK677 hb; replace BK683 := kB BK683 hb; replace BK687 := kB BK687 hb; replace BK691 := kB BK691 hb; replace BK702 := kB BK702 hb; replace BK706 := kB BK706 hb; replace HB := bS HB hb; (try clear hb); (try clear hb2); (try clear hk); (try clear hi)))
           go_ret
           exact ⟨by first | rfl | (simp [errW_none, errW_some] <;> rfl) | (simp [*, errW_none, errW_some] <;> rfl), bB HB⟩
          ·rw [if_neg c338] at H
           have c338b0 : decide (a0 < a1_1) = false := decide_eq_false c338
           clear c338
           replace H := Option.bind_eq_some_iff.mp H
           obtain ⟨t711, A3500, H⟩ := H
           replace H : ((galloonlaw03_fracs.f kj329 t692 t711).bind fun t714 => (if t714 = true then (if t695 = 0 then ((galloonlaw03_awake.f kj329).bind fun t715 => (some t715)) else (some false)) else (some false))) = some r := H
           have A350 := Aside0.mk A3500
           clear A3500
           replace H := Option.bind_eq_some_iff.mp H
           obtain ⟨t714, A3510, H⟩ := H
           replace H : (if t714 = true then (if t695 = 0 then ((galloonlaw03_awake.f kj329).bind fun t715 => (some t715)) else (some false)) else (some false)) = some r := H
           have A351 := Aside0.mk A3510
           clear A3510
           by_cases c352 : t714 = true
           ·subst c352
            have H1 : (if t695 = 0 then ((galloonlaw03_awake.f kj329).bind fun t715 => (some t715)) else (some false)) = some r := by rw [if_pos rfl] at H; exact H
            clear H
            have H := H1
            clear H1
            by_cases c353 : t695 = 0
            case neg =>
             rw [if_neg c353] at H
             have c353b0 : (t695 == 0) = false := beq_eq_false_iff_ne.mpr c353
             have c353b1 : (t695 != 0) = true := bne_iff_ne.mpr c353
             obtain rfl := Option.some.inj H
             exact absurd hr.out (by decide)
            rw [if_pos c353] at H
            have c353b0 : (t695 == 0) = true := beq_iff_eq.mpr c353
            have c353b1 : (t695 != 0) = false := bne_eq_false_iff_eq.mpr c353
            clear c353
            replace H := Option.bind_eq_some_iff.mp H
            obtain ⟨t715, A3540, H⟩ := H
            replace H : (some t715) = some r := H
            have A354 := Aside0.mk A3540
            clear A3540
            obtain rfl := Option.some.inj H
            have hnb355 := NB677_683.out
            have hnc355 := NB683_677.out
            have hnb356 := NB677_687.out
            have hnc356 := NB687_677.out
            have hnb357 := NB677_691.out
            have hnc357 := NB691_677.out
            have hnb358 := NB677_702.out
            have hnc358 := NB702_677.out
            have hnb359 := NB677_706.out
            have hnc359 := NB706_677.out
            obtain ⟨hcz360_0, hcz360_1, hfz360_0, hfz360_1⟩ := cQ BK677
            go_wp2_with (first | ((with_reducible refine gate_callee (f := 59) rfl ?_); refine gL 189 Try.func59 #[.int .i64 a0, .agg #[.int .i64 a1_0, .int .i64 a1_1]] (h := ?_); (with_reducible refine (galloonref03_Touching.calls kj329 a0 a1_0 a1_1 t711 _ A350.out).mono ?_); rintro e w361 ⟨v712, rfl, ho0, hb⟩; refine ⟨_, rfl, ?_⟩; have HO713 := Aside0.mk (Kd.R_lower (Kd.R_newB (Kd.R_newB (Kd.R_newB (Kd.R_newB (Kd.R_newB (Kd.R_newB (Kd.R_new' ho0 (Kd.R_lt (by (with_reducible repeat (first | apply Kd.R_alloc | apply Kd.R_drewN | apply Kd.R_drew)); exact HO_13.out))) (g := gb677) (o := .cells #[.int .i64 a1_0, .int .i64 a1_1] 23 (0, 0)) (kb BK677)) (g := gb683) (o := .cells #[.int .i64 t680, .int .i64 t681] 23 (0, 0)) (kb BK683)) (g := gb687) (o := .cells #[.int .i64 t684, .int .i64 t685] 23 (0, 0)) (kb BK687)) (g := gb691) (o := .cells #[.int .i64 t688, .int .i64 t689] 23 (0, 0)) (kb BK691)) (g := gb702) (o := .cells #[.int .i64 t699, .int .i64 t700] 23 (0, 0)) (kb BK702)) (g := gb706) (o := .cells #[.int .i64 t703, .int .i64 t704] 23 (0, 0)) (kb BK706)) (below_size (bB HB))); replace HO_13 := Aside0.mk (Kd.R_elder' (by (with_reducible repeat (first | apply Kd.R_alloc | apply Kd.R_drewN | apply Kd.R_drew)); exact HO_13.out) (Kd.R_base ho0) hb); replace BK677 := kB BK677 hb; replace BK683 := kB BK683 hb; replace BK687 := kB BK687 hb; replace BK691 := kB BK691 hb; replace BK702 := kB BK702 hb; replace BK706 := kB BK706 hb; replace HB := bS HB hb; (try clear hb); (try clear hb2); (try clear hk); (try clear hi); (try clear ho0); obtain ⟨Ao362, co362, eo362⟩ := Kd.R_slice HO_13.out; subst eo362; obtain ⟨Ao363, co363, eo363⟩ := Kd.R_slice HO713.out; subst eo363) | ((with_reducible refine gate_callee (f := 58) rfl ?_); refine gL 190 Try.func58 #[.slice Ao362 t692.length co362, .slice Ao363 t711.length co363] (h := ?_); (with_reducible refine (galloonlaw03_fracs.calls kj329 _ _ t692 _ _ t711 true _ ?side1 ?side2 ?side3 ?side4 A351.out).mono ?_); (case side1 => repeat (first | exact (Kd.R_reads' HO_13.out).2.2 | (with_reducible refine Kd.C_alloc ?_ _) | (with_reducible refine Kd.C_drewN ?_ _) | (with_reducible refine Kd.C_drew ?_))); (case side2 => exact (Kd.R_reads' HO_13.out).2.1); (case side3 => repeat (first | exact (Kd.R_reads' HO713.out).2.2 | (with_reducible refine Kd.C_alloc ?_ _) | (with_reducible refine Kd.C_drewN ?_ _) | (with_reducible refine Kd.C_drew ?_))); (case side4 => exact (Kd.R_reads' HO713.out).2.1); rintro e w' ⟨rfl, ⟨nd, rfl⟩⟩; refine ⟨_, rfl, ?_⟩) | (go_at_call 21; (with_reducible refine (galloonlaw03_awake.calls kj329  t715 _ A354.out).mono ?_); rintro e w364 ⟨rfl, hb⟩; replace HO_13 := rB HO_13 hb; replace HO713 := rB HO713 hb; replace BK677 := kB BK677 hb; replace BK683 := kB BK683 hb; replace BK687 := kB BK687 hb; replace BK691 := kB BK691 hb; replace BK702 := kB BK702 hb; replace BK706 := kB BK706 hb; replace HB := bS HB hb; (try clear hb); (try clear hb2); (try clear hk); (try clear hi)))
            go_ret
            exact ⟨by first | rfl | (simp [errW_none, errW_some] <;> rfl) | (simp [*, errW_none, errW_some] <;> rfl), bB HB⟩
           ·replace c352 := Bool.eq_false_iff.mpr c352
            subst c352
            have H1 : (some false) = some r := by rw [if_neg (show ¬ (false = true) by decide)] at H; exact H
            clear H
            have H := H1
            clear H1
            obtain rfl := Option.some.inj H
            exact absurd hr.out (by decide)
/-- THE ONE PURE STATEMENT of galloonlaw03_YardBelows: yours. -/
def galloonlaw03_YardBelows.Pure : Prop := ∀ (a0 : Int) (a1_0 : Int) (a1_1 : Int), (Lit.int .i64 a0).wf = true → (Lit.int .i64 a1_0).wf = true → (Lit.int .i64 a1_1).wf = true → ∃ k, galloonlaw03_YardBelows.f k a0 a1_0 a1_1 = some true
theorem galloonlaw03_YardBelows.walk (P : galloonlaw03_YardBelows.Pure) (a0 : Int) (a1_0 : Int) (a1_1 : Int) (w : World) (w0 : (Lit.int .i64 a0).wf = true) (w1_0 : (Lit.int .i64 a1_0).wf = true) (w1_1 : (Lit.int .i64 a1_1).wf = true) :
 Calls Try.prog 16 #[.int .i64 a0, .agg #[.int .i64 a1_0, .int .i64 a1_1]] w fun e w' => e = .returned (.bool true) ∧ Below w.heap.size w w' := by
 obtain ⟨k, h⟩ := P a0 a1_0 a1_1 w0 w1_0 w1_1
 refine (galloonlaw03_YardBelows.calls k a0 a1_0 a1_1 true w h ⟨rfl⟩).mono ?_
 rintro e w' ⟨rfl, hd⟩
 exact ⟨rfl, hd⟩
end Go.Proofs.Ythjodhmkmjabbaa.PY
