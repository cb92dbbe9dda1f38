-- Made by the session's own driver (wip/tools/p2.py) out of the translation; Lean checks it.
import Derived.Test.YthjodhmkmjabbaaSq
import Derived.Test.YthjodhmkmjabbaaPYx0
import Derived.Test.YthjodhmkmjabbaaPYx1
import Derived.Test.YthjodhmkmjabbaaPYx4
import Derived.Test.YthjodhmkmjabbaaPYx7
import Derived.Test.YthjodhmkmjabbaaPYx8
import Derived.Test.YthjodhmkmjabbaaPYx10
import Derived.Test.YthjodhmkmjabbaaPYx25
import Derived.Test.YthjodhmkmjabbaaPYx36
import Derived.Test.YthjodhmkmjabbaaGItem
namespace Go.Proofs.Ythjodhmkmjabbaa.PY
open Go.RowKit Go.Proofs.YthjodhmkmjabbaaW.PrintWords Go.Proofs.YthjodhmkmjabbaaW.PrintLast Go.Proofs.YthjodhmkmjabbaaW.PrintMore
attribute [local go_sem] max2_int min2_int max_two min_two max_three min_three max_four min_four   -- for this text's walks alone
set_option linter.unusedVariables false
set_option linter.unusedSimpArgs false
attribute [local go_sem high] eqA23
/-! ### galloonlaw03_YardClose: function 15 -/
mutual
def galloonlaw03_YardClose.j0 : Nat → Int → Int → Int → Bool → Int → Int → Option (Bool)
 | 0, _, _, _, _, _, _ => none
 | k + 1, x0, x1, x7, x36, x568000, x568001 => if x36 = true then (some false) else ((galloonlaw03_mod.f x1 x7).bind fun t573 => ((yard_Item.f k x0 t573).bind fun bt574 => ((yard_Nearest.f k x0 x568000 x568001).bind fun bt578 => ((yard_Nearest.f k x0 bt574.1 bt574.2.1).bind fun bt582 => (if bt574.2.2 = 0 then (if bt578.2.2 = 0 then (if bt582.2.2 = 0 then ((galloonref03_Valid.f k bt574.1 bt574.2.1).bind fun t586 => (if t586 = true then ((galloonref03_Valid.f k bt578.1 bt578.2.1).bind fun t587 => (if t587 = true then (if bt578.2.1 > x0 then (galloonlaw03_YardClose.j1 k x0 true x568000 x568001 bt574.1 bt574.2.1 bt578.1 bt578.2.1) else (galloonlaw03_YardClose.j1 k x0 (!(bt582.1 == bt574.1) || (!(bt582.2.1 == bt574.2.1))) x568000 x568001 bt574.1 bt574.2.1 bt578.1 bt578.2.1)) else (galloonlaw03_YardClose.j1 k x0 true x568000 x568001 bt574.1 bt574.2.1 bt578.1 bt578.2.1))) else (galloonlaw03_YardClose.j1 k x0 true x568000 x568001 bt574.1 bt574.2.1 bt578.1 bt578.2.1))) else (galloonlaw03_YardClose.j1 k x0 true x568000 x568001 bt574.1 bt574.2.1 bt578.1 bt578.2.1)) else (galloonlaw03_YardClose.j1 k x0 true x568000 x568001 bt574.1 bt574.2.1 bt578.1 bt578.2.1)) else (galloonlaw03_YardClose.j1 k x0 true x568000 x568001 bt574.1 bt574.2.1 bt578.1 bt578.2.1))))))
def galloonlaw03_YardClose.j1 : Nat → Int → Bool → Int → Int → Int → Int → Int → Int → Option (Bool)
 | 0, _, _, _, _, _, _, _, _ => none
 | k + 1, x0, x87, x568000, x568001, x578000, x578001, x582000, x582001 => if x87 = true then (some false) else (if (wrap64 ((mx (wrap64 ((wrap64 (x568000 * x578001)) - (wrap64 (x578000 * x568001)))) (wrap64 (-(wrap64 ((wrap64 (x568000 * x578001)) - (wrap64 (x578000 * x568001))))))) * x582001)) < (wrap64 ((mx (wrap64 ((wrap64 (x568000 * x582001)) - (wrap64 (x582000 * x568001)))) (wrap64 (-(wrap64 ((wrap64 (x568000 * x582001)) - (wrap64 (x582000 * x568001))))))) * x578001)) then (some false) else ((yard_Next.f k x0 x568000 x568001).bind fun bt588 => ((yard_Before.f k x0 x568000 x568001).bind fun bt592 => (if bt588.2.2 = 0 then (if bt592.2.2 = 0 then (galloonlaw03_YardClose.j2 k bt588.2.2 bt592.2.2 false x568000 x568001 x578000 x578001 bt588.1 bt588.2.1 bt592.1 bt592.2.1) else (if bt592.2.2 = 6 then (galloonlaw03_YardClose.j2 k bt588.2.2 bt592.2.2 (x568000 != 0) x568000 x568001 x578000 x578001 bt588.1 bt588.2.1 bt592.1 bt592.2.1) else (galloonlaw03_YardClose.j2 k bt588.2.2 bt592.2.2 true x568000 x568001 x578000 x578001 bt588.1 bt588.2.1 bt592.1 bt592.2.1))) else (if bt588.2.2 = 6 then (if x568000 = x568001 then (if bt592.2.2 = 0 then (galloonlaw03_YardClose.j2 k bt588.2.2 bt592.2.2 false x568000 x568001 x578000 x578001 bt588.1 bt588.2.1 bt592.1 bt592.2.1) else (if bt592.2.2 = 6 then (galloonlaw03_YardClose.j2 k bt588.2.2 bt592.2.2 (x568000 != 0) x568000 x568001 x578000 x578001 bt588.1 bt588.2.1 bt592.1 bt592.2.1) else (galloonlaw03_YardClose.j2 k bt588.2.2 bt592.2.2 true x568000 x568001 x578000 x578001 bt588.1 bt588.2.1 bt592.1 bt592.2.1))) else (galloonlaw03_YardClose.j2 k bt588.2.2 bt592.2.2 true x568000 x568001 x578000 x578001 bt588.1 bt588.2.1 bt592.1 bt592.2.1)) else (galloonlaw03_YardClose.j2 k bt588.2.2 bt592.2.2 true x568000 x568001 x578000 x578001 bt588.1 bt588.2.1 bt592.1 bt592.2.1))))))
def galloonlaw03_YardClose.j2 : Nat → Int → Int → Bool → Int → Int → Int → Int → Int → Int → Int → Int → Option (Bool)
 | 0, _, _, _, _, _, _, _, _, _, _, _ => none
 | k + 1, x18, x20, x162, x568000, x568001, x578000, x578001, x592000, x592001, x596000, x596001 => if x162 = true then (some false) else (if x18 = 0 then ((galloonref03_Valid.f k x592000 x592001).bind fun t596 => (if t596 = true then ((galloonref03_Less.f x568000 x568001 x592000 x592001).bind fun t597 => (if t597 = true then ((galloonref03_Less.f x568000 x568001 x578000 x578001).bind fun t598 => (if t598 = true then ((galloonref03_Less.f x578000 x578001 x592000 x592001).bind fun t599 => (if t599 = true then (some false) else (if x20 = 0 then ((galloonref03_Valid.f k x596000 x596001).bind fun t600 => (if t600 = true then ((galloonref03_Less.f x596000 x596001 x568000 x568001).bind fun t601 => (if t601 = true then ((galloonref03_Less.f x596000 x596001 x578000 x578001).bind fun t602 => (if t602 = true then ((galloonref03_Less.f x578000 x578001 x568000 x568001).bind fun t603 => (if t603 = true then (some false) else ((galloonlaw03_awake.f k).bind fun t604 => (some t604)))) else ((galloonlaw03_awake.f k).bind fun t605 => (some t605)))) else (some false))) else (some false))) else ((galloonlaw03_awake.f k).bind fun t606 => (some t606))))) else (if x20 = 0 then ((galloonref03_Valid.f k x596000 x596001).bind fun t607 => (if t607 = true then ((galloonref03_Less.f x596000 x596001 x568000 x568001).bind fun t608 => (if t608 = true then ((galloonref03_Less.f x596000 x596001 x578000 x578001).bind fun t609 => (if t609 = true then ((galloonref03_Less.f x578000 x578001 x568000 x568001).bind fun t610 => (if t610 = true then (some false) else ((galloonlaw03_awake.f k).bind fun t611 => (some t611)))) else ((galloonlaw03_awake.f k).bind fun t612 => (some t612)))) else (some false))) else (some false))) else ((galloonlaw03_awake.f k).bind fun t613 => (some t613))))) else (some false))) else (some false))) else (if x20 = 0 then ((galloonref03_Valid.f k x596000 x596001).bind fun t614 => (if t614 = true then ((galloonref03_Less.f x596000 x596001 x568000 x568001).bind fun t615 => (if t615 = true then ((galloonref03_Less.f x596000 x596001 x578000 x578001).bind fun t616 => (if t616 = true then ((galloonref03_Less.f x578000 x578001 x568000 x568001).bind fun t617 => (if t617 = true then (some false) else ((galloonlaw03_awake.f k).bind fun t618 => (some t618)))) else ((galloonlaw03_awake.f k).bind fun t619 => (some t619)))) else (some false))) else (some false))) else ((galloonlaw03_awake.f k).bind fun t620 => (some t620))))
end
def galloonlaw03_YardClose.f (k : Nat) (a0 : Int) (a1 : Int) (a2_0 : Int) (a2_1 : Int) : Option (Bool) := (galloonlaw03_mod.f a0 300).bind fun t568 => ((galloonlaw03_tame.f k a2_0 a2_1 1000000).bind fun bt569 => ((yard_Size.f k (wrap64 (1 + t568))).bind fun bt571 => (if bt571.2 = 0 then (galloonlaw03_YardClose.j0 k (wrap64 (1 + t568)) a1 bt571.1 (decide (bt571.1 < 2)) bt569.1 bt569.2) else (galloonlaw03_YardClose.j0 k (wrap64 (1 + t568)) a1 bt571.1 true bt569.1 bt569.2))))
theorem galloonlaw03_YardClose.j0_bad {k : Nat} {x0 : Int} {x1 : Int} {x7 : Int} {x568000 : Int} {x568001 : Int} {r : Bool} (h : galloonlaw03_YardClose.j0 k x0 x1 x7 true x568000 x568001 = some r) : r = false := by
 cases k with
 | zero => exact absurd h (by simp [galloonlaw03_YardClose.j0])
 | succ k =>
  simp only [galloonlaw03_YardClose.j0] at h
  rw [if_pos trivial] at h
  exact (Option.some.inj h).symm
theorem galloonlaw03_YardClose.j1_bad {k : Nat} {x0 : Int} {x568000 : Int} {x568001 : Int} {x578000 : Int} {x578001 : Int} {x582000 : Int} {x582001 : Int} {r : Bool} (h : galloonlaw03_YardClose.j1 k x0 true x568000 x568001 x578000 x578001 x582000 x582001 = some r) : r = false := by
 cases k with
 | zero => exact absurd h (by simp [galloonlaw03_YardClose.j1])
 | succ k =>
  simp only [galloonlaw03_YardClose.j1] at h
  rw [if_pos trivial] at h
  exact (Option.some.inj h).symm
theorem galloonlaw03_YardClose.j2_bad {k : Nat} {x18 : Int} {x20 : Int} {x568000 : Int} {x568001 : Int} {x578000 : Int} {x578001 : Int} {x592000 : Int} {x592001 : Int} {x596000 : Int} {x596001 : Int} {r : Bool} (h : galloonlaw03_YardClose.j2 k x18 x20 true x568000 x568001 x578000 x578001 x592000 x592001 x596000 x596001 = some r) : r = false := by
 cases k with
 | zero => exact absurd h (by simp [galloonlaw03_YardClose.j2])
 | succ k =>
  simp only [galloonlaw03_YardClose.j2] at h
  rw [if_pos trivial] at h
  exact (Option.some.inj h).symm
theorem galloonlaw03_YardClose.mono_l : ∀ k, (∀ y0 y1 y2 y3 y4 y5, LeO (galloonlaw03_YardClose.j0 k y0 y1 y2 y3 y4 y5) (galloonlaw03_YardClose.j0 (k + 1) y0 y1 y2 y3 y4 y5)) ∧ (∀ y0 y1 y2 y3 y4 y5 y6 y7, LeO (galloonlaw03_YardClose.j1 k y0 y1 y2 y3 y4 y5 y6 y7) (galloonlaw03_YardClose.j1 (k + 1) y0 y1 y2 y3 y4 y5 y6 y7)) ∧ (∀ y0 y1 y2 y3 y4 y5 y6 y7 y8 y9 y10, LeO (galloonlaw03_YardClose.j2 k y0 y1 y2 y3 y4 y5 y6 y7 y8 y9 y10) (galloonlaw03_YardClose.j2 (k + 1) y0 y1 y2 y3 y4 y5 y6 y7 y8 y9 y10))
 | 0 => ⟨fun _ _ _ _ _ _ r h => by simp [galloonlaw03_YardClose.j0] at h, fun _ _ _ _ _ _ _ _ r h => by simp [galloonlaw03_YardClose.j1] at h, fun _ _ _ _ _ _ _ _ _ _ _ r h => by simp [galloonlaw03_YardClose.j2] at h⟩
 | k + 1 => by
  obtain ⟨ih0, ih1, ih2⟩ := galloonlaw03_YardClose.mono_l k
  refine ⟨?_, ?_, ?_⟩
  ·intro y0 y1 y2 y3 y4 y5
   unfold galloonlaw03_YardClose.j0
   repeat' first
   | (with_reducible exact ih0 _ _ _ _ _ _)
   | (with_reducible exact ih1 _ _ _ _ _ _ _ _)
   | (with_reducible exact ih2 _ _ _ _ _ _ _ _ _ _ _)
   | (with_reducible exact galloonlaw03_awake.mono _)
   | (with_reducible exact galloonlaw03_tame.mono _ _ _ _)
   | (with_reducible exact galloonref03_Valid.mono _ _ _)
   | (with_reducible exact yard_Before.mono _ _ _ _)
   | (with_reducible exact yard_Item.mono _ _ _)
   | (with_reducible exact yard_Nearest.mono _ _ _ _)
   | (with_reducible exact yard_Next.mono _ _ _ _)
   | (with_reducible exact yard_Size.mono _ _)
   | (with_reducible exact LeO.refl _)
   | (with_reducible exact LeO.none _)
   | (with_reducible refine LeO.ite ?_ ?_)
   | (with_reducible refine LeO.bind ?_ (fun _ => ?_))
   | exact ih0 _ _ _ _ _ _
   | exact ih1 _ _ _ _ _ _ _ _
   | exact ih2 _ _ _ _ _ _ _ _ _ _ _
   | exact galloonlaw03_awake.mono _
   | exact galloonlaw03_tame.mono _ _ _ _
   | exact galloonref03_Valid.mono _ _ _
   | exact yard_Before.mono _ _ _ _
   | exact yard_Item.mono _ _ _
   | exact yard_Nearest.mono _ _ _ _
   | exact yard_Next.mono _ _ _ _
   | exact yard_Size.mono _ _
   | exact LeO.none _
   | refine LeO.ite ?_ ?_
   | refine LeO.bind ?_ (fun _ => ?_)
  ·intro y0 y1 y2 y3 y4 y5 y6 y7
   unfold galloonlaw03_YardClose.j1
   repeat' first
   | (with_reducible exact ih0 _ _ _ _ _ _)
   | (with_reducible exact ih1 _ _ _ _ _ _ _ _)
   | (with_reducible exact ih2 _ _ _ _ _ _ _ _ _ _ _)
   | (with_reducible exact galloonlaw03_awake.mono _)
   | (with_reducible exact galloonlaw03_tame.mono _ _ _ _)
   | (with_reducible exact galloonref03_Valid.mono _ _ _)
   | (with_reducible exact yard_Before.mono _ _ _ _)
   | (with_reducible exact yard_Item.mono _ _ _)
   | (with_reducible exact yard_Nearest.mono _ _ _ _)
   | (with_reducible exact yard_Next.mono _ _ _ _)
   | (with_reducible exact yard_Size.mono _ _)
   | (with_reducible exact LeO.refl _)
   | (with_reducible exact LeO.none _)
   | (with_reducible refine LeO.ite ?_ ?_)
   | (with_reducible refine LeO.bind ?_ (fun _ => ?_))
   | exact ih0 _ _ _ _ _ _
   | exact ih1 _ _ _ _ _ _ _ _
   | exact ih2 _ _ _ _ _ _ _ _ _ _ _
   | exact galloonlaw03_awake.mono _
   | exact galloonlaw03_tame.mono _ _ _ _
   | exact galloonref03_Valid.mono _ _ _
   | exact yard_Before.mono _ _ _ _
   | exact yard_Item.mono _ _ _
   | exact yard_Nearest.mono _ _ _ _
   | exact yard_Next.mono _ _ _ _
   | exact yard_Size.mono _ _
   | exact LeO.none _
   | refine LeO.ite ?_ ?_
   | refine LeO.bind ?_ (fun _ => ?_)
  ·intro y0 y1 y2 y3 y4 y5 y6 y7 y8 y9 y10
   unfold galloonlaw03_YardClose.j2
   repeat' first
   | (with_reducible exact ih0 _ _ _ _ _ _)
   | (with_reducible exact ih1 _ _ _ _ _ _ _ _)
   | (with_reducible exact ih2 _ _ _ _ _ _ _ _ _ _ _)
   | (with_reducible exact galloonlaw03_awake.mono _)
   | (with_reducible exact galloonlaw03_tame.mono _ _ _ _)
   | (with_reducible exact galloonref03_Valid.mono _ _ _)
   | (with_reducible exact yard_Before.mono _ _ _ _)
   | (with_reducible exact yard_Item.mono _ _ _)
   | (with_reducible exact yard_Nearest.mono _ _ _ _)
   | (with_reducible exact yard_Next.mono _ _ _ _)
   | (with_reducible exact yard_Size.mono _ _)
   | (with_reducible exact LeO.refl _)
   | (with_reducible exact LeO.none _)
   | (with_reducible refine LeO.ite ?_ ?_)
   | (with_reducible refine LeO.bind ?_ (fun _ => ?_))
   | exact ih0 _ _ _ _ _ _
   | exact ih1 _ _ _ _ _ _ _ _
   | exact ih2 _ _ _ _ _ _ _ _ _ _ _
   | exact galloonlaw03_awake.mono _
   | exact galloonlaw03_tame.mono _ _ _ _
   | exact galloonref03_Valid.mono _ _ _
   | exact yard_Before.mono _ _ _ _
   | exact yard_Item.mono _ _ _
   | exact yard_Nearest.mono _ _ _ _
   | exact yard_Next.mono _ _ _ _
   | exact yard_Size.mono _ _
   | exact LeO.none _
   | refine LeO.ite ?_ ?_
   | refine LeO.bind ?_ (fun _ => ?_)
theorem galloonlaw03_YardClose.mono : ∀ a0 a1 a2 a3 k, LeO (galloonlaw03_YardClose.f k a0 a1 a2 a3) (galloonlaw03_YardClose.f (k + 1) a0 a1 a2 a3) := by
 intro a0 a1 a2 a3 k
 obtain ⟨ih0, ih1, ih2⟩ := galloonlaw03_YardClose.mono_l k
 unfold galloonlaw03_YardClose.f
 repeat' first
  | (with_reducible exact ih0 _ _ _ _ _ _)
  | (with_reducible exact ih1 _ _ _ _ _ _ _ _)
  | (with_reducible exact ih2 _ _ _ _ _ _ _ _ _ _ _)
  | (with_reducible exact galloonlaw03_awake.mono _)
  | (with_reducible exact galloonlaw03_tame.mono _ _ _ _)
  | (with_reducible exact galloonref03_Valid.mono _ _ _)
  | (with_reducible exact yard_Before.mono _ _ _ _)
  | (with_reducible exact yard_Item.mono _ _ _)
  | (with_reducible exact yard_Nearest.mono _ _ _ _)
  | (with_reducible exact yard_Next.mono _ _ _ _)
  | (with_reducible exact yard_Size.mono _ _)
  | (with_reducible exact LeO.refl _)
  | (with_reducible exact LeO.none _)
  | (with_reducible refine LeO.ite ?_ ?_)
  | (with_reducible refine LeO.bind ?_ (fun _ => ?_))
  | exact ih0 _ _ _ _ _ _
  | exact ih1 _ _ _ _ _ _ _ _
  | exact ih2 _ _ _ _ _ _ _ _ _ _ _
  | exact galloonlaw03_awake.mono _
  | exact galloonlaw03_tame.mono _ _ _ _
  | exact galloonref03_Valid.mono _ _ _
  | exact yard_Before.mono _ _ _ _
  | exact yard_Item.mono _ _ _
  | exact yard_Nearest.mono _ _ _ _
  | exact yard_Next.mono _ _ _ _
  | exact yard_Size.mono _ _
  | exact LeO.none _
  | refine LeO.ite ?_ ?_
  | refine LeO.bind ?_ (fun _ => ?_)
set_option maxHeartbeats 8000000 in
set_option maxRecDepth 100000 in
theorem galloonlaw03_YardClose.calls (k : Nat) (a0 : Int) (a1 : Int) (a2_0 : Int) (a2_1 : Int) (r : Bool) (w : World) (h : galloonlaw03_YardClose.f k a0 a1 a2_0 a2_1 = some r) (hr : Aside0 (r = true)) :
 Calls Try.prog 15 #[.int .i64 a0, .int .i64 a1, .agg #[.int .i64 a2_0, .int .i64 a2_1]] w fun e w' => e = .returned (.bool r) ∧ Below w.heap.size w w' := by
 have hu23 := Try.underlying23
 have HB := Aside0.mk (Below.refl w.heap.size w)
 have H : ((galloonlaw03_mod.f a0 300).bind fun t568 => ((galloonlaw03_tame.f k a2_0 a2_1 1000000).bind fun bt569 => ((yard_Size.f k (wrap64 (1 + t568))).bind fun bt571 => (if bt571.2 = 0 then (galloonlaw03_YardClose.j0 k (wrap64 (1 + t568)) a1 bt571.1 (decide (bt571.1 < 2)) bt569.1 bt569.2) else (galloonlaw03_YardClose.j0 k (wrap64 (1 + t568)) a1 bt571.1 true bt569.1 bt569.2))))) = some r := h
 clear h
 replace H := Option.bind_eq_some_iff.mp H
 obtain ⟨t568, A40, H⟩ := H
 replace H : ((galloonlaw03_tame.f k a2_0 a2_1 1000000).bind fun bt569 => ((yard_Size.f k (wrap64 (1 + t568))).bind fun bt571 => (if bt571.2 = 0 then (galloonlaw03_YardClose.j0 k (wrap64 (1 + t568)) a1 bt571.1 (decide (bt571.1 < 2)) bt569.1 bt569.2) else (galloonlaw03_YardClose.j0 k (wrap64 (1 + t568)) a1 bt571.1 true bt569.1 bt569.2)))) = some r := H
 have A4 := Aside0.mk A40
 clear A40
 replace H := Option.bind_eq_some_iff.mp H
 obtain ⟨⟨t569, t570⟩, A50, H⟩ := H
 replace H : ((yard_Size.f k (wrap64 (1 + t568))).bind fun bt571 => (if bt571.2 = 0 then (galloonlaw03_YardClose.j0 k (wrap64 (1 + t568)) a1 bt571.1 (decide (bt571.1 < 2)) t569 t570) else (galloonlaw03_YardClose.j0 k (wrap64 (1 + t568)) a1 bt571.1 true t569 t570))) = some r := H
 have A5 := Aside0.mk A50
 clear A50
 replace H := Option.bind_eq_some_iff.mp H
 obtain ⟨⟨t571, t572⟩, A60, H⟩ := H
 replace H : (if t572 = 0 then (galloonlaw03_YardClose.j0 k (wrap64 (1 + t568)) a1 t571 (decide (t571 < 2)) t569 t570) else (galloonlaw03_YardClose.j0 k (wrap64 (1 + t568)) a1 t571 true t569 t570)) = some r := H
 have A6 := Aside0.mk A60
 clear A60
 have HC7 := Aside0.mk H
 clear H
 go_enter Try.func15, Try.ntmps15
 go_upto_region 4 with (first | ((with_reducible refine gate_dst (N := 5) rfl ?_); refine box_event ?hg (N := 5) ?hd (cs := #[.int .i64 a2_0, .int .i64 a2_1]) (t := 23) ?hr ?_; (case hd => rfl); (case hg => rfl); (case hr => first | (go_simp; done) | (go_simp; rfl)); intro gb567 hg w8 hbox hb; have BK567 := Aside0.mk (hbox); have GW567 := bG HB hg; have GE567 := bG HB hg; replace HB := bS HB hb; clear hb hbox hg) | (go_at_call 47; (with_reducible refine (galloonlaw03_mod.calls a0 300 t568 _ A4.out).mono ?_); rintro e w' ⟨rfl, ⟨nd, rfl⟩⟩; (try first | exact ⟨rfl, _, World.drewN_drewN _ _ _⟩ | exact ⟨rfl, _, Eq.trans (World.drewN_drewN _ _ _) (congrArg (World.drewN _) (Nat.add_assoc _ _ _))⟩); obtain ⟨hcz9_0, hcz9_1, hfz9_0, hfz9_1⟩ := cQ BK567) | (go_at_call 26; (with_reducible refine (galloonlaw03_tame.calls k a2_0 a2_1 1000000 t569 t570 _ A5.out).mono ?_); rintro e w10 ⟨rfl, hb⟩; replace BK567 := kB BK567 hb; replace HB := bS HB hb; (try clear hb); (try clear hb2); (try clear hk); (try clear hi); obtain ⟨hcz11_0, hcz11_1, hfz11_0, hfz11_1⟩ := cQ BK567) | (go_at_call 35; (with_reducible refine (yard_Size.calls k (wrap64 (1 + t568)) t571 t572 _ A6.out).mono ?_); rintro e w12 ⟨rfl, hb⟩; replace BK567 := Aside0.mk (blk_below (g := gb567) (o := .cells #[.int .i64 t569, .int .i64 t570] 23 (0, 0)) (by (with_reducible repeat (first | refine blk_drewN ?_ _ | refine blk_drew ?_ | refine blk_alloc ?_ _)); refine blk_put (cs := #[.int .i64 t569, .int .i64 a2_1]) ?_ 1 _ rfl; (with_reducible repeat (first | refine blk_drewN ?_ _ | refine blk_drew ?_ | refine blk_alloc ?_ _)); refine blk_put (cs := #[.int .i64 a2_0, .int .i64 a2_1]) ?_ 0 _ rfl; (with_reducible repeat (first | refine blk_drewN ?_ _ | refine blk_drew ?_ | refine blk_alloc ?_ _)); exact BK567.out) hb); replace HB := bS HB hb; (try clear hb); (try clear hb2); (try clear hk); (try clear hi)))
 (try simp only [Act.put, List.setIfInBounds_toArray, List.set_cons_zero, List.set_cons_succ])
 go_cut [36] (fun v36 wc => ∃ (kq : Nat) (x36_6 : Bool), v36 = .bool x36_6 ∧ Aside0 (galloonlaw03_YardClose.j0 kq (wrap64 (1 + t568)) a1 t571 x36_6 t569 t570 = some r) ∧ Aside0 (kq ≤ k) ∧ Aside0 (wc.heap[gb567]? = some (.cells #[.int .i64 t569, .int .i64 t570] 23 (0, 0))) ∧ Aside0 (Below w.heap.size w wc))
 case first =>
  have H := HC7.out
  clear HC7
  by_cases c13 : t572 = 0
  case neg =>
   rw [if_neg c13] at H
   have c13b0 : (t572 == 0) = false := beq_eq_false_iff_ne.mpr c13
   have c13b1 : (t572 != 0) = true := bne_iff_ne.mpr c13
   (first | rw [c13b0] | (simp only [i64_w, i32_w]; rw [c13b0]) | skip)
   first | (exact absurd ((galloonlaw03_YardClose.j0_bad H).symm.trans hr.out) (by decide)) | (exact absurd ((galloonlaw03_YardClose.j1_bad H).symm.trans hr.out) (by decide)) | (exact absurd ((galloonlaw03_YardClose.j2_bad H).symm.trans hr.out) (by decide))
  rw [if_pos c13] at H
  have c13b0 : (t572 == 0) = true := beq_iff_eq.mpr c13
  have c13b1 : (t572 != 0) = false := bne_eq_false_iff_eq.mpr c13
  clear c13
  (first | rw [c13b0] | (simp only [i64_w, i32_w]; rw [c13b0]) | skip)
  have H' := Aside0.mk H
  clear H
  go_wp2
  repeat (go_quiet (fail); try go_wp2)
  go_meet
  case rel => exact ⟨_, (decide (t571 < 2)), (by first | rfl | (simp; done) | (simp [*]; done)), H', ⟨by first | omega | exact Nat.le_refl _⟩, kA BK567, bA HB⟩
 case rest =>
  clear HC7
  try clear p2
  try clear p6
  obtain ⟨kq, x36_6, rfl, HA, HJ6, BK567, HB⟩ := hcut
  cases kq with
  | zero => exact absurd HA.out (by simp [galloonlaw03_YardClose.j0])
  | succ kj6 =>
   have H := HA.out
   clear HA
   simp only [galloonlaw03_YardClose.j0] at H
   by_cases c14 : x36_6 = true
   ·subst c14
    have H1 : (some false) = some r := by rw [if_pos rfl] at H; exact H
    clear H
    have H := H1
    clear H1
    obtain rfl := Option.some.inj H
    exact absurd hr.out (by decide)
   ·replace c14 := Bool.eq_false_iff.mpr c14
    subst c14
    have H1 : ((galloonlaw03_mod.f a1 t571).bind fun t573 => ((yard_Item.f kj6 (wrap64 (1 + t568)) t573).bind fun bt574 => ((yard_Nearest.f kj6 (wrap64 (1 + t568)) t569 t570).bind fun bt578 => ((yard_Nearest.f kj6 (wrap64 (1 + t568)) bt574.1 bt574.2.1).bind fun bt582 => (if bt574.2.2 = 0 then (if bt578.2.2 = 0 then (if bt582.2.2 = 0 then ((galloonref03_Valid.f kj6 bt574.1 bt574.2.1).bind fun t586 => (if t586 = true then ((galloonref03_Valid.f kj6 bt578.1 bt578.2.1).bind fun t587 => (if t587 = true then (if bt578.2.1 > (wrap64 (1 + t568)) then (galloonlaw03_YardClose.j1 kj6 (wrap64 (1 + t568)) true t569 t570 bt574.1 bt574.2.1 bt578.1 bt578.2.1) else (galloonlaw03_YardClose.j1 kj6 (wrap64 (1 + t568)) (!(bt582.1 == bt574.1) || (!(bt582.2.1 == bt574.2.1))) t569 t570 bt574.1 bt574.2.1 bt578.1 bt578.2.1)) else (galloonlaw03_YardClose.j1 kj6 (wrap64 (1 + t568)) true t569 t570 bt574.1 bt574.2.1 bt578.1 bt578.2.1))) else (galloonlaw03_YardClose.j1 kj6 (wrap64 (1 + t568)) true t569 t570 bt574.1 bt574.2.1 bt578.1 bt578.2.1))) else (galloonlaw03_YardClose.j1 kj6 (wrap64 (1 + t568)) true t569 t570 bt574.1 bt574.2.1 bt578.1 bt578.2.1)) else (galloonlaw03_YardClose.j1 kj6 (wrap64 (1 + t568)) true t569 t570 bt574.1 bt574.2.1 bt578.1 bt578.2.1)) else (galloonlaw03_YardClose.j1 kj6 (wrap64 (1 + t568)) true t569 t570 bt574.1 bt574.2.1 bt578.1 bt578.2.1)))))) = some r := by rw [if_neg (show ¬ (false = true) by decide)] at H; exact H
    clear H
    have H := H1
    clear H1
    replace H := Option.bind_eq_some_iff.mp H
    obtain ⟨t573, A150, H⟩ := H
    replace H : ((yard_Item.f kj6 (wrap64 (1 + t568)) t573).bind fun bt574 => ((yard_Nearest.f kj6 (wrap64 (1 + t568)) t569 t570).bind fun bt578 => ((yard_Nearest.f kj6 (wrap64 (1 + t568)) bt574.1 bt574.2.1).bind fun bt582 => (if bt574.2.2 = 0 then (if bt578.2.2 = 0 then (if bt582.2.2 = 0 then ((galloonref03_Valid.f kj6 bt574.1 bt574.2.1).bind fun t586 => (if t586 = true then ((galloonref03_Valid.f kj6 bt578.1 bt578.2.1).bind fun t587 => (if t587 = true then (if bt578.2.1 > (wrap64 (1 + t568)) then (galloonlaw03_YardClose.j1 kj6 (wrap64 (1 + t568)) true t569 t570 bt574.1 bt574.2.1 bt578.1 bt578.2.1) else (galloonlaw03_YardClose.j1 kj6 (wrap64 (1 + t568)) (!(bt582.1 == bt574.1) || (!(bt582.2.1 == bt574.2.1))) t569 t570 bt574.1 bt574.2.1 bt578.1 bt578.2.1)) else (galloonlaw03_YardClose.j1 kj6 (wrap64 (1 + t568)) true t569 t570 bt574.1 bt574.2.1 bt578.1 bt578.2.1))) else (galloonlaw03_YardClose.j1 kj6 (wrap64 (1 + t568)) true t569 t570 bt574.1 bt574.2.1 bt578.1 bt578.2.1))) else (galloonlaw03_YardClose.j1 kj6 (wrap64 (1 + t568)) true t569 t570 bt574.1 bt574.2.1 bt578.1 bt578.2.1)) else (galloonlaw03_YardClose.j1 kj6 (wrap64 (1 + t568)) true t569 t570 bt574.1 bt574.2.1 bt578.1 bt578.2.1)) else (galloonlaw03_YardClose.j1 kj6 (wrap64 (1 + t568)) true t569 t570 bt574.1 bt574.2.1 bt578.1 bt578.2.1))))) = some r := H
    have A15 := Aside0.mk A150
    clear A150
    replace H := Option.bind_eq_some_iff.mp H
    obtain ⟨⟨t574, t575, t576⟩, A160, H⟩ := H
    replace H : ((yard_Nearest.f kj6 (wrap64 (1 + t568)) t569 t570).bind fun bt578 => ((yard_Nearest.f kj6 (wrap64 (1 + t568)) t574 t575).bind fun bt582 => (if t576 = 0 then (if bt578.2.2 = 0 then (if bt582.2.2 = 0 then ((galloonref03_Valid.f kj6 t574 t575).bind fun t586 => (if t586 = true then ((galloonref03_Valid.f kj6 bt578.1 bt578.2.1).bind fun t587 => (if t587 = true then (if bt578.2.1 > (wrap64 (1 + t568)) then (galloonlaw03_YardClose.j1 kj6 (wrap64 (1 + t568)) true t569 t570 t574 t575 bt578.1 bt578.2.1) else (galloonlaw03_YardClose.j1 kj6 (wrap64 (1 + t568)) (!(bt582.1 == t574) || (!(bt582.2.1 == t575))) t569 t570 t574 t575 bt578.1 bt578.2.1)) else (galloonlaw03_YardClose.j1 kj6 (wrap64 (1 + t568)) true t569 t570 t574 t575 bt578.1 bt578.2.1))) else (galloonlaw03_YardClose.j1 kj6 (wrap64 (1 + t568)) true t569 t570 t574 t575 bt578.1 bt578.2.1))) else (galloonlaw03_YardClose.j1 kj6 (wrap64 (1 + t568)) true t569 t570 t574 t575 bt578.1 bt578.2.1)) else (galloonlaw03_YardClose.j1 kj6 (wrap64 (1 + t568)) true t569 t570 t574 t575 bt578.1 bt578.2.1)) else (galloonlaw03_YardClose.j1 kj6 (wrap64 (1 + t568)) true t569 t570 t574 t575 bt578.1 bt578.2.1)))) = some r := H
    have A16 := Aside0.mk A160
    clear A160
    replace H := Option.bind_eq_some_iff.mp H
    obtain ⟨⟨t578, t579, t580⟩, A170, H⟩ := H
    replace H : ((yard_Nearest.f kj6 (wrap64 (1 + t568)) t574 t575).bind fun bt582 => (if t576 = 0 then (if t580 = 0 then (if bt582.2.2 = 0 then ((galloonref03_Valid.f kj6 t574 t575).bind fun t586 => (if t586 = true then ((galloonref03_Valid.f kj6 t578 t579).bind fun t587 => (if t587 = true then (if t579 > (wrap64 (1 + t568)) then (galloonlaw03_YardClose.j1 kj6 (wrap64 (1 + t568)) true t569 t570 t574 t575 t578 t579) else (galloonlaw03_YardClose.j1 kj6 (wrap64 (1 + t568)) (!(bt582.1 == t574) || (!(bt582.2.1 == t575))) t569 t570 t574 t575 t578 t579)) else (galloonlaw03_YardClose.j1 kj6 (wrap64 (1 + t568)) true t569 t570 t574 t575 t578 t579))) else (galloonlaw03_YardClose.j1 kj6 (wrap64 (1 + t568)) true t569 t570 t574 t575 t578 t579))) else (galloonlaw03_YardClose.j1 kj6 (wrap64 (1 + t568)) true t569 t570 t574 t575 t578 t579)) else (galloonlaw03_YardClose.j1 kj6 (wrap64 (1 + t568)) true t569 t570 t574 t575 t578 t579)) else (galloonlaw03_YardClose.j1 kj6 (wrap64 (1 + t568)) true t569 t570 t574 t575 t578 t579))) = some r := H
    have A17 := Aside0.mk A170
    clear A170
    replace H := Option.bind_eq_some_iff.mp H
    obtain ⟨⟨t582, t583, t584⟩, A180, H⟩ := H
    replace H : (if t576 = 0 then (if t580 = 0 then (if t584 = 0 then ((galloonref03_Valid.f kj6 t574 t575).bind fun t586 => (if t586 = true then ((galloonref03_Valid.f kj6 t578 t579).bind fun t587 => (if t587 = true then (if t579 > (wrap64 (1 + t568)) then (galloonlaw03_YardClose.j1 kj6 (wrap64 (1 + t568)) true t569 t570 t574 t575 t578 t579) else (galloonlaw03_YardClose.j1 kj6 (wrap64 (1 + t568)) (!(t582 == t574) || (!(t583 == t575))) t569 t570 t574 t575 t578 t579)) else (galloonlaw03_YardClose.j1 kj6 (wrap64 (1 + t568)) true t569 t570 t574 t575 t578 t579))) else (galloonlaw03_YardClose.j1 kj6 (wrap64 (1 + t568)) true t569 t570 t574 t575 t578 t579))) else (galloonlaw03_YardClose.j1 kj6 (wrap64 (1 + t568)) true t569 t570 t574 t575 t578 t579)) else (galloonlaw03_YardClose.j1 kj6 (wrap64 (1 + t568)) true t569 t570 t574 t575 t578 t579)) else (galloonlaw03_YardClose.j1 kj6 (wrap64 (1 + t568)) true t569 t570 t574 t575 t578 t579)) = some r := H
    have A18 := Aside0.mk A180
    clear A180
    have HC19 := Aside0.mk H
    clear H
    go_upto_region 9 with (first | (go_at_call 47; (with_reducible refine (galloonlaw03_mod.calls a1 t571 t573 _ A15.out).mono ?_); rintro e w' ⟨rfl, ⟨nd, rfl⟩⟩; (try first | exact ⟨rfl, _, World.drewN_drewN _ _ _⟩ | exact ⟨rfl, _, Eq.trans (World.drewN_drewN _ _ _) (congrArg (World.drewN _) (Nat.add_assoc _ _ _))⟩)) | (go_at_call 36; (with_reducible refine (yard_Item.calls kj6 (wrap64 (1 + t568)) t573 t574 t575 t576 _ A16.out).mono ?_); rintro e w20 ⟨rfl, hb⟩; replace BK567 := kB BK567 hb; replace HB := bS HB hb; (try clear hb); (try clear hb2); (try clear hk); (try clear hi)) | ((with_reducible refine gate_dst (N := 9) rfl ?_); refine box_event ?hg (N := 9) ?hd (cs := #[.int .i64 0, .int .i64 0]) (t := 23) ?hr ?_; (case hd => rfl); (case hg => rfl); (case hr => first | (go_simp; done) | (go_simp; rfl)); intro gb577 hg w21 hbox hb; have BK577 := Aside0.mk (hbox); have GW577 := bG HB hg; have GE577 := bG HB hg; replace HB := bS HB hb; have NB567_577 := nL BK567 hg; have NB577_567 := nG BK567 hg; replace BK567 := kB BK567 hb; clear hb hbox hg; have hnb22 := NB577_567.out; have hnc22 := NB567_577.out; obtain ⟨hcz23_0, hcz23_1, hfz23_0, hfz23_1⟩ := cQ BK577; obtain ⟨hcz24_0, hcz24_1, hfz24_0, hfz24_1⟩ := cQ BK567) | (go_at_call 53; (with_reducible refine (yard_Nearest.calls kj6 (wrap64 (1 + t568)) t569 t570 t578 t579 t580 _ A17.out).mono ?_); rintro e w25 ⟨rfl, hb⟩; replace BK567 := kF BK567 hb; replace BK577 := Aside0.mk (blk_below (g := gb577) (o := .cells #[.int .i64 t574, .int .i64 t575] 23 (0, 0)) (by (with_reducible repeat (first | refine blk_drewN ?_ _ | refine blk_drew ?_ | refine blk_alloc ?_ _)); refine blk_put (cs := #[.int .i64 t574, .int .i64 0]) ?_ 1 _ rfl; (with_reducible repeat (first | refine blk_drewN ?_ _ | refine blk_drew ?_ | refine blk_alloc ?_ _)); refine blk_put (cs := #[.int .i64 0, .int .i64 0]) ?_ 0 _ rfl; (with_reducible repeat (first | refine blk_drewN ?_ _ | refine blk_drew ?_ | refine blk_alloc ?_ _)); exact BK577.out) hb); replace HB := bS HB hb; (try clear hb); (try clear hb2); (try clear hk); (try clear hi)) | ((with_reducible refine gate_dst (N := 11) rfl ?_); refine box_event ?hg (N := 11) ?hd (cs := #[.int .i64 0, .int .i64 0]) (t := 23) ?hr ?_; (case hd => rfl); (case hg => rfl); (case hr => first | (go_simp; done) | (go_simp; rfl)); intro gb581 hg w26 hbox hb; have BK581 := Aside0.mk (hbox); have GW581 := bG HB hg; have GE581 := bG HB hg; replace HB := bS HB hb; have NB567_581 := nL BK567 hg; have NB581_567 := nG BK567 hg; replace BK567 := kB BK567 hb; have NB577_581 := nL BK577 hg; have NB581_577 := nG BK577 hg; replace BK577 := kB BK577 hb; clear hb hbox hg; have hnb27 := NB581_567.out; have hnc27 := NB567_581.out; have hnb28 := NB581_577.out; have hnc28 := NB577_581.out; obtain ⟨hcz29_0, hcz29_1, hfz29_0, hfz29_1⟩ := cQ BK581; obtain ⟨hcz30_0, hcz30_1, hfz30_0, hfz30_1⟩ := cQ BK577) | (go_at_call 53; (with_reducible refine (yard_Nearest.calls kj6 (wrap64 (1 + t568)) t574 t575 t582 t583 t584 _ A18.out).mono ?_); rintro e w31 ⟨rfl, hb⟩; replace BK567 := kF BK567 hb; replace BK577 := kF BK577 hb; replace BK581 := Aside0.mk (blk_below (g := gb581) (o := .cells #[.int .i64 t578, .int .i64 t579] 23 (0, 0)) (by (with_reducible repeat (first | refine blk_drewN ?_ _ | refine blk_drew ?_ | refine blk_alloc ?_ _)); refine blk_put (cs := #[.int .i64 t578, .int .i64 0]) ?_ 1 _ rfl; (with_reducible repeat (first | refine blk_drewN ?_ _ | refine blk_drew ?_ | refine blk_alloc ?_ _)); refine blk_put (cs := #[.int .i64 0, .int .i64 0]) ?_ 0 _ rfl; (with_reducible repeat (first | refine blk_drewN ?_ _ | refine blk_drew ?_ | refine blk_alloc ?_ _)); exact BK581.out) hb); replace HB := bS HB hb; (try clear hb); (try clear hb2); (try clear hk); (try clear hi)) | ((with_reducible refine gate_dst (N := 13) rfl ?_); refine box_event ?hg (N := 13) ?hd (cs := #[.int .i64 0, .int .i64 0]) (t := 23) ?hr ?_; (case hd => rfl); (case hg => rfl); (case hr => first | (go_simp; done) | (go_simp; rfl)); intro gb585 hg w32 hbox hb; have BK585 := Aside0.mk (hbox); have GW585 := bG HB hg; have GE585 := bG HB hg; replace HB := bS HB hb; have NB567_585 := nL BK567 hg; have NB585_567 := nG BK567 hg; replace BK567 := kB BK567 hb; have NB577_585 := nL BK577 hg; have NB585_577 := nG BK577 hg; replace BK577 := kB BK577 hb; have NB581_585 := nL BK581 hg; have NB585_581 := nG BK581 hg; replace BK581 := kB BK581 hb; clear hb hbox hg; have hnb33 := NB585_567.out; have hnc33 := NB567_585.out; have hnb34 := NB585_577.out; have hnc34 := NB577_585.out; have hnb35 := NB585_581.out; have hnc35 := NB581_585.out; obtain ⟨hcz36_0, hcz36_1, hfz36_0, hfz36_1⟩ := cQ BK585))
    (try simp only [Act.put, List.setIfInBounds_toArray, List.set_cons_zero, List.set_cons_succ])
    go_cut [87] (fun v87 wc => ∃ (kq : Nat) (x87_18 : Bool), v87 = .bool x87_18 ∧ Aside0 (galloonlaw03_YardClose.j1 kq (wrap64 (1 + t568)) x87_18 t569 t570 t574 t575 t578 t579 = some r) ∧ Aside0 (kq ≤ kj6) ∧ Aside0 (wc.heap[gb567]? = some (.cells #[.int .i64 t569, .int .i64 t570] 23 (0, 0))) ∧ Aside0 (wc.heap[gb577]? = some (.cells #[.int .i64 t574, .int .i64 t575] 23 (0, 0))) ∧ Aside0 (wc.heap[gb581]? = some (.cells #[.int .i64 t578, .int .i64 t579] 23 (0, 0))) ∧ Aside0 (wc.heap[gb585]? = some (.cells #[.int .i64 t582, .int .i64 t583] 23 (0, 0))) ∧ Aside0 (Below w.heap.size w wc))
    case first =>
     have H := HC19.out
     clear HC19
     by_cases c37 : t576 = 0
     case neg =>
      rw [if_neg c37] at H
      have c37b0 : (t576 == 0) = false := beq_eq_false_iff_ne.mpr c37
      have c37b1 : (t576 != 0) = true := bne_iff_ne.mpr c37
      (first | rw [c37b0] | (simp only [i64_w, i32_w]; rw [c37b0]) | skip)
      first | (exact absurd ((galloonlaw03_YardClose.j0_bad H).symm.trans hr.out) (by decide)) | (exact absurd ((galloonlaw03_YardClose.j1_bad H).symm.trans hr.out) (by decide)) | (exact absurd ((galloonlaw03_YardClose.j2_bad H).symm.trans hr.out) (by decide))
     rw [if_pos c37] at H
     have c37b0 : (t576 == 0) = true := beq_iff_eq.mpr c37
     have c37b1 : (t576 != 0) = false := bne_eq_false_iff_eq.mpr c37
     clear c37
     (first | rw [c37b0] | (simp only [i64_w, i32_w]; rw [c37b0]) | skip)
     by_cases c38 : t580 = 0
     case neg =>
      rw [if_neg c38] at H
      have c38b0 : (t580 == 0) = false := beq_eq_false_iff_ne.mpr c38
      have c38b1 : (t580 != 0) = true := bne_iff_ne.mpr c38
      first | (exact absurd ((galloonlaw03_YardClose.j0_bad H).symm.trans hr.out) (by decide)) | (exact absurd ((galloonlaw03_YardClose.j1_bad H).symm.trans hr.out) (by decide)) | (exact absurd ((galloonlaw03_YardClose.j2_bad H).symm.trans hr.out) (by decide))
     rw [if_pos c38] at H
     have c38b0 : (t580 == 0) = true := beq_iff_eq.mpr c38
     have c38b1 : (t580 != 0) = false := bne_eq_false_iff_eq.mpr c38
     clear c38
     by_cases c39 : t584 = 0
     case neg =>
      rw [if_neg c39] at H
      have c39b0 : (t584 == 0) = false := beq_eq_false_iff_ne.mpr c39
      have c39b1 : (t584 != 0) = true := bne_iff_ne.mpr c39
      first | (exact absurd ((galloonlaw03_YardClose.j0_bad H).symm.trans hr.out) (by decide)) | (exact absurd ((galloonlaw03_YardClose.j1_bad H).symm.trans hr.out) (by decide)) | (exact absurd ((galloonlaw03_YardClose.j2_bad H).symm.trans hr.out) (by decide))
     rw [if_pos c39] at H
     have c39b0 : (t584 == 0) = true := beq_iff_eq.mpr c39
     have c39b1 : (t584 != 0) = false := bne_eq_false_iff_eq.mpr c39
     clear c39
     replace H := Option.bind_eq_some_iff.mp H
     obtain ⟨t586, A400, H⟩ := H
     replace H : (if t586 = true then ((galloonref03_Valid.f kj6 t578 t579).bind fun t587 => (if t587 = true then (if t579 > (wrap64 (1 + t568)) then (galloonlaw03_YardClose.j1 kj6 (wrap64 (1 + t568)) true t569 t570 t574 t575 t578 t579) else (galloonlaw03_YardClose.j1 kj6 (wrap64 (1 + t568)) (!(t582 == t574) || (!(t583 == t575))) t569 t570 t574 t575 t578 t579)) else (galloonlaw03_YardClose.j1 kj6 (wrap64 (1 + t568)) true t569 t570 t574 t575 t578 t579))) else (galloonlaw03_YardClose.j1 kj6 (wrap64 (1 + t568)) true t569 t570 t574 t575 t578 t579)) = some r := H
     have A40 := Aside0.mk A400
     clear A400
     by_cases c41 : t586 = true
     case neg =>
      replace c41 := Bool.eq_false_iff.mpr c41
      subst c41
      have H1 : (galloonlaw03_YardClose.j1 kj6 (wrap64 (1 + t568)) true t569 t570 t574 t575 t578 t579) = some r := by rw [if_neg (show ¬ (false = true) by decide)] at H; exact H
      clear H
      have H := H1
      clear H1
      first | (exact absurd ((galloonlaw03_YardClose.j0_bad H).symm.trans hr.out) (by decide)) | (exact absurd ((galloonlaw03_YardClose.j1_bad H).symm.trans hr.out) (by decide)) | (exact absurd ((galloonlaw03_YardClose.j2_bad H).symm.trans hr.out) (by decide))
     subst c41
     have H1 : ((galloonref03_Valid.f kj6 t578 t579).bind fun t587 => (if t587 = true then (if t579 > (wrap64 (1 + t568)) then (galloonlaw03_YardClose.j1 kj6 (wrap64 (1 + t568)) true t569 t570 t574 t575 t578 t579) else (galloonlaw03_YardClose.j1 kj6 (wrap64 (1 + t568)) (!(t582 == t574) || (!(t583 == t575))) t569 t570 t574 t575 t578 t579)) else (galloonlaw03_YardClose.j1 kj6 (wrap64 (1 + t568)) true t569 t570 t574 t575 t578 t579))) = some r := by rw [if_pos rfl] at H; exact H
     clear H
     have H := H1
     clear H1
     replace H := Option.bind_eq_some_iff.mp H
     obtain ⟨t587, A420, H⟩ := H
     replace H : (if t587 = true then (if t579 > (wrap64 (1 + t568)) then (galloonlaw03_YardClose.j1 kj6 (wrap64 (1 + t568)) true t569 t570 t574 t575 t578 t579) else (galloonlaw03_YardClose.j1 kj6 (wrap64 (1 + t568)) (!(t582 == t574) || (!(t583 == t575))) t569 t570 t574 t575 t578 t579)) else (galloonlaw03_YardClose.j1 kj6 (wrap64 (1 + t568)) true t569 t570 t574 t575 t578 t579)) = some r := H
     have A42 := Aside0.mk A420
     clear A420
     by_cases c43 : t587 = true
     case neg =>
      replace c43 := Bool.eq_false_iff.mpr c43
      subst c43
      have H1 : (galloonlaw03_YardClose.j1 kj6 (wrap64 (1 + t568)) true t569 t570 t574 t575 t578 t579) = some r := by rw [if_neg (show ¬ (false = true) by decide)] at H; exact H
      clear H
      have H := H1
      clear H1
      first | (exact absurd ((galloonlaw03_YardClose.j0_bad H).symm.trans hr.out) (by decide)) | (exact absurd ((galloonlaw03_YardClose.j1_bad H).symm.trans hr.out) (by decide)) | (exact absurd ((galloonlaw03_YardClose.j2_bad H).symm.trans hr.out) (by decide))
     subst c43
     have H1 : (if t579 > (wrap64 (1 + t568)) then (galloonlaw03_YardClose.j1 kj6 (wrap64 (1 + t568)) true t569 t570 t574 t575 t578 t579) else (galloonlaw03_YardClose.j1 kj6 (wrap64 (1 + t568)) (!(t582 == t574) || (!(t583 == t575))) t569 t570 t574 t575 t578 t579)) = some r := by rw [if_pos rfl] at H; exact H
     clear H
     have H := H1
     clear H1
     by_cases c44 : t579 > (wrap64 (1 + t568))
     ·rw [if_pos c44] at H
      have c44b0 : decide ((wrap64 (1 + t568)) < t579) = true := decide_eq_true c44
      clear c44
      first | (exact absurd ((galloonlaw03_YardClose.j0_bad H).symm.trans hr.out) (by decide)) | (exact absurd ((galloonlaw03_YardClose.j1_bad H).symm.trans hr.out) (by decide)) | (exact absurd ((galloonlaw03_YardClose.j2_bad H).symm.trans hr.out) (by decide))
     ·rw [if_neg c44] at H
      have c44b0 : decide ((wrap64 (1 + t568)) < t579) = false := decide_eq_false c44
      clear c44
      have H' := Aside0.mk H
      clear H
      have hnb55 := NB577_567.out
      have hnc55 := NB567_577.out
      have hnb56 := NB577_581.out
      have hnc56 := NB581_577.out
      have hnb57 := NB577_585.out
      have hnc57 := NB585_577.out
      obtain ⟨hcz58_0, hcz58_1, hfz58_0, hfz58_1⟩ := cQ BK577
      as_aux_lemma =>
        go_wp2_with (first | (go_at_call 20; (with_reducible refine (galloonref03_Valid.calls kj6 t574 t575 true _ A40.out).mono ?_); rintro e w59 ⟨rfl, hb⟩; replace BK567 := kF BK567 hb; replace BK577 := kF BK577 hb; replace BK581 := kF BK581 hb; replace BK585 := Aside0.mk (blk_below (g := gb585) (o := .cells #[.int .i64 t582, .int .i64 t583] 23 (0, 0)) (by (with_reducible repeat (first | refine blk_drewN ?_ _ | refine blk_drew ?_ | refine blk_alloc ?_ _)); refine blk_put (cs := #[.int .i64 t582, .int .i64 0]) ?_ 1 _ rfl; (with_reducible repeat (first | refine blk_drewN ?_ _ | refine blk_drew ?_ | refine blk_alloc ?_ _)); refine blk_put (cs := #[.int .i64 0, .int .i64 0]) ?_ 0 _ rfl; (with_reducible repeat (first | refine blk_drewN ?_ _ | refine blk_drew ?_ | refine blk_alloc ?_ _)); exact BK585.out) hb); replace HB := bS HB hb; (try clear hb); (try clear hb2); (try clear hk); (try clear hi); have hnb60 := NB581_567.out; have hnc60 := NB567_581.out; have hnb61 := NB581_585.out; have hnc61 := NB585_581.out; obtain ⟨hcz62_0, hcz62_1, hfz62_0, hfz62_1⟩ := cQ BK581) | (go_at_call 20; (with_reducible refine (galloonref03_Valid.calls kj6 t578 t579 true _ A42.out).mono ?_); rintro e w63 ⟨rfl, hb⟩; replace BK567 := kB BK567 hb; replace BK577 := kB BK577 hb; replace BK581 := kB BK581 hb; replace BK585 := kB BK585 hb; replace HB := bS HB hb; (try clear hb); (try clear hb2); (try clear hk); (try clear hi); obtain ⟨hcz64_0, hcz64_1, hfz64_0, hfz64_1⟩ := cQ BK581; have hnb65 := NB585_567.out; have hnc65 := NB567_585.out; obtain ⟨hcz66_0, hcz66_1, hfz66_0, hfz66_1⟩ := cQ BK585; obtain ⟨hcz67_0, hcz67_1, hfz67_0, hfz67_1⟩ := cQ BK577))
        go_meet
        case rel => exact ⟨_, ((!(t582 == t574) || (!(t583 == t575)))), (by first | rfl | (simp; done) | (simp [*]; done)), H', ⟨by have := HJ6.out; first | omega | exact Nat.le_refl _⟩, kA BK567, kA BK577, kA BK581, kA BK585, bA HB⟩
    case rest =>
     clear HC19
     try clear p2
     try clear p6
     try clear p64
     try clear p2
     try clear p6
     obtain ⟨kq, x87_18, rfl, HA, HJ18, BK567, BK577, BK581, BK585, HB⟩ := hcut
     cases kq with
     | zero => exact absurd HA.out (by simp [galloonlaw03_YardClose.j1])
     | succ kj18 =>
      have H := HA.out
      clear HA
      simp only [galloonlaw03_YardClose.j1] at H
      by_cases c82 : x87_18 = true
      ·subst c82
       have H1 : (some false) = some r := by rw [if_pos rfl] at H; exact H
       clear H
       have H := H1
       clear H1
       obtain rfl := Option.some.inj H
       exact absurd hr.out (by decide)
      ·replace c82 := Bool.eq_false_iff.mpr c82
       subst c82
       have H1 : (if (wrap64 ((mx (wrap64 ((wrap64 (t569 * t575)) - (wrap64 (t574 * t570)))) (wrap64 (-(wrap64 ((wrap64 (t569 * t575)) - (wrap64 (t574 * t570))))))) * t579)) < (wrap64 ((mx (wrap64 ((wrap64 (t569 * t579)) - (wrap64 (t578 * t570)))) (wrap64 (-(wrap64 ((wrap64 (t569 * t579)) - (wrap64 (t578 * t570))))))) * t575)) then (some false) else ((yard_Next.f kj18 (wrap64 (1 + t568)) t569 t570).bind fun bt588 => ((yard_Before.f kj18 (wrap64 (1 + t568)) t569 t570).bind fun bt592 => (if bt588.2.2 = 0 then (if bt592.2.2 = 0 then (galloonlaw03_YardClose.j2 kj18 bt588.2.2 bt592.2.2 false t569 t570 t574 t575 bt588.1 bt588.2.1 bt592.1 bt592.2.1) else (if bt592.2.2 = 6 then (galloonlaw03_YardClose.j2 kj18 bt588.2.2 bt592.2.2 (t569 != 0) t569 t570 t574 t575 bt588.1 bt588.2.1 bt592.1 bt592.2.1) else (galloonlaw03_YardClose.j2 kj18 bt588.2.2 bt592.2.2 true t569 t570 t574 t575 bt588.1 bt588.2.1 bt592.1 bt592.2.1))) else (if bt588.2.2 = 6 then (if t569 = t570 then (if bt592.2.2 = 0 then (galloonlaw03_YardClose.j2 kj18 bt588.2.2 bt592.2.2 false t569 t570 t574 t575 bt588.1 bt588.2.1 bt592.1 bt592.2.1) else (if bt592.2.2 = 6 then (galloonlaw03_YardClose.j2 kj18 bt588.2.2 bt592.2.2 (t569 != 0) t569 t570 t574 t575 bt588.1 bt588.2.1 bt592.1 bt592.2.1) else (galloonlaw03_YardClose.j2 kj18 bt588.2.2 bt592.2.2 true t569 t570 t574 t575 bt588.1 bt588.2.1 bt592.1 bt592.2.1))) else (galloonlaw03_YardClose.j2 kj18 bt588.2.2 bt592.2.2 true t569 t570 t574 t575 bt588.1 bt588.2.1 bt592.1 bt592.2.1)) else (galloonlaw03_YardClose.j2 kj18 bt588.2.2 bt592.2.2 true t569 t570 t574 t575 bt588.1 bt588.2.1 bt592.1 bt592.2.1)))))) = some r := by rw [if_neg (show ¬ (false = true) by decide)] at H; exact H
       clear H
       have H := H1
       clear H1
       obtain ⟨ji83, hji83⟩ : ∃ j_ : Int, (mx (wrap64 ((wrap64 (t569 * t575)) - (wrap64 (t574 * t570)))) (wrap64 (-(wrap64 ((wrap64 (t569 * t575)) - (wrap64 (t574 * t570))))))) = j_ := ⟨_, rfl⟩
       replace H : (if (wrap64 ((ji83) * t579)) < (wrap64 ((mx (wrap64 ((wrap64 (t569 * t579)) - (wrap64 (t578 * t570)))) (wrap64 (-(wrap64 ((wrap64 (t569 * t579)) - (wrap64 (t578 * t570))))))) * t575)) then (some false) else ((yard_Next.f kj18 (wrap64 (1 + t568)) t569 t570).bind fun bt588 => ((yard_Before.f kj18 (wrap64 (1 + t568)) t569 t570).bind fun bt592 => (if bt588.2.2 = 0 then (if bt592.2.2 = 0 then (galloonlaw03_YardClose.j2 kj18 bt588.2.2 bt592.2.2 false t569 t570 t574 t575 bt588.1 bt588.2.1 bt592.1 bt592.2.1) else (if bt592.2.2 = 6 then (galloonlaw03_YardClose.j2 kj18 bt588.2.2 bt592.2.2 (t569 != 0) t569 t570 t574 t575 bt588.1 bt588.2.1 bt592.1 bt592.2.1) else (galloonlaw03_YardClose.j2 kj18 bt588.2.2 bt592.2.2 true t569 t570 t574 t575 bt588.1 bt588.2.1 bt592.1 bt592.2.1))) else (if bt588.2.2 = 6 then (if t569 = t570 then (if bt592.2.2 = 0 then (galloonlaw03_YardClose.j2 kj18 bt588.2.2 bt592.2.2 false t569 t570 t574 t575 bt588.1 bt588.2.1 bt592.1 bt592.2.1) else (if bt592.2.2 = 6 then (galloonlaw03_YardClose.j2 kj18 bt588.2.2 bt592.2.2 (t569 != 0) t569 t570 t574 t575 bt588.1 bt588.2.1 bt592.1 bt592.2.1) else (galloonlaw03_YardClose.j2 kj18 bt588.2.2 bt592.2.2 true t569 t570 t574 t575 bt588.1 bt588.2.1 bt592.1 bt592.2.1))) else (galloonlaw03_YardClose.j2 kj18 bt588.2.2 bt592.2.2 true t569 t570 t574 t575 bt588.1 bt588.2.1 bt592.1 bt592.2.1)) else (galloonlaw03_YardClose.j2 kj18 bt588.2.2 bt592.2.2 true t569 t570 t574 t575 bt588.1 bt588.2.1 bt592.1 bt592.2.1)))))) = some r := by first | (rw [hji83] at H; exact H) | (simp only [hji83] at H ⊢; exact H)
       have hji83_ : (if (wrap64 ((wrap64 (t569 * t575)) - (wrap64 (t574 * t570)))) < (wrap64 (-(wrap64 ((wrap64 (t569 * t575)) - (wrap64 (t574 * t570)))))) then (wrap64 (-(wrap64 ((wrap64 (t569 * t575)) - (wrap64 (t574 * t570)))))) else (wrap64 ((wrap64 (t569 * t575)) - (wrap64 (t574 * t570))))) = ji83 := hji83
       obtain ⟨ji84, hji84⟩ : ∃ j_ : Int, (mx (wrap64 ((wrap64 (t569 * t579)) - (wrap64 (t578 * t570)))) (wrap64 (-(wrap64 ((wrap64 (t569 * t579)) - (wrap64 (t578 * t570))))))) = j_ := ⟨_, rfl⟩
       replace H : (if (wrap64 ((ji83) * t579)) < (wrap64 ((ji84) * t575)) then (some false) else ((yard_Next.f kj18 (wrap64 (1 + t568)) t569 t570).bind fun bt588 => ((yard_Before.f kj18 (wrap64 (1 + t568)) t569 t570).bind fun bt592 => (if bt588.2.2 = 0 then (if bt592.2.2 = 0 then (galloonlaw03_YardClose.j2 kj18 bt588.2.2 bt592.2.2 false t569 t570 t574 t575 bt588.1 bt588.2.1 bt592.1 bt592.2.1) else (if bt592.2.2 = 6 then (galloonlaw03_YardClose.j2 kj18 bt588.2.2 bt592.2.2 (t569 != 0) t569 t570 t574 t575 bt588.1 bt588.2.1 bt592.1 bt592.2.1) else (galloonlaw03_YardClose.j2 kj18 bt588.2.2 bt592.2.2 true t569 t570 t574 t575 bt588.1 bt588.2.1 bt592.1 bt592.2.1))) else (if bt588.2.2 = 6 then (if t569 = t570 then (if bt592.2.2 = 0 then (galloonlaw03_YardClose.j2 kj18 bt588.2.2 bt592.2.2 false t569 t570 t574 t575 bt588.1 bt588.2.1 bt592.1 bt592.2.1) else (if bt592.2.2 = 6 then (galloonlaw03_YardClose.j2 kj18 bt588.2.2 bt592.2.2 (t569 != 0) t569 t570 t574 t575 bt588.1 bt588.2.1 bt592.1 bt592.2.1) else (galloonlaw03_YardClose.j2 kj18 bt588.2.2 bt592.2.2 true t569 t570 t574 t575 bt588.1 bt588.2.1 bt592.1 bt592.2.1))) else (galloonlaw03_YardClose.j2 kj18 bt588.2.2 bt592.2.2 true t569 t570 t574 t575 bt588.1 bt588.2.1 bt592.1 bt592.2.1)) else (galloonlaw03_YardClose.j2 kj18 bt588.2.2 bt592.2.2 true t569 t570 t574 t575 bt588.1 bt588.2.1 bt592.1 bt592.2.1)))))) = some r := by first | (rw [hji84] at H; exact H) | (simp only [hji84] at H ⊢; exact H)
       have hji84_ : (if (wrap64 ((wrap64 (t569 * t579)) - (wrap64 (t578 * t570)))) < (wrap64 (-(wrap64 ((wrap64 (t569 * t579)) - (wrap64 (t578 * t570)))))) then (wrap64 (-(wrap64 ((wrap64 (t569 * t579)) - (wrap64 (t578 * t570)))))) else (wrap64 ((wrap64 (t569 * t579)) - (wrap64 (t578 * t570))))) = ji84 := hji84
       by_cases c85 : (wrap64 ((ji83) * t579)) < (wrap64 ((ji84) * t575))
       ·rw [if_pos c85] at H
        have c85b0 : decide ((wrap64 ((ji83) * t579)) < (wrap64 ((ji84) * t575))) = true := decide_eq_true c85
        clear c85
        obtain rfl := Option.some.inj H
        exact absurd hr.out (by decide)
       ·rw [if_neg c85] at H
        have c85b0 : decide ((wrap64 ((ji83) * t579)) < (wrap64 ((ji84) * t575))) = false := decide_eq_false c85
        clear c85
        replace H := Option.bind_eq_some_iff.mp H
        obtain ⟨⟨t588, t589, t590⟩, A860, H⟩ := H
        replace H : ((yard_Before.f kj18 (wrap64 (1 + t568)) t569 t570).bind fun bt592 => (if t590 = 0 then (if bt592.2.2 = 0 then (galloonlaw03_YardClose.j2 kj18 t590 bt592.2.2 false t569 t570 t574 t575 t588 t589 bt592.1 bt592.2.1) else (if bt592.2.2 = 6 then (galloonlaw03_YardClose.j2 kj18 t590 bt592.2.2 (t569 != 0) t569 t570 t574 t575 t588 t589 bt592.1 bt592.2.1) else (galloonlaw03_YardClose.j2 kj18 t590 bt592.2.2 true t569 t570 t574 t575 t588 t589 bt592.1 bt592.2.1))) else (if t590 = 6 then (if t569 = t570 then (if bt592.2.2 = 0 then (galloonlaw03_YardClose.j2 kj18 t590 bt592.2.2 false t569 t570 t574 t575 t588 t589 bt592.1 bt592.2.1) else (if bt592.2.2 = 6 then (galloonlaw03_YardClose.j2 kj18 t590 bt592.2.2 (t569 != 0) t569 t570 t574 t575 t588 t589 bt592.1 bt592.2.1) else (galloonlaw03_YardClose.j2 kj18 t590 bt592.2.2 true t569 t570 t574 t575 t588 t589 bt592.1 bt592.2.1))) else (galloonlaw03_YardClose.j2 kj18 t590 bt592.2.2 true t569 t570 t574 t575 t588 t589 bt592.1 bt592.2.1)) else (galloonlaw03_YardClose.j2 kj18 t590 bt592.2.2 true t569 t570 t574 t575 t588 t589 bt592.1 bt592.2.1)))) = some r := H
        have A86 := Aside0.mk A860
        clear A860
        replace H := Option.bind_eq_some_iff.mp H
        obtain ⟨⟨t592, t593, t594⟩, A870, H⟩ := H
        replace H : (if t590 = 0 then (if t594 = 0 then (galloonlaw03_YardClose.j2 kj18 t590 t594 false t569 t570 t574 t575 t588 t589 t592 t593) else (if t594 = 6 then (galloonlaw03_YardClose.j2 kj18 t590 t594 (t569 != 0) t569 t570 t574 t575 t588 t589 t592 t593) else (galloonlaw03_YardClose.j2 kj18 t590 t594 true t569 t570 t574 t575 t588 t589 t592 t593))) else (if t590 = 6 then (if t569 = t570 then (if t594 = 0 then (galloonlaw03_YardClose.j2 kj18 t590 t594 false t569 t570 t574 t575 t588 t589 t592 t593) else (if t594 = 6 then (galloonlaw03_YardClose.j2 kj18 t590 t594 (t569 != 0) t569 t570 t574 t575 t588 t589 t592 t593) else (galloonlaw03_YardClose.j2 kj18 t590 t594 true t569 t570 t574 t575 t588 t589 t592 t593))) else (galloonlaw03_YardClose.j2 kj18 t590 t594 true t569 t570 t574 t575 t588 t589 t592 t593)) else (galloonlaw03_YardClose.j2 kj18 t590 t594 true t569 t570 t574 t575 t588 t589 t592 t593))) = some r := H
        have A87 := Aside0.mk A870
        clear A870
        have HC88 := Aside0.mk H
        clear H
        have hnb89 := NB567_577.out
        have hnc89 := NB577_567.out
        have hnb90 := NB567_581.out
        have hnc90 := NB581_567.out
        have hnb91 := NB567_585.out
        have hnc91 := NB585_567.out
        obtain ⟨hcz92_0, hcz92_1, hfz92_0, hfz92_1⟩ := cQ BK567
        have hnb93 := NB577_581.out
        have hnc93 := NB581_577.out
        have hnb94 := NB577_585.out
        have hnc94 := NB585_577.out
        obtain ⟨hcz95_0, hcz95_1, hfz95_0, hfz95_1⟩ := cQ BK577
        have hnb96 := NB581_585.out
        have hnc96 := NB585_581.out
        obtain ⟨hcz97_0, hcz97_1, hfz97_0, hfz97_1⟩ := cQ BK581
        go_upto_region 16 with (fail)
        repeat (go_quiet (first | (go_at_call 46; (with_reducible refine (yard_Next.calls kj18 (wrap64 (1 + t568)) t569 t570 t588 t589 t590 _ A86.out).mono ?_); rintro e w98 ⟨rfl, hb⟩; replace BK567 := kB BK567 hb; replace BK577 := kB BK577 hb; replace BK581 := kB BK581 hb; replace BK585 := kB BK585 hb; replace HB := bS HB hb; (try clear hb); (try clear hb2); (try clear hk); (try clear hi)) | ((with_reducible refine gate_dst (N := 17) rfl ?_); refine box_event ?hg (N := 17) ?hd (cs := #[.int .i64 0, .int .i64 0]) (t := 23) ?hr ?_; (case hd => rfl); (case hg => rfl); (case hr => first | (go_simp; done) | (go_simp; rfl)); intro gb591 hg w99 hbox hb; have BK591 := Aside0.mk (hbox); have GW591 := bG HB hg; have GE591 := bG HB hg; replace HB := bS HB hb; have NB567_591 := nL BK567 hg; have NB591_567 := nG BK567 hg; replace BK567 := kB BK567 hb; have NB577_591 := nL BK577 hg; have NB591_577 := nG BK577 hg; replace BK577 := kB BK577 hb; have NB581_591 := nL BK581 hg; have NB591_581 := nG BK581 hg; replace BK581 := kB BK581 hb; have NB585_591 := nL BK585 hg; have NB591_585 := nG BK585 hg; replace BK585 := kB BK585 hb; clear hb hbox hg; have hnb100 := NB591_567.out; have hnc100 := NB567_591.out; have hnb101 := NB591_577.out; have hnc101 := NB577_591.out; have hnb102 := NB591_581.out; have hnc102 := NB581_591.out; have hnb103 := NB591_585.out; have hnc103 := NB585_591.out; obtain ⟨hcz104_0, hcz104_1, hfz104_0, hfz104_1⟩ := cQ BK591; obtain ⟨hcz105_0, hcz105_1, hfz105_0, hfz105_1⟩ := cQ BK567) | (go_at_call 45; (with_reducible refine (yard_Before.calls kj18 (wrap64 (1 + t568)) t569 t570 t592 t593 t594 _ A87.out).mono ?_); rintro e w106 ⟨rfl, hb⟩; replace BK567 := kF BK567 hb; replace BK577 := kF BK577 hb; replace BK581 := kF BK581 hb; replace BK585 := kF BK585 hb; replace BK591 := Aside0.mk (blk_below (g := gb591) (o := .cells #[.int .i64 t588, .int .i64 t589] 23 (0, 0)) (by (with_reducible repeat (first | refine blk_drewN ?_ _ | refine blk_drew ?_ | refine blk_alloc ?_ _)); refine blk_put (cs := #[.int .i64 t588, .int .i64 0]) ?_ 1 _ rfl; (with_reducible repeat (first | refine blk_drewN ?_ _ | refine blk_drew ?_ | refine blk_alloc ?_ _)); refine blk_put (cs := #[.int .i64 0, .int .i64 0]) ?_ 0 _ rfl; (with_reducible repeat (first | refine blk_drewN ?_ _ | refine blk_drew ?_ | refine blk_alloc ?_ _)); exact BK591.out) hb); replace HB := bS HB hb; (try clear hb); (try clear hb2); (try clear hk); (try clear hi)) | ((with_reducible refine gate_dst (N := 19) rfl ?_); refine box_event ?hg (N := 19) ?hd (cs := #[.int .i64 0, .int .i64 0]) (t := 23) ?hr ?_; (case hd => rfl); (case hg => rfl); (case hr => first | (go_simp; done) | (go_simp; rfl)); intro gb595 hg w107 hbox hb; have BK595 := Aside0.mk (hbox); have GW595 := bG HB hg; have GE595 := bG HB hg; replace HB := bS HB hb; have NB567_595 := nL BK567 hg; have NB595_567 := nG BK567 hg; replace BK567 := kB BK567 hb; have NB577_595 := nL BK577 hg; have NB595_577 := nG BK577 hg; replace BK577 := kB BK577 hb; have NB581_595 := nL BK581 hg; have NB595_581 := nG BK581 hg; replace BK581 := kB BK581 hb; have NB585_595 := nL BK585 hg; have NB595_585 := nG BK585 hg; replace BK585 := kB BK585 hb; have NB591_595 := nL BK591 hg; have NB595_591 := nG BK591 hg; replace BK591 := kB BK591 hb; clear hb hbox hg; have hnb108 := NB595_567.out; have hnc108 := NB567_595.out; have hnb109 := NB595_577.out; have hnc109 := NB577_595.out; have hnb110 := NB595_581.out; have hnc110 := NB581_595.out; have hnb111 := NB595_585.out; have hnc111 := NB585_595.out; have hnb112 := NB595_591.out; have hnc112 := NB591_595.out; obtain ⟨hcz113_0, hcz113_1, hfz113_0, hfz113_1⟩ := cQ BK595)); go_upto_region 16 with (first | (go_at_call 46; (with_reducible refine (yard_Next.calls kj18 (wrap64 (1 + t568)) t569 t570 t588 t589 t590 _ A86.out).mono ?_); rintro e w98 ⟨rfl, hb⟩; replace BK567 := kB BK567 hb; replace BK577 := kB BK577 hb; replace BK581 := kB BK581 hb; replace BK585 := kB BK585 hb; replace HB := bS HB hb; (try clear hb); (try clear hb2); (try clear hk); (try clear hi)) | ((with_reducible refine gate_dst (N := 17) rfl ?_); refine box_event ?hg (N := 17) ?hd (cs := #[.int .i64 0, .int .i64 0]) (t := 23) ?hr ?_; (case hd => rfl); (case hg => rfl); (case hr => first | (go_simp; done) | (go_simp; rfl)); intro gb591 hg w99 hbox hb; have BK591 := Aside0.mk (hbox); have GW591 := bG HB hg; have GE591 := bG HB hg; replace HB := bS HB hb; have NB567_591 := nL BK567 hg; have NB591_567 := nG BK567 hg; replace BK567 := kB BK567 hb; have NB577_591 := nL BK577 hg; have NB591_577 := nG BK577 hg; replace BK577 := kB BK577 hb; have NB581_591 := nL BK581 hg; have NB591_581 := nG BK581 hg; replace BK581 := kB BK581 hb; have NB585_591 := nL BK585 hg; have NB591_585 := nG BK585 hg; replace BK585 := kB BK585 hb; clear hb hbox hg; have hnb100 := NB591_567.out; have hnc100 := NB567_591.out; have hnb101 := NB591_577.out; have hnc101 := NB577_591.out; have hnb102 := NB591_581.out; have hnc102 := NB581_591.out; have hnb103 := NB591_585.out; have hnc103 := NB585_591.out; obtain ⟨hcz104_0, hcz104_1, hfz104_0, hfz104_1⟩ := cQ BK591; obtain ⟨hcz105_0, hcz105_1, hfz105_0, hfz105_1⟩ := cQ BK567) | (go_at_call 45; (with_reducible refine (yard_Before.calls kj18 (wrap64 (1 + t568)) t569 t570 t592 t593 t594 _ A87.out).mono ?_); rintro e w106 ⟨rfl, hb⟩; replace BK567 := kF BK567 hb; replace BK577 := kF BK577 hb; replace BK581 := kF BK581 hb; replace BK585 := kF BK585 hb; replace BK591 := Aside0.mk (blk_below (g := gb591) (o := .cells #[.int .i64 t588, .int .i64 t589] 23 (0, 0)) (by (with_reducible repeat (first | refine blk_drewN ?_ _ | refine blk_drew ?_ | refine blk_alloc ?_ _)); refine blk_put (cs := #[.int .i64 t588, .int .i64 0]) ?_ 1 _ rfl; (with_reducible repeat (first | refine blk_drewN ?_ _ | refine blk_drew ?_ | refine blk_alloc ?_ _)); refine blk_put (cs := #[.int .i64 0, .int .i64 0]) ?_ 0 _ rfl; (with_reducible repeat (first | refine blk_drewN ?_ _ | refine blk_drew ?_ | refine blk_alloc ?_ _)); exact BK591.out) hb); replace HB := bS HB hb; (try clear hb); (try clear hb2); (try clear hk); (try clear hi)) | ((with_reducible refine gate_dst (N := 19) rfl ?_); refine box_event ?hg (N := 19) ?hd (cs := #[.int .i64 0, .int .i64 0]) (t := 23) ?hr ?_; (case hd => rfl); (case hg => rfl); (case hr => first | (go_simp; done) | (go_simp; rfl)); intro gb595 hg w107 hbox hb; have BK595 := Aside0.mk (hbox); have GW595 := bG HB hg; have GE595 := bG HB hg; replace HB := bS HB hb; have NB567_595 := nL BK567 hg; have NB595_567 := nG BK567 hg; replace BK567 := kB BK567 hb; have NB577_595 := nL BK577 hg; have NB595_577 := nG BK577 hg; replace BK577 := kB BK577 hb; have NB581_595 := nL BK581 hg; have NB595_581 := nG BK581 hg; replace BK581 := kB BK581 hb; have NB585_595 := nL BK585 hg; have NB595_585 := nG BK585 hg; replace BK585 := kB BK585 hb; have NB591_595 := nL BK591 hg; have NB595_591 := nG BK591 hg; replace BK591 := kB BK591 hb; clear hb hbox hg; have hnb108 := NB595_567.out; have hnc108 := NB567_595.out; have hnb109 := NB595_577.out; have hnc109 := NB577_595.out; have hnb110 := NB595_581.out; have hnc110 := NB581_595.out; have hnb111 := NB595_585.out; have hnc111 := NB585_595.out; have hnb112 := NB595_591.out; have hnc112 := NB591_595.out; obtain ⟨hcz113_0, hcz113_1, hfz113_0, hfz113_1⟩ := cQ BK595)))
        (try simp only [Act.put, List.setIfInBounds_toArray, List.set_cons_zero, List.set_cons_succ])
        go_cut [162] (fun v162 wc => ∃ (kq : Nat) (x162_87 : Bool), v162 = .bool x162_87 ∧ Aside0 (galloonlaw03_YardClose.j2 kq t590 t594 x162_87 t569 t570 t574 t575 t588 t589 t592 t593 = some r) ∧ Aside0 (kq ≤ kj18) ∧ Aside0 (wc.heap[gb567]? = some (.cells #[.int .i64 t569, .int .i64 t570] 23 (0, 0))) ∧ Aside0 (wc.heap[gb577]? = some (.cells #[.int .i64 t574, .int .i64 t575] 23 (0, 0))) ∧ Aside0 (wc.heap[gb581]? = some (.cells #[.int .i64 t578, .int .i64 t579] 23 (0, 0))) ∧ Aside0 (wc.heap[gb585]? = some (.cells #[.int .i64 t582, .int .i64 t583] 23 (0, 0))) ∧ Aside0 (wc.heap[gb591]? = some (.cells #[.int .i64 t588, .int .i64 t589] 23 (0, 0))) ∧ Aside0 (wc.heap[gb595]? = some (.cells #[.int .i64 t592, .int .i64 t593] 23 (0, 0))) ∧ Aside0 (Below w.heap.size w wc))
        case first =>
         have H := HC88.out
         clear HC88
         by_cases c114 : t590 = 0
         ·rw [if_pos c114] at H
          have c114b0 : (t590 == 0) = true := beq_iff_eq.mpr c114
          have c114b1 : (t590 != 0) = false := bne_eq_false_iff_eq.mpr c114
          clear c114
          (first | rw [c114b0] | (simp only [i64_w, i32_w]; rw [c114b0]) | skip)
          by_cases c115 : t594 = 0
          ·rw [if_pos c115] at H
           have c115b0 : (t594 == 0) = true := beq_iff_eq.mpr c115
           have c115b1 : (t594 != 0) = false := bne_eq_false_iff_eq.mpr c115
           clear c115
           have H' := Aside0.mk H
           clear H
           go_wp2
           repeat (go_quiet (fail); try go_wp2)
           go_meet
           case rel => exact ⟨_, (false), (by first | rfl | (simp; done) | (simp [*]; done)), H', ⟨by have := HJ6.out; have := HJ18.out; first | omega | exact Nat.le_refl _⟩, kG BK567, kG BK577, kG BK581, kG BK585, kG BK591, ⟨by (with_reducible repeat (first | refine blk_drewN ?_ _ | refine blk_drew ?_ | refine blk_alloc ?_ _)); refine blk_put (cs := #[.int .i64 t592, .int .i64 0]) ?_ 1 _ rfl; (with_reducible repeat (first | refine blk_drewN ?_ _ | refine blk_drew ?_ | refine blk_alloc ?_ _)); refine blk_put (cs := #[.int .i64 0, .int .i64 0]) ?_ 0 _ rfl; (with_reducible repeat (first | refine blk_drewN ?_ _ | refine blk_drew ?_ | refine blk_alloc ?_ _)); exact BK595.out⟩, bA HB⟩
          ·rw [if_neg c115] at H
           have c115b0 : (t594 == 0) = false := beq_eq_false_iff_ne.mpr c115
           have c115b1 : (t594 != 0) = true := bne_iff_ne.mpr c115
           by_cases c116 : t594 = 6
           case neg =>
            rw [if_neg c116] at H
            have c116b0 : (t594 == 6) = false := beq_eq_false_iff_ne.mpr c116
            have c116b1 : (t594 != 6) = true := bne_iff_ne.mpr c116
            first | (exact absurd ((galloonlaw03_YardClose.j0_bad H).symm.trans hr.out) (by decide)) | (exact absurd ((galloonlaw03_YardClose.j1_bad H).symm.trans hr.out) (by decide)) | (exact absurd ((galloonlaw03_YardClose.j2_bad H).symm.trans hr.out) (by decide))
           rw [if_pos c116] at H
           have c116b0 : (t594 == 6) = true := beq_iff_eq.mpr c116
           have c116b1 : (t594 != 6) = false := bne_eq_false_iff_eq.mpr c116
           clear c116
           have H' := Aside0.mk H
           clear H
           have hnb117 := NB567_577.out
           have hnc117 := NB577_567.out
           have hnb118 := NB567_581.out
           have hnc118 := NB581_567.out
           have hnb119 := NB567_585.out
           have hnc119 := NB585_567.out
           have hnb120 := NB567_591.out
           have hnc120 := NB591_567.out
           have hnb121 := NB567_595.out
           have hnc121 := NB595_567.out
           obtain ⟨hcz122_0, hcz122_1, hfz122_0, hfz122_1⟩ := cQ BK567
           go_wp2
           repeat (go_quiet (fail); try go_wp2)
           go_meet
           case rel => exact ⟨_, ((t569 != 0)), (by first | rfl | (simp; done) | (simp [*]; done)), H', ⟨by have := HJ6.out; have := HJ18.out; first | omega | exact Nat.le_refl _⟩, kG BK567, kG BK577, kG BK581, kG BK585, kG BK591, ⟨by (with_reducible repeat (first | refine blk_drewN ?_ _ | refine blk_drew ?_ | refine blk_alloc ?_ _)); refine blk_put (cs := #[.int .i64 t592, .int .i64 0]) ?_ 1 _ rfl; (with_reducible repeat (first | refine blk_drewN ?_ _ | refine blk_drew ?_ | refine blk_alloc ?_ _)); refine blk_put (cs := #[.int .i64 0, .int .i64 0]) ?_ 0 _ rfl; (with_reducible repeat (first | refine blk_drewN ?_ _ | refine blk_drew ?_ | refine blk_alloc ?_ _)); exact BK595.out⟩, bA HB⟩
         ·rw [if_neg c114] at H
          have c114b0 : (t590 == 0) = false := beq_eq_false_iff_ne.mpr c114
          have c114b1 : (t590 != 0) = true := bne_iff_ne.mpr c114
          (first | rw [c114b0] | (simp only [i64_w, i32_w]; rw [c114b0]) | skip)
          by_cases c123 : t590 = 6
          case neg =>
           rw [if_neg c123] at H
           have c123b0 : (t590 == 6) = false := beq_eq_false_iff_ne.mpr c123
           have c123b1 : (t590 != 6) = true := bne_iff_ne.mpr c123
           first | (exact absurd ((galloonlaw03_YardClose.j0_bad H).symm.trans hr.out) (by decide)) | (exact absurd ((galloonlaw03_YardClose.j1_bad H).symm.trans hr.out) (by decide)) | (exact absurd ((galloonlaw03_YardClose.j2_bad H).symm.trans hr.out) (by decide))
          rw [if_pos c123] at H
          have c123b0 : (t590 == 6) = true := beq_iff_eq.mpr c123
          have c123b1 : (t590 != 6) = false := bne_eq_false_iff_eq.mpr c123
          clear c123
          by_cases c124 : t569 = t570
          case neg =>
           rw [if_neg c124] at H
           have c124b0 : (t569 == t570) = false := beq_eq_false_iff_ne.mpr c124
           have c124b1 : (t569 != t570) = true := bne_iff_ne.mpr c124
           first | (exact absurd ((galloonlaw03_YardClose.j0_bad H).symm.trans hr.out) (by decide)) | (exact absurd ((galloonlaw03_YardClose.j1_bad H).symm.trans hr.out) (by decide)) | (exact absurd ((galloonlaw03_YardClose.j2_bad H).symm.trans hr.out) (by decide))
          rw [if_pos c124] at H
          have c124b0 : (t569 == t570) = true := beq_iff_eq.mpr c124
          have c124b1 : (t569 != t570) = false := bne_eq_false_iff_eq.mpr c124
          clear c124
          by_cases c125 : t594 = 0
          ·rw [if_pos c125] at H
           have c125b0 : (t594 == 0) = true := beq_iff_eq.mpr c125
           have c125b1 : (t594 != 0) = false := bne_eq_false_iff_eq.mpr c125
           clear c125
           have H' := Aside0.mk H
           clear H
           have hnb126 := NB567_577.out
           have hnc126 := NB577_567.out
           have hnb127 := NB567_581.out
           have hnc127 := NB581_567.out
           have hnb128 := NB567_585.out
           have hnc128 := NB585_567.out
           have hnb129 := NB567_591.out
           have hnc129 := NB591_567.out
           have hnb130 := NB567_595.out
           have hnc130 := NB595_567.out
           obtain ⟨hcz131_0, hcz131_1, hfz131_0, hfz131_1⟩ := cQ BK567
           go_wp2
           repeat (go_quiet (fail); try go_wp2)
           go_meet
           case rel => exact ⟨_, (false), (by first | rfl | (simp; done) | (simp [*]; done)), H', ⟨by have := HJ6.out; have := HJ18.out; first | omega | exact Nat.le_refl _⟩, kG BK567, kG BK577, kG BK581, kG BK585, kG BK591, ⟨by (with_reducible repeat (first | refine blk_drewN ?_ _ | refine blk_drew ?_ | refine blk_alloc ?_ _)); refine blk_put (cs := #[.int .i64 t592, .int .i64 0]) ?_ 1 _ rfl; (with_reducible repeat (first | refine blk_drewN ?_ _ | refine blk_drew ?_ | refine blk_alloc ?_ _)); refine blk_put (cs := #[.int .i64 0, .int .i64 0]) ?_ 0 _ rfl; (with_reducible repeat (first | refine blk_drewN ?_ _ | refine blk_drew ?_ | refine blk_alloc ?_ _)); exact BK595.out⟩, bA HB⟩
          ·rw [if_neg c125] at H
           have c125b0 : (t594 == 0) = false := beq_eq_false_iff_ne.mpr c125
           have c125b1 : (t594 != 0) = true := bne_iff_ne.mpr c125
           by_cases c132 : t594 = 6
           case neg =>
            rw [if_neg c132] at H
            have c132b0 : (t594 == 6) = false := beq_eq_false_iff_ne.mpr c132
            have c132b1 : (t594 != 6) = true := bne_iff_ne.mpr c132
            first | (exact absurd ((galloonlaw03_YardClose.j0_bad H).symm.trans hr.out) (by decide)) | (exact absurd ((galloonlaw03_YardClose.j1_bad H).symm.trans hr.out) (by decide)) | (exact absurd ((galloonlaw03_YardClose.j2_bad H).symm.trans hr.out) (by decide))
           rw [if_pos c132] at H
           have c132b0 : (t594 == 6) = true := beq_iff_eq.mpr c132
           have c132b1 : (t594 != 6) = false := bne_eq_false_iff_eq.mpr c132
           clear c132
           have H' := Aside0.mk H
           clear H
           have hnb133 := NB567_577.out
           have hnc133 := NB577_567.out
           have hnb134 := NB567_581.out
           have hnc134 := NB581_567.out
           have hnb135 := NB567_585.out
           have hnc135 := NB585_567.out
           have hnb136 := NB567_591.out
           have hnc136 := NB591_567.out
           have hnb137 := NB567_595.out
           have hnc137 := NB595_567.out
           obtain ⟨hcz138_0, hcz138_1, hfz138_0, hfz138_1⟩ := cQ BK567
           go_wp2
           repeat (go_quiet (fail); try go_wp2)
           go_meet
           case rel => exact ⟨_, ((t569 != 0)), (by first | rfl | (simp; done) | (simp [*]; done)), H', ⟨by have := HJ6.out; have := HJ18.out; first | omega | exact Nat.le_refl _⟩, kG BK567, kG BK577, kG BK581, kG BK585, kG BK591, ⟨by (with_reducible repeat (first | refine blk_drewN ?_ _ | refine blk_drew ?_ | refine blk_alloc ?_ _)); refine blk_put (cs := #[.int .i64 t592, .int .i64 0]) ?_ 1 _ rfl; (with_reducible repeat (first | refine blk_drewN ?_ _ | refine blk_drew ?_ | refine blk_alloc ?_ _)); refine blk_put (cs := #[.int .i64 0, .int .i64 0]) ?_ 0 _ rfl; (with_reducible repeat (first | refine blk_drewN ?_ _ | refine blk_drew ?_ | refine blk_alloc ?_ _)); exact BK595.out⟩, bA HB⟩
        case rest =>
         clear HC88
         try clear p2
         try clear p6
         try clear p64
         try clear p2
         try clear p6
         try clear p64
         obtain ⟨kq, x162_87, rfl, HA, HJ87, BK567, BK577, BK581, BK585, BK591, BK595, HB⟩ := hcut
         cases kq with
         | zero => exact absurd HA.out (by simp [galloonlaw03_YardClose.j2])
         | succ kj87 =>
          have H := HA.out
          clear HA
          simp only [galloonlaw03_YardClose.j2] at H
          by_cases c151 : x162_87 = true
          ·subst c151
           have H1 : (some false) = some r := by rw [if_pos rfl] at H; exact H
           clear H
           have H := H1
           clear H1
           obtain rfl := Option.some.inj H
           exact absurd hr.out (by decide)
          ·replace c151 := Bool.eq_false_iff.mpr c151
           subst c151
           have H1 : (if t590 = 0 then ((galloonref03_Valid.f kj87 t588 t589).bind fun t596 => (if t596 = true then ((galloonref03_Less.f t569 t570 t588 t589).bind fun t597 => (if t597 = true then ((galloonref03_Less.f t569 t570 t574 t575).bind fun t598 => (if t598 = true then ((galloonref03_Less.f t574 t575 t588 t589).bind fun t599 => (if t599 = true then (some false) else (if t594 = 0 then ((galloonref03_Valid.f kj87 t592 t593).bind fun t600 => (if t600 = true then ((galloonref03_Less.f t592 t593 t569 t570).bind fun t601 => (if t601 = true then ((galloonref03_Less.f t592 t593 t574 t575).bind fun t602 => (if t602 = true then ((galloonref03_Less.f t574 t575 t569 t570).bind fun t603 => (if t603 = true then (some false) else ((galloonlaw03_awake.f kj87).bind fun t604 => (some t604)))) else ((galloonlaw03_awake.f kj87).bind fun t605 => (some t605)))) else (some false))) else (some false))) else ((galloonlaw03_awake.f kj87).bind fun t606 => (some t606))))) else (if t594 = 0 then ((galloonref03_Valid.f kj87 t592 t593).bind fun t607 => (if t607 = true then ((galloonref03_Less.f t592 t593 t569 t570).bind fun t608 => (if t608 = true then ((galloonref03_Less.f t592 t593 t574 t575).bind fun t609 => (if t609 = true then ((galloonref03_Less.f t574 t575 t569 t570).bind fun t610 => (if t610 = true then (some false) else ((galloonlaw03_awake.f kj87).bind fun t611 => (some t611)))) else ((galloonlaw03_awake.f kj87).bind fun t612 => (some t612)))) else (some false))) else (some false))) else ((galloonlaw03_awake.f kj87).bind fun t613 => (some t613))))) else (some false))) else (some false))) else (if t594 = 0 then ((galloonref03_Valid.f kj87 t592 t593).bind fun t614 => (if t614 = true then ((galloonref03_Less.f t592 t593 t569 t570).bind fun t615 => (if t615 = true then ((galloonref03_Less.f t592 t593 t574 t575).bind fun t616 => (if t616 = true then ((galloonref03_Less.f t574 t575 t569 t570).bind fun t617 => (if t617 = true then (some false) else ((galloonlaw03_awake.f kj87).bind fun t618 => (some t618)))) else ((galloonlaw03_awake.f kj87).bind fun t619 => (some t619)))) else (some false))) else (some false))) else ((galloonlaw03_awake.f kj87).bind fun t620 => (some t620)))) = some r := by rw [if_neg (show ¬ (false = true) by decide)] at H; exact H
           clear H
           have H := H1
           clear H1
           by_cases c152 : t590 = 0
           ·rw [if_pos c152] at H
            have c152b0 : (t590 == 0) = true := beq_iff_eq.mpr c152
            have c152b1 : (t590 != 0) = false := bne_eq_false_iff_eq.mpr c152
            clear c152
            replace H := Option.bind_eq_some_iff.mp H
            obtain ⟨t596, A1530, H⟩ := H
            replace H : (if t596 = true then ((galloonref03_Less.f t569 t570 t588 t589).bind fun t597 => (if t597 = true then ((galloonref03_Less.f t569 t570 t574 t575).bind fun t598 => (if t598 = true then ((galloonref03_Less.f t574 t575 t588 t589).bind fun t599 => (if t599 = true then (some false) else (if t594 = 0 then ((galloonref03_Valid.f kj87 t592 t593).bind fun t600 => (if t600 = true then ((galloonref03_Less.f t592 t593 t569 t570).bind fun t601 => (if t601 = true then ((galloonref03_Less.f t592 t593 t574 t575).bind fun t602 => (if t602 = true then ((galloonref03_Less.f t574 t575 t569 t570).bind fun t603 => (if t603 = true then (some false) else ((galloonlaw03_awake.f kj87).bind fun t604 => (some t604)))) else ((galloonlaw03_awake.f kj87).bind fun t605 => (some t605)))) else (some false))) else (some false))) else ((galloonlaw03_awake.f kj87).bind fun t606 => (some t606))))) else (if t594 = 0 then ((galloonref03_Valid.f kj87 t592 t593).bind fun t607 => (if t607 = true then ((galloonref03_Less.f t592 t593 t569 t570).bind fun t608 => (if t608 = true then ((galloonref03_Less.f t592 t593 t574 t575).bind fun t609 => (if t609 = true then ((galloonref03_Less.f t574 t575 t569 t570).bind fun t610 => (if t610 = true then (some false) else ((galloonlaw03_awake.f kj87).bind fun t611 => (some t611)))) else ((galloonlaw03_awake.f kj87).bind fun t612 => (some t612)))) else (some false))) else (some false))) else ((galloonlaw03_awake.f kj87).bind fun t613 => (some t613))))) else (some false))) else (some false)) = some r := H
            have A153 := Aside0.mk A1530
            clear A1530
            by_cases c154 : t596 = true
            case neg =>
             replace c154 := Bool.eq_false_iff.mpr c154
             subst c154
             have H1 : (some false) = some r := by rw [if_neg (show ¬ (false = true) by decide)] at H; exact H
             clear H
             have H := H1
             clear H1
             obtain rfl := Option.some.inj H
             exact absurd hr.out (by decide)
            subst c154
            have H1 : ((galloonref03_Less.f t569 t570 t588 t589).bind fun t597 => (if t597 = true then ((galloonref03_Less.f t569 t570 t574 t575).bind fun t598 => (if t598 = true then ((galloonref03_Less.f t574 t575 t588 t589).bind fun t599 => (if t599 = true then (some false) else (if t594 = 0 then ((galloonref03_Valid.f kj87 t592 t593).bind fun t600 => (if t600 = true then ((galloonref03_Less.f t592 t593 t569 t570).bind fun t601 => (if t601 = true then ((galloonref03_Less.f t592 t593 t574 t575).bind fun t602 => (if t602 = true then ((galloonref03_Less.f t574 t575 t569 t570).bind fun t603 => (if t603 = true then (some false) else ((galloonlaw03_awake.f kj87).bind fun t604 => (some t604)))) else ((galloonlaw03_awake.f kj87).bind fun t605 => (some t605)))) else (some false))) else (some false))) else ((galloonlaw03_awake.f kj87).bind fun t606 => (some t606))))) else (if t594 = 0 then ((galloonref03_Valid.f kj87 t592 t593).bind fun t607 => (if t607 = true then ((galloonref03_Less.f t592 t593 t569 t570).bind fun t608 => (if t608 = true then ((galloonref03_Less.f t592 t593 t574 t575).bind fun t609 => (if t609 = true then ((galloonref03_Less.f t574 t575 t569 t570).bind fun t610 => (if t610 = true then (some false) else ((galloonlaw03_awake.f kj87).bind fun t611 => (some t611)))) else ((galloonlaw03_awake.f kj87).bind fun t612 => (some t612)))) else (some false))) else (some false))) else ((galloonlaw03_awake.f kj87).bind fun t613 => (some t613))))) else (some false))) = some r := by rw [if_pos rfl] at H; exact H
            clear H
            have H := H1
            clear H1
            replace H := Option.bind_eq_some_iff.mp H
            obtain ⟨t597, A1550, H⟩ := H
            replace H : (if t597 = true then ((galloonref03_Less.f t569 t570 t574 t575).bind fun t598 => (if t598 = true then ((galloonref03_Less.f t574 t575 t588 t589).bind fun t599 => (if t599 = true then (some false) else (if t594 = 0 then ((galloonref03_Valid.f kj87 t592 t593).bind fun t600 => (if t600 = true then ((galloonref03_Less.f t592 t593 t569 t570).bind fun t601 => (if t601 = true then ((galloonref03_Less.f t592 t593 t574 t575).bind fun t602 => (if t602 = true then ((galloonref03_Less.f t574 t575 t569 t570).bind fun t603 => (if t603 = true then (some false) else ((galloonlaw03_awake.f kj87).bind fun t604 => (some t604)))) else ((galloonlaw03_awake.f kj87).bind fun t605 => (some t605)))) else (some false))) else (some false))) else ((galloonlaw03_awake.f kj87).bind fun t606 => (some t606))))) else (if t594 = 0 then ((galloonref03_Valid.f kj87 t592 t593).bind fun t607 => (if t607 = true then ((galloonref03_Less.f t592 t593 t569 t570).bind fun t608 => (if t608 = true then ((galloonref03_Less.f t592 t593 t574 t575).bind fun t609 => (if t609 = true then ((galloonref03_Less.f t574 t575 t569 t570).bind fun t610 => (if t610 = true then (some false) else ((galloonlaw03_awake.f kj87).bind fun t611 => (some t611)))) else ((galloonlaw03_awake.f kj87).bind fun t612 => (some t612)))) else (some false))) else (some false))) else ((galloonlaw03_awake.f kj87).bind fun t613 => (some t613))))) else (some false)) = some r := H
            have A155 := Aside0.mk A1550
            clear A1550
            by_cases c156 : t597 = true
            case neg =>
             replace c156 := Bool.eq_false_iff.mpr c156
             subst c156
             have H1 : (some false) = some r := by rw [if_neg (show ¬ (false = true) by decide)] at H; exact H
             clear H
             have H := H1
             clear H1
             obtain rfl := Option.some.inj H
             exact absurd hr.out (by decide)
            subst c156
            have H1 : ((galloonref03_Less.f t569 t570 t574 t575).bind fun t598 => (if t598 = true then ((galloonref03_Less.f t574 t575 t588 t589).bind fun t599 => (if t599 = true then (some false) else (if t594 = 0 then ((galloonref03_Valid.f kj87 t592 t593).bind fun t600 => (if t600 = true then ((galloonref03_Less.f t592 t593 t569 t570).bind fun t601 => (if t601 = true then ((galloonref03_Less.f t592 t593 t574 t575).bind fun t602 => (if t602 = true then ((galloonref03_Less.f t574 t575 t569 t570).bind fun t603 => (if t603 = true then (some false) else ((galloonlaw03_awake.f kj87).bind fun t604 => (some t604)))) else ((galloonlaw03_awake.f kj87).bind fun t605 => (some t605)))) else (some false))) else (some false))) else ((galloonlaw03_awake.f kj87).bind fun t606 => (some t606))))) else (if t594 = 0 then ((galloonref03_Valid.f kj87 t592 t593).bind fun t607 => (if t607 = true then ((galloonref03_Less.f t592 t593 t569 t570).bind fun t608 => (if t608 = true then ((galloonref03_Less.f t592 t593 t574 t575).bind fun t609 => (if t609 = true then ((galloonref03_Less.f t574 t575 t569 t570).bind fun t610 => (if t610 = true then (some false) else ((galloonlaw03_awake.f kj87).bind fun t611 => (some t611)))) else ((galloonlaw03_awake.f kj87).bind fun t612 => (some t612)))) else (some false))) else (some false))) else ((galloonlaw03_awake.f kj87).bind fun t613 => (some t613))))) = some r := by rw [if_pos rfl] at H; exact H
            clear H
            have H := H1
            clear H1
            replace H := Option.bind_eq_some_iff.mp H
            obtain ⟨t598, A1570, H⟩ := H
            replace H : (if t598 = true then ((galloonref03_Less.f t574 t575 t588 t589).bind fun t599 => (if t599 = true then (some false) else (if t594 = 0 then ((galloonref03_Valid.f kj87 t592 t593).bind fun t600 => (if t600 = true then ((galloonref03_Less.f t592 t593 t569 t570).bind fun t601 => (if t601 = true then ((galloonref03_Less.f t592 t593 t574 t575).bind fun t602 => (if t602 = true then ((galloonref03_Less.f t574 t575 t569 t570).bind fun t603 => (if t603 = true then (some false) else ((galloonlaw03_awake.f kj87).bind fun t604 => (some t604)))) else ((galloonlaw03_awake.f kj87).bind fun t605 => (some t605)))) else (some false))) else (some false))) else ((galloonlaw03_awake.f kj87).bind fun t606 => (some t606))))) else (if t594 = 0 then ((galloonref03_Valid.f kj87 t592 t593).bind fun t607 => (if t607 = true then ((galloonref03_Less.f t592 t593 t569 t570).bind fun t608 => (if t608 = true then ((galloonref03_Less.f t592 t593 t574 t575).bind fun t609 => (if t609 = true then ((galloonref03_Less.f t574 t575 t569 t570).bind fun t610 => (if t610 = true then (some false) else ((galloonlaw03_awake.f kj87).bind fun t611 => (some t611)))) else ((galloonlaw03_awake.f kj87).bind fun t612 => (some t612)))) else (some false))) else (some false))) else ((galloonlaw03_awake.f kj87).bind fun t613 => (some t613)))) = some r := H
            have A157 := Aside0.mk A1570
            clear A1570
            by_cases c158 : t598 = true
            ·subst c158
             have H1 : ((galloonref03_Less.f t574 t575 t588 t589).bind fun t599 => (if t599 = true then (some false) else (if t594 = 0 then ((galloonref03_Valid.f kj87 t592 t593).bind fun t600 => (if t600 = true then ((galloonref03_Less.f t592 t593 t569 t570).bind fun t601 => (if t601 = true then ((galloonref03_Less.f t592 t593 t574 t575).bind fun t602 => (if t602 = true then ((galloonref03_Less.f t574 t575 t569 t570).bind fun t603 => (if t603 = true then (some false) else ((galloonlaw03_awake.f kj87).bind fun t604 => (some t604)))) else ((galloonlaw03_awake.f kj87).bind fun t605 => (some t605)))) else (some false))) else (some false))) else ((galloonlaw03_awake.f kj87).bind fun t606 => (some t606))))) = some r := by rw [if_pos rfl] at H; exact H
             clear H
             have H := H1
             clear H1
             replace H := Option.bind_eq_some_iff.mp H
             obtain ⟨t599, A1590, H⟩ := H
             replace H : (if t599 = true then (some false) else (if t594 = 0 then ((galloonref03_Valid.f kj87 t592 t593).bind fun t600 => (if t600 = true then ((galloonref03_Less.f t592 t593 t569 t570).bind fun t601 => (if t601 = true then ((galloonref03_Less.f t592 t593 t574 t575).bind fun t602 => (if t602 = true then ((galloonref03_Less.f t574 t575 t569 t570).bind fun t603 => (if t603 = true then (some false) else ((galloonlaw03_awake.f kj87).bind fun t604 => (some t604)))) else ((galloonlaw03_awake.f kj87).bind fun t605 => (some t605)))) else (some false))) else (some false))) else ((galloonlaw03_awake.f kj87).bind fun t606 => (some t606)))) = some r := H
             have A159 := Aside0.mk A1590
             clear A1590
             by_cases c160 : t599 = true
             ·subst c160
              have H1 : (some false) = some r := by rw [if_pos rfl] at H; exact H
              clear H
              have H := H1
              clear H1
              obtain rfl := Option.some.inj H
              exact absurd hr.out (by decide)
             ·replace c160 := Bool.eq_false_iff.mpr c160
              subst c160
              have H1 : (if t594 = 0 then ((galloonref03_Valid.f kj87 t592 t593).bind fun t600 => (if t600 = true then ((galloonref03_Less.f t592 t593 t569 t570).bind fun t601 => (if t601 = true then ((galloonref03_Less.f t592 t593 t574 t575).bind fun t602 => (if t602 = true then ((galloonref03_Less.f t574 t575 t569 t570).bind fun t603 => (if t603 = true then (some false) else ((galloonlaw03_awake.f kj87).bind fun t604 => (some t604)))) else ((galloonlaw03_awake.f kj87).bind fun t605 => (some t605)))) else (some false))) else (some false))) else ((galloonlaw03_awake.f kj87).bind fun t606 => (some t606))) = some r := by rw [if_neg (show ¬ (false = true) by decide)] at H; exact H
              clear H
              have H := H1
              clear H1
              by_cases c161 : t594 = 0
              ·rw [if_pos c161] at H
               have c161b0 : (t594 == 0) = true := beq_iff_eq.mpr c161
               have c161b1 : (t594 != 0) = false := bne_eq_false_iff_eq.mpr c161
               clear c161
               replace H := Option.bind_eq_some_iff.mp H
               obtain ⟨t600, A1620, H⟩ := H
               replace H : (if t600 = true then ((galloonref03_Less.f t592 t593 t569 t570).bind fun t601 => (if t601 = true then ((galloonref03_Less.f t592 t593 t574 t575).bind fun t602 => (if t602 = true then ((galloonref03_Less.f t574 t575 t569 t570).bind fun t603 => (if t603 = true then (some false) else ((galloonlaw03_awake.f kj87).bind fun t604 => (some t604)))) else ((galloonlaw03_awake.f kj87).bind fun t605 => (some t605)))) else (some false))) else (some false)) = some r := H
               have A162 := Aside0.mk A1620
               clear A1620
               by_cases c163 : t600 = true
               case neg =>
                replace c163 := Bool.eq_false_iff.mpr c163
                subst c163
                have H1 : (some false) = some r := by rw [if_neg (show ¬ (false = true) by decide)] at H; exact H
                clear H
                have H := H1
                clear H1
                obtain rfl := Option.some.inj H
                exact absurd hr.out (by decide)
               subst c163
               have H1 : ((galloonref03_Less.f t592 t593 t569 t570).bind fun t601 => (if t601 = true then ((galloonref03_Less.f t592 t593 t574 t575).bind fun t602 => (if t602 = true then ((galloonref03_Less.f t574 t575 t569 t570).bind fun t603 => (if t603 = true then (some false) else ((galloonlaw03_awake.f kj87).bind fun t604 => (some t604)))) else ((galloonlaw03_awake.f kj87).bind fun t605 => (some t605)))) else (some false))) = some r := by rw [if_pos rfl] at H; exact H
               clear H
               have H := H1
               clear H1
               replace H := Option.bind_eq_some_iff.mp H
               obtain ⟨t601, A1640, H⟩ := H
               replace H : (if t601 = true then ((galloonref03_Less.f t592 t593 t574 t575).bind fun t602 => (if t602 = true then ((galloonref03_Less.f t574 t575 t569 t570).bind fun t603 => (if t603 = true then (some false) else ((galloonlaw03_awake.f kj87).bind fun t604 => (some t604)))) else ((galloonlaw03_awake.f kj87).bind fun t605 => (some t605)))) else (some false)) = some r := H
               have A164 := Aside0.mk A1640
               clear A1640
               by_cases c165 : t601 = true
               case neg =>
                replace c165 := Bool.eq_false_iff.mpr c165
                subst c165
                have H1 : (some false) = some r := by rw [if_neg (show ¬ (false = true) by decide)] at H; exact H
                clear H
                have H := H1
                clear H1
                obtain rfl := Option.some.inj H
                exact absurd hr.out (by decide)
               subst c165
               have H1 : ((galloonref03_Less.f t592 t593 t574 t575).bind fun t602 => (if t602 = true then ((galloonref03_Less.f t574 t575 t569 t570).bind fun t603 => (if t603 = true then (some false) else ((galloonlaw03_awake.f kj87).bind fun t604 => (some t604)))) else ((galloonlaw03_awake.f kj87).bind fun t605 => (some t605)))) = some r := by rw [if_pos rfl] at H; exact H
               clear H
               have H := H1
               clear H1
               replace H := Option.bind_eq_some_iff.mp H
               obtain ⟨t602, A1660, H⟩ := H
               replace H : (if t602 = true then ((galloonref03_Less.f t574 t575 t569 t570).bind fun t603 => (if t603 = true then (some false) else ((galloonlaw03_awake.f kj87).bind fun t604 => (some t604)))) else ((galloonlaw03_awake.f kj87).bind fun t605 => (some t605))) = some r := H
               have A166 := Aside0.mk A1660
               clear A1660
               by_cases c167 : t602 = true
               ·subst c167
                have H1 : ((galloonref03_Less.f t574 t575 t569 t570).bind fun t603 => (if t603 = true then (some false) else ((galloonlaw03_awake.f kj87).bind fun t604 => (some t604)))) = some r := by rw [if_pos rfl] at H; exact H
                clear H
                have H := H1
                clear H1
                replace H := Option.bind_eq_some_iff.mp H
                obtain ⟨t603, A1680, H⟩ := H
                replace H : (if t603 = true then (some false) else ((galloonlaw03_awake.f kj87).bind fun t604 => (some t604))) = some r := H
                have A168 := Aside0.mk A1680
                clear A1680
                by_cases c169 : t603 = true
                ·subst c169
                 have H1 : (some false) = some r := by rw [if_pos rfl] at H; exact H
                 clear H
                 have H := H1
                 clear H1
                 obtain rfl := Option.some.inj H
                 exact absurd hr.out (by decide)
                ·replace c169 := Bool.eq_false_iff.mpr c169
                 subst c169
                 have H1 : ((galloonlaw03_awake.f kj87).bind fun t604 => (some t604)) = some r := by rw [if_neg (show ¬ (false = true) by decide)] at H; exact H
                 clear H
                 have H := H1
                 clear H1
                 replace H := Option.bind_eq_some_iff.mp H
                 obtain ⟨t604, A1700, H⟩ := H
                 replace H : (some t604) = some r := H
                 have A170 := Aside0.mk A1700
                 clear A1700
                 obtain rfl := Option.some.inj H
                 have hnb171 := NB591_567.out
                 have hnc171 := NB567_591.out
                 have hnb172 := NB591_577.out
                 have hnc172 := NB577_591.out
                 have hnb173 := NB591_581.out
                 have hnc173 := NB581_591.out
                 have hnb174 := NB591_585.out
                 have hnc174 := NB585_591.out
                 have hnb175 := NB591_595.out
                 have hnc175 := NB595_591.out
                 obtain ⟨hcz176_0, hcz176_1, hfz176_0, hfz176_1⟩ := cQ BK591
                 as_aux_lemma =>
                   go_wp2_with (first | (go_at_call 20; (with_reducible refine (galloonref03_Valid.calls kj87 t588 t589 true _ A153.out).mono ?_); rintro e w177 ⟨rfl, hb⟩; replace BK567 := kB BK567 hb; replace BK577 := kB BK577 hb; replace BK581 := kB BK581 hb; replace BK585 := kB BK585 hb; replace BK591 := kB BK591 hb; replace BK595 := kB BK595 hb; replace HB := bS HB hb; (try clear hb); (try clear hb2); (try clear hk); (try clear hi); have hnb178 := NB567_577.out; have hnc178 := NB577_567.out; have hnb179 := NB567_581.out; have hnc179 := NB581_567.out; have hnb180 := NB567_585.out; have hnc180 := NB585_567.out; have hnb181 := NB567_595.out; have hnc181 := NB595_567.out; obtain ⟨hcz182_0, hcz182_1, hfz182_0, hfz182_1⟩ := cQ BK567; obtain ⟨hcz183_0, hcz183_1, hfz183_0, hfz183_1⟩ := cQ BK591) | (go_at_call 29; (with_reducible refine (galloonref03_Less.calls t569 t570 t588 t589 true _ A155.out).mono ?_); rintro e w184 ⟨rfl, hb⟩; replace BK567 := kB BK567 hb; replace BK577 := kB BK577 hb; replace BK581 := kB BK581 hb; replace BK585 := kB BK585 hb; replace BK591 := kB BK591 hb; replace BK595 := kB BK595 hb; replace HB := bS HB hb; (try clear hb); (try clear hb2); (try clear hk); (try clear hi); obtain ⟨hcz185_0, hcz185_1, hfz185_0, hfz185_1⟩ := cQ BK567; have hnb186 := NB577_581.out; have hnc186 := NB581_577.out; have hnb187 := NB577_585.out; have hnc187 := NB585_577.out; have hnb188 := NB577_595.out; have hnc188 := NB595_577.out; obtain ⟨hcz189_0, hcz189_1, hfz189_0, hfz189_1⟩ := cQ BK577) | (go_at_call 29; (with_reducible refine (galloonref03_Less.calls t569 t570 t574 t575 true _ A157.out).mono ?_); rintro e w190 ⟨rfl, hb⟩; replace BK567 := kB BK567 hb; replace BK577 := kB BK577 hb; replace BK581 := kB BK581 hb; replace BK585 := kB BK585 hb; replace BK591 := kB BK591 hb; replace BK595 := kB BK595 hb; replace HB := bS HB hb; (try clear hb); (try clear hb2); (try clear hk); (try clear hi); obtain ⟨hcz191_0, hcz191_1, hfz191_0, hfz191_1⟩ := cQ BK577; obtain ⟨hcz192_0, hcz192_1, hfz192_0, hfz192_1⟩ := cQ BK591) | (go_at_call 29; (with_reducible refine (galloonref03_Less.calls t574 t575 t588 t589 false _ A159.out).mono ?_); rintro e w193 ⟨rfl, hb⟩; replace BK567 := kB BK567 hb; replace BK577 := kB BK577 hb; replace BK581 := kB BK581 hb; replace BK585 := kB BK585 hb; replace BK591 := kB BK591 hb; replace BK595 := kB BK595 hb; replace HB := bS HB hb; (try clear hb); (try clear hb2); (try clear hk); (try clear hi); have hnb194 := NB595_581.out; have hnc194 := NB581_595.out; have hnb195 := NB595_585.out; have hnc195 := NB585_595.out; obtain ⟨hcz196_0, hcz196_1, hfz196_0, hfz196_1⟩ := cQ BK595) | (go_at_call 20; (with_reducible refine (galloonref03_Valid.calls kj87 t592 t593 true _ A162.out).mono ?_); rintro e w197 ⟨rfl, hb⟩; replace BK567 := kB BK567 hb; replace BK577 := kB BK577 hb; replace BK581 := kB BK581 hb; replace BK585 := kB BK585 hb; replace BK591 := kB BK591 hb; replace BK595 := kB BK595 hb; replace HB := bS HB hb; (try clear hb); (try clear hb2); (try clear hk); (try clear hi); obtain ⟨hcz198_0, hcz198_1, hfz198_0, hfz198_1⟩ := cQ BK595; obtain ⟨hcz199_0, hcz199_1, hfz199_0, hfz199_1⟩ := cQ BK567) | (go_at_call 29; (with_reducible refine (galloonref03_Less.calls t592 t593 t569 t570 true _ A164.out).mono ?_); rintro e w200 ⟨rfl, hb⟩; replace BK567 := kB BK567 hb; replace BK577 := kB BK577 hb; replace BK581 := kB BK581 hb; replace BK585 := kB BK585 hb; replace BK591 := kB BK591 hb; replace BK595 := kB BK595 hb; replace HB := bS HB hb; (try clear hb); (try clear hb2); (try clear hk); (try clear hi); obtain ⟨hcz201_0, hcz201_1, hfz201_0, hfz201_1⟩ := cQ BK595; obtain ⟨hcz202_0, hcz202_1, hfz202_0, hfz202_1⟩ := cQ BK577) | (go_at_call 29; (with_reducible refine (galloonref03_Less.calls t592 t593 t574 t575 true _ A166.out).mono ?_); rintro e w203 ⟨rfl, hb⟩; replace BK567 := kB BK567 hb; replace BK577 := kB BK577 hb; replace BK581 := kB BK581 hb; replace BK585 := kB BK585 hb; replace BK591 := kB BK591 hb; replace BK595 := kB BK595 hb; replace HB := bS HB hb; (try clear hb); (try clear hb2); (try clear hk); (try clear hi); obtain ⟨hcz204_0, hcz204_1, hfz204_0, hfz204_1⟩ := cQ BK577; obtain ⟨hcz205_0, hcz205_1, hfz205_0, hfz205_1⟩ := cQ BK567) | (go_at_call 29; (with_reducible refine (galloonref03_Less.calls t574 t575 t569 t570 false _ A168.out).mono ?_); rintro e w206 ⟨rfl, hb⟩; replace BK567 := kB BK567 hb; replace BK577 := kB BK577 hb; replace BK581 := kB BK581 hb; replace BK585 := kB BK585 hb; replace BK591 := kB BK591 hb; replace BK595 := kB BK595 hb; replace HB := bS HB hb; (try clear hb); (try clear hb2); (try clear hk); (try clear hi)) | (go_at_call 21; (with_reducible refine (galloonlaw03_awake.calls kj87  t604 _ A170.out).mono ?_); rintro e w207 ⟨rfl, hb⟩; replace BK567 := kB BK567 hb; replace BK577 := kB BK577 hb; replace BK581 := kB BK581 hb; replace BK585 := kB BK585 hb; replace BK591 := kB BK591 hb; replace BK595 := kB BK595 hb; replace HB := bS HB hb; (try clear hb); (try clear hb2); (try clear hk); (try clear hi)))
                   go_ret
                   exact ⟨by first | rfl | (simp [errW_none, errW_some] <;> rfl) | (simp only [← hji83, ← hji84]; first | rfl | (simp [errW_none, errW_some] <;> rfl)) | (simp [*, errW_none, errW_some] <;> rfl), bB HB⟩
               ·replace c167 := Bool.eq_false_iff.mpr c167
                subst c167
                have H1 : ((galloonlaw03_awake.f kj87).bind fun t605 => (some t605)) = some r := by rw [if_neg (show ¬ (false = true) by decide)] at H; exact H
                clear H
                have H := H1
                clear H1
                replace H := Option.bind_eq_some_iff.mp H
                obtain ⟨t605, A2080, H⟩ := H
                replace H : (some t605) = some r := H
                have A208 := Aside0.mk A2080
                clear A2080
                obtain rfl := Option.some.inj H
                have hnb209 := NB591_567.out
                have hnc209 := NB567_591.out
                have hnb210 := NB591_577.out
                have hnc210 := NB577_591.out
                have hnb211 := NB591_581.out
                have hnc211 := NB581_591.out
                have hnb212 := NB591_585.out
                have hnc212 := NB585_591.out
                have hnb213 := NB591_595.out
                have hnc213 := NB595_591.out
                obtain ⟨hcz214_0, hcz214_1, hfz214_0, hfz214_1⟩ := cQ BK591
                as_aux_lemma =>
                  go_wp2_with (first | (go_at_call 20; (with_reducible refine (galloonref03_Valid.calls kj87 t588 t589 true _ A153.out).mono ?_); rintro e w215 ⟨rfl, hb⟩; replace BK567 := kB BK567 hb; replace BK577 := kB BK577 hb; replace BK581 := kB BK581 hb; replace BK585 := kB BK585 hb; replace BK591 := kB BK591 hb; replace BK595 := kB BK595 hb; replace HB := bS HB hb; (try clear hb); (try clear hb2); (try clear hk); (try clear hi); have hnb216 := NB567_577.out; have hnc216 := NB577_567.out; have hnb217 := NB567_581.out; have hnc217 := NB581_567.out; have hnb218 := NB567_585.out; have hnc218 := NB585_567.out; have hnb219 := NB567_595.out; have hnc219 := NB595_567.out; obtain ⟨hcz220_0, hcz220_1, hfz220_0, hfz220_1⟩ := cQ BK567; obtain ⟨hcz221_0, hcz221_1, hfz221_0, hfz221_1⟩ := cQ BK591) | (go_at_call 29; (with_reducible refine (galloonref03_Less.calls t569 t570 t588 t589 true _ A155.out).mono ?_); rintro e w222 ⟨rfl, hb⟩; replace BK567 := kB BK567 hb; replace BK577 := kB BK577 hb; replace BK581 := kB BK581 hb; replace BK585 := kB BK585 hb; replace BK591 := kB BK591 hb; replace BK595 := kB BK595 hb; replace HB := bS HB hb; (try clear hb); (try clear hb2); (try clear hk); (try clear hi); obtain ⟨hcz223_0, hcz223_1, hfz223_0, hfz223_1⟩ := cQ BK567; have hnb224 := NB577_581.out; have hnc224 := NB581_577.out; have hnb225 := NB577_585.out; have hnc225 := NB585_577.out; have hnb226 := NB577_595.out; have hnc226 := NB595_577.out; obtain ⟨hcz227_0, hcz227_1, hfz227_0, hfz227_1⟩ := cQ BK577) | (go_at_call 29; (with_reducible refine (galloonref03_Less.calls t569 t570 t574 t575 true _ A157.out).mono ?_); rintro e w228 ⟨rfl, hb⟩; replace BK567 := kB BK567 hb; replace BK577 := kB BK577 hb; replace BK581 := kB BK581 hb; replace BK585 := kB BK585 hb; replace BK591 := kB BK591 hb; replace BK595 := kB BK595 hb; replace HB := bS HB hb; (try clear hb); (try clear hb2); (try clear hk); (try clear hi); obtain ⟨hcz229_0, hcz229_1, hfz229_0, hfz229_1⟩ := cQ BK577; obtain ⟨hcz230_0, hcz230_1, hfz230_0, hfz230_1⟩ := cQ BK591) | (go_at_call 29; (with_reducible refine (galloonref03_Less.calls t574 t575 t588 t589 false _ A159.out).mono ?_); rintro e w231 ⟨rfl, hb⟩; replace BK567 := kB BK567 hb; replace BK577 := kB BK577 hb; replace BK581 := kB BK581 hb; replace BK585 := kB BK585 hb; replace BK591 := kB BK591 hb; replace BK595 := kB BK595 hb; replace HB := bS HB hb; (try clear hb); (try clear hb2); (try clear hk); (try clear hi); have hnb232 := NB595_581.out; have hnc232 := NB581_595.out; have hnb233 := NB595_585.out; have hnc233 := NB585_595.out; obtain ⟨hcz234_0, hcz234_1, hfz234_0, hfz234_1⟩ := cQ BK595) | (go_at_call 20; (with_reducible refine (galloonref03_Valid.calls kj87 t592 t593 true _ A162.out).mono ?_); rintro e w235 ⟨rfl, hb⟩; replace BK567 := kB BK567 hb; replace BK577 := kB BK577 hb; replace BK581 := kB BK581 hb; replace BK585 := kB BK585 hb; replace BK591 := kB BK591 hb; replace BK595 := kB BK595 hb; replace HB := bS HB hb; (try clear hb); (try clear hb2); (try clear hk); (try clear hi); obtain ⟨hcz236_0, hcz236_1, hfz236_0, hfz236_1⟩ := cQ BK595; obtain ⟨hcz237_0, hcz237_1, hfz237_0, hfz237_1⟩ := cQ BK567) | (go_at_call 29; (with_reducible refine (galloonref03_Less.calls t592 t593 t569 t570 true _ A164.out).mono ?_); rintro e w238 ⟨rfl, hb⟩; replace BK567 := kB BK567 hb; replace BK577 := kB BK577 hb; replace BK581 := kB BK581 hb; replace BK585 := kB BK585 hb; replace BK591 := kB BK591 hb; replace BK595 := kB BK595 hb; replace HB := bS HB hb; (try clear hb); (try clear hb2); (try clear hk); (try clear hi); obtain ⟨hcz239_0, hcz239_1, hfz239_0, hfz239_1⟩ := cQ BK595; obtain ⟨hcz240_0, hcz240_1, hfz240_0, hfz240_1⟩ := cQ BK577) | (go_at_call 29; (with_reducible refine (galloonref03_Less.calls t592 t593 t574 t575 false _ A166.out).mono ?_); rintro e w241 ⟨rfl, hb⟩; replace BK567 := kB BK567 hb; replace BK577 := kB BK577 hb; replace BK581 := kB BK581 hb; replace BK585 := kB BK585 hb; replace BK591 := kB BK591 hb; replace BK595 := kB BK595 hb; replace HB := bS HB hb; (try clear hb); (try clear hb2); (try clear hk); (try clear hi)) | (go_at_call 21; (with_reducible refine (galloonlaw03_awake.calls kj87  t605 _ A208.out).mono ?_); rintro e w242 ⟨rfl, hb⟩; replace BK567 := kB BK567 hb; replace BK577 := kB BK577 hb; replace BK581 := kB BK581 hb; replace BK585 := kB BK585 hb; replace BK591 := kB BK591 hb; replace BK595 := kB BK595 hb; replace HB := bS HB hb; (try clear hb); (try clear hb2); (try clear hk); (try clear hi)))
                  go_ret
                  exact ⟨by first | rfl | (simp [errW_none, errW_some] <;> rfl) | (simp only [← hji83, ← hji84]; first | rfl | (simp [errW_none, errW_some] <;> rfl)) | (simp [*, errW_none, errW_some] <;> rfl), bB HB⟩
              ·rw [if_neg c161] at H
               have c161b0 : (t594 == 0) = false := beq_eq_false_iff_ne.mpr c161
               have c161b1 : (t594 != 0) = true := bne_iff_ne.mpr c161
               replace H := Option.bind_eq_some_iff.mp H
               obtain ⟨t606, A2430, H⟩ := H
               replace H : (some t606) = some r := H
               have A243 := Aside0.mk A2430
               clear A2430
               obtain rfl := Option.some.inj H
               have hnb244 := NB591_567.out
               have hnc244 := NB567_591.out
               have hnb245 := NB591_577.out
               have hnc245 := NB577_591.out
               have hnb246 := NB591_581.out
               have hnc246 := NB581_591.out
               have hnb247 := NB591_585.out
               have hnc247 := NB585_591.out
               have hnb248 := NB591_595.out
               have hnc248 := NB595_591.out
               obtain ⟨hcz249_0, hcz249_1, hfz249_0, hfz249_1⟩ := cQ BK591
               as_aux_lemma =>
                 go_wp2_with (first | (go_at_call 20; (with_reducible refine (galloonref03_Valid.calls kj87 t588 t589 true _ A153.out).mono ?_); rintro e w250 ⟨rfl, hb⟩; replace BK567 := kB BK567 hb; replace BK577 := kB BK577 hb; replace BK581 := kB BK581 hb; replace BK585 := kB BK585 hb; replace BK591 := kB BK591 hb; replace BK595 := kB BK595 hb; replace HB := bS HB hb; (try clear hb); (try clear hb2); (try clear hk); (try clear hi); have hnb251 := NB567_577.out; have hnc251 := NB577_567.out; have hnb252 := NB567_581.out; have hnc252 := NB581_567.out; have hnb253 := NB567_585.out; have hnc253 := NB585_567.out; have hnb254 := NB567_595.out; have hnc254 := NB595_567.out; obtain ⟨hcz255_0, hcz255_1, hfz255_0, hfz255_1⟩ := cQ BK567; obtain ⟨hcz256_0, hcz256_1, hfz256_0, hfz256_1⟩ := cQ BK591) | (go_at_call 29; (with_reducible refine (galloonref03_Less.calls t569 t570 t588 t589 true _ A155.out).mono ?_); rintro e w257 ⟨rfl, hb⟩; replace BK567 := kB BK567 hb; replace BK577 := kB BK577 hb; replace BK581 := kB BK581 hb; replace BK585 := kB BK585 hb; replace BK591 := kB BK591 hb; replace BK595 := kB BK595 hb; replace HB := bS HB hb; (try clear hb); (try clear hb2); (try clear hk); (try clear hi); obtain ⟨hcz258_0, hcz258_1, hfz258_0, hfz258_1⟩ := cQ BK567; have hnb259 := NB577_581.out; have hnc259 := NB581_577.out; have hnb260 := NB577_585.out; have hnc260 := NB585_577.out; have hnb261 := NB577_595.out; have hnc261 := NB595_577.out; obtain ⟨hcz262_0, hcz262_1, hfz262_0, hfz262_1⟩ := cQ BK577) | (go_at_call 29; (with_reducible refine (galloonref03_Less.calls t569 t570 t574 t575 true _ A157.out).mono ?_); rintro e w263 ⟨rfl, hb⟩; replace BK567 := kB BK567 hb; replace BK577 := kB BK577 hb; replace BK581 := kB BK581 hb; replace BK585 := kB BK585 hb; replace BK591 := kB BK591 hb; replace BK595 := kB BK595 hb; replace HB := bS HB hb; (try clear hb); (try clear hb2); (try clear hk); (try clear hi); obtain ⟨hcz264_0, hcz264_1, hfz264_0, hfz264_1⟩ := cQ BK577; obtain ⟨hcz265_0, hcz265_1, hfz265_0, hfz265_1⟩ := cQ BK591) | (go_at_call 29; (with_reducible refine (galloonref03_Less.calls t574 t575 t588 t589 false _ A159.out).mono ?_); rintro e w266 ⟨rfl, hb⟩; replace BK567 := kB BK567 hb; replace BK577 := kB BK577 hb; replace BK581 := kB BK581 hb; replace BK585 := kB BK585 hb; replace BK591 := kB BK591 hb; replace BK595 := kB BK595 hb; replace HB := bS HB hb; (try clear hb); (try clear hb2); (try clear hk); (try clear hi)) | (go_at_call 21; (with_reducible refine (galloonlaw03_awake.calls kj87  t606 _ A243.out).mono ?_); rintro e w267 ⟨rfl, hb⟩; replace BK567 := kB BK567 hb; replace BK577 := kB BK577 hb; replace BK581 := kB BK581 hb; replace BK585 := kB BK585 hb; replace BK591 := kB BK591 hb; replace BK595 := kB BK595 hb; replace HB := bS HB hb; (try clear hb); (try clear hb2); (try clear hk); (try clear hi)))
                 go_ret
                 exact ⟨by first | rfl | (simp [errW_none, errW_some] <;> rfl) | (simp only [← hji83, ← hji84]; first | rfl | (simp [errW_none, errW_some] <;> rfl)) | (simp [*, errW_none, errW_some] <;> rfl), bB HB⟩
            ·replace c158 := Bool.eq_false_iff.mpr c158
             subst c158
             have H1 : (if t594 = 0 then ((galloonref03_Valid.f kj87 t592 t593).bind fun t607 => (if t607 = true then ((galloonref03_Less.f t592 t593 t569 t570).bind fun t608 => (if t608 = true then ((galloonref03_Less.f t592 t593 t574 t575).bind fun t609 => (if t609 = true then ((galloonref03_Less.f t574 t575 t569 t570).bind fun t610 => (if t610 = true then (some false) else ((galloonlaw03_awake.f kj87).bind fun t611 => (some t611)))) else ((galloonlaw03_awake.f kj87).bind fun t612 => (some t612)))) else (some false))) else (some false))) else ((galloonlaw03_awake.f kj87).bind fun t613 => (some t613))) = some r := by rw [if_neg (show ¬ (false = true) by decide)] at H; exact H
             clear H
             have H := H1
             clear H1
             by_cases c268 : t594 = 0
             ·rw [if_pos c268] at H
              have c268b0 : (t594 == 0) = true := beq_iff_eq.mpr c268
              have c268b1 : (t594 != 0) = false := bne_eq_false_iff_eq.mpr c268
              clear c268
              replace H := Option.bind_eq_some_iff.mp H
              obtain ⟨t607, A2690, H⟩ := H
              replace H : (if t607 = true then ((galloonref03_Less.f t592 t593 t569 t570).bind fun t608 => (if t608 = true then ((galloonref03_Less.f t592 t593 t574 t575).bind fun t609 => (if t609 = true then ((galloonref03_Less.f t574 t575 t569 t570).bind fun t610 => (if t610 = true then (some false) else ((galloonlaw03_awake.f kj87).bind fun t611 => (some t611)))) else ((galloonlaw03_awake.f kj87).bind fun t612 => (some t612)))) else (some false))) else (some false)) = some r := H
              have A269 := Aside0.mk A2690
              clear A2690
              by_cases c270 : t607 = true
              case neg =>
               replace c270 := Bool.eq_false_iff.mpr c270
               subst c270
               have H1 : (some false) = some r := by rw [if_neg (show ¬ (false = true) by decide)] at H; exact H
               clear H
               have H := H1
               clear H1
               obtain rfl := Option.some.inj H
               exact absurd hr.out (by decide)
              subst c270
              have H1 : ((galloonref03_Less.f t592 t593 t569 t570).bind fun t608 => (if t608 = true then ((galloonref03_Less.f t592 t593 t574 t575).bind fun t609 => (if t609 = true then ((galloonref03_Less.f t574 t575 t569 t570).bind fun t610 => (if t610 = true then (some false) else ((galloonlaw03_awake.f kj87).bind fun t611 => (some t611)))) else ((galloonlaw03_awake.f kj87).bind fun t612 => (some t612)))) else (some false))) = some r := by rw [if_pos rfl] at H; exact H
              clear H
              have H := H1
              clear H1
              replace H := Option.bind_eq_some_iff.mp H
              obtain ⟨t608, A2710, H⟩ := H
              replace H : (if t608 = true then ((galloonref03_Less.f t592 t593 t574 t575).bind fun t609 => (if t609 = true then ((galloonref03_Less.f t574 t575 t569 t570).bind fun t610 => (if t610 = true then (some false) else ((galloonlaw03_awake.f kj87).bind fun t611 => (some t611)))) else ((galloonlaw03_awake.f kj87).bind fun t612 => (some t612)))) else (some false)) = some r := H
              have A271 := Aside0.mk A2710
              clear A2710
              by_cases c272 : t608 = true
              case neg =>
               replace c272 := Bool.eq_false_iff.mpr c272
               subst c272
               have H1 : (some false) = some r := by rw [if_neg (show ¬ (false = true) by decide)] at H; exact H
               clear H
               have H := H1
               clear H1
               obtain rfl := Option.some.inj H
               exact absurd hr.out (by decide)
              subst c272
              have H1 : ((galloonref03_Less.f t592 t593 t574 t575).bind fun t609 => (if t609 = true then ((galloonref03_Less.f t574 t575 t569 t570).bind fun t610 => (if t610 = true then (some false) else ((galloonlaw03_awake.f kj87).bind fun t611 => (some t611)))) else ((galloonlaw03_awake.f kj87).bind fun t612 => (some t612)))) = some r := by rw [if_pos rfl] at H; exact H
              clear H
              have H := H1
              clear H1
              replace H := Option.bind_eq_some_iff.mp H
              obtain ⟨t609, A2730, H⟩ := H
              replace H : (if t609 = true then ((galloonref03_Less.f t574 t575 t569 t570).bind fun t610 => (if t610 = true then (some false) else ((galloonlaw03_awake.f kj87).bind fun t611 => (some t611)))) else ((galloonlaw03_awake.f kj87).bind fun t612 => (some t612))) = some r := H
              have A273 := Aside0.mk A2730
              clear A2730
              by_cases c274 : t609 = true
              ·subst c274
               have H1 : ((galloonref03_Less.f t574 t575 t569 t570).bind fun t610 => (if t610 = true then (some false) else ((galloonlaw03_awake.f kj87).bind fun t611 => (some t611)))) = some r := by rw [if_pos rfl] at H; exact H
               clear H
               have H := H1
               clear H1
               replace H := Option.bind_eq_some_iff.mp H
               obtain ⟨t610, A2750, H⟩ := H
               replace H : (if t610 = true then (some false) else ((galloonlaw03_awake.f kj87).bind fun t611 => (some t611))) = some r := H
               have A275 := Aside0.mk A2750
               clear A2750
               by_cases c276 : t610 = true
               ·subst c276
                have H1 : (some false) = some r := by rw [if_pos rfl] at H; exact H
                clear H
                have H := H1
                clear H1
                obtain rfl := Option.some.inj H
                exact absurd hr.out (by decide)
               ·replace c276 := Bool.eq_false_iff.mpr c276
                subst c276
                have H1 : ((galloonlaw03_awake.f kj87).bind fun t611 => (some t611)) = some r := by rw [if_neg (show ¬ (false = true) by decide)] at H; exact H
                clear H
                have H := H1
                clear H1
                replace H := Option.bind_eq_some_iff.mp H
                obtain ⟨t611, A2770, H⟩ := H
                replace H : (some t611) = some r := H
                have A277 := Aside0.mk A2770
                clear A2770
                obtain rfl := Option.some.inj H
                have hnb278 := NB591_567.out
                have hnc278 := NB567_591.out
                have hnb279 := NB591_577.out
                have hnc279 := NB577_591.out
                have hnb280 := NB591_581.out
                have hnc280 := NB581_591.out
                have hnb281 := NB591_585.out
                have hnc281 := NB585_591.out
                have hnb282 := NB591_595.out
                have hnc282 := NB595_591.out
                obtain ⟨hcz283_0, hcz283_1, hfz283_0, hfz283_1⟩ := cQ BK591
                as_aux_lemma =>
                  go_wp2_with (first | (go_at_call 20; (with_reducible refine (galloonref03_Valid.calls kj87 t588 t589 true _ A153.out).mono ?_); rintro e w284 ⟨rfl, hb⟩; replace BK567 := kB BK567 hb; replace BK577 := kB BK577 hb; replace BK581 := kB BK581 hb; replace BK585 := kB BK585 hb; replace BK591 := kB BK591 hb; replace BK595 := kB BK595 hb; replace HB := bS HB hb; (try clear hb); (try clear hb2); (try clear hk); (try clear hi); have hnb285 := NB567_577.out; have hnc285 := NB577_567.out; have hnb286 := NB567_581.out; have hnc286 := NB581_567.out; have hnb287 := NB567_585.out; have hnc287 := NB585_567.out; have hnb288 := NB567_595.out; have hnc288 := NB595_567.out; obtain ⟨hcz289_0, hcz289_1, hfz289_0, hfz289_1⟩ := cQ BK567; obtain ⟨hcz290_0, hcz290_1, hfz290_0, hfz290_1⟩ := cQ BK591) | (go_at_call 29; (with_reducible refine (galloonref03_Less.calls t569 t570 t588 t589 true _ A155.out).mono ?_); rintro e w291 ⟨rfl, hb⟩; replace BK567 := kB BK567 hb; replace BK577 := kB BK577 hb; replace BK581 := kB BK581 hb; replace BK585 := kB BK585 hb; replace BK591 := kB BK591 hb; replace BK595 := kB BK595 hb; replace HB := bS HB hb; (try clear hb); (try clear hb2); (try clear hk); (try clear hi); obtain ⟨hcz292_0, hcz292_1, hfz292_0, hfz292_1⟩ := cQ BK567; have hnb293 := NB577_581.out; have hnc293 := NB581_577.out; have hnb294 := NB577_585.out; have hnc294 := NB585_577.out; have hnb295 := NB577_595.out; have hnc295 := NB595_577.out; obtain ⟨hcz296_0, hcz296_1, hfz296_0, hfz296_1⟩ := cQ BK577) | (go_at_call 29; (with_reducible refine (galloonref03_Less.calls t569 t570 t574 t575 false _ A157.out).mono ?_); rintro e w297 ⟨rfl, hb⟩; replace BK567 := kB BK567 hb; replace BK577 := kB BK577 hb; replace BK581 := kB BK581 hb; replace BK585 := kB BK585 hb; replace BK591 := kB BK591 hb; replace BK595 := kB BK595 hb; replace HB := bS HB hb; (try clear hb); (try clear hb2); (try clear hk); (try clear hi); have hnb298 := NB595_581.out; have hnc298 := NB581_595.out; have hnb299 := NB595_585.out; have hnc299 := NB585_595.out; obtain ⟨hcz300_0, hcz300_1, hfz300_0, hfz300_1⟩ := cQ BK595) | (go_at_call 20; (with_reducible refine (galloonref03_Valid.calls kj87 t592 t593 true _ A269.out).mono ?_); rintro e w301 ⟨rfl, hb⟩; replace BK567 := kB BK567 hb; replace BK577 := kB BK577 hb; replace BK581 := kB BK581 hb; replace BK585 := kB BK585 hb; replace BK591 := kB BK591 hb; replace BK595 := kB BK595 hb; replace HB := bS HB hb; (try clear hb); (try clear hb2); (try clear hk); (try clear hi); obtain ⟨hcz302_0, hcz302_1, hfz302_0, hfz302_1⟩ := cQ BK595; obtain ⟨hcz303_0, hcz303_1, hfz303_0, hfz303_1⟩ := cQ BK567) | (go_at_call 29; (with_reducible refine (galloonref03_Less.calls t592 t593 t569 t570 true _ A271.out).mono ?_); rintro e w304 ⟨rfl, hb⟩; replace BK567 := kB BK567 hb; replace BK577 := kB BK577 hb; replace BK581 := kB BK581 hb; replace BK585 := kB BK585 hb; replace BK591 := kB BK591 hb; replace BK595 := kB BK595 hb; replace HB := bS HB hb; (try clear hb); (try clear hb2); (try clear hk); (try clear hi); obtain ⟨hcz305_0, hcz305_1, hfz305_0, hfz305_1⟩ := cQ BK595; obtain ⟨hcz306_0, hcz306_1, hfz306_0, hfz306_1⟩ := cQ BK577) | (go_at_call 29; (with_reducible refine (galloonref03_Less.calls t592 t593 t574 t575 true _ A273.out).mono ?_); rintro e w307 ⟨rfl, hb⟩; replace BK567 := kB BK567 hb; replace BK577 := kB BK577 hb; replace BK581 := kB BK581 hb; replace BK585 := kB BK585 hb; replace BK591 := kB BK591 hb; replace BK595 := kB BK595 hb; replace HB := bS HB hb; (try clear hb); (try clear hb2); (try clear hk); (try clear hi); obtain ⟨hcz308_0, hcz308_1, hfz308_0, hfz308_1⟩ := cQ BK577; obtain ⟨hcz309_0, hcz309_1, hfz309_0, hfz309_1⟩ := cQ BK567) | (go_at_call 29; (with_reducible refine (galloonref03_Less.calls t574 t575 t569 t570 false _ A275.out).mono ?_); rintro e w310 ⟨rfl, hb⟩; replace BK567 := kB BK567 hb; replace BK577 := kB BK577 hb; replace BK581 := kB BK581 hb; replace BK585 := kB BK585 hb; replace BK591 := kB BK591 hb; replace BK595 := kB BK595 hb; replace HB := bS HB hb; (try clear hb); (try clear hb2); (try clear hk); (try clear hi)) | (go_at_call 21; (with_reducible refine (galloonlaw03_awake.calls kj87  t611 _ A277.out).mono ?_); rintro e w311 ⟨rfl, hb⟩; replace BK567 := kB BK567 hb; replace BK577 := kB BK577 hb; replace BK581 := kB BK581 hb; replace BK585 := kB BK585 hb; replace BK591 := kB BK591 hb; replace BK595 := kB BK595 hb; replace HB := bS HB hb; (try clear hb); (try clear hb2); (try clear hk); (try clear hi)))
                  go_ret
                  exact ⟨by first | rfl | (simp [errW_none, errW_some] <;> rfl) | (simp only [← hji83, ← hji84]; first | rfl | (simp [errW_none, errW_some] <;> rfl)) | (simp [*, errW_none, errW_some] <;> rfl), bB HB⟩
              ·replace c274 := Bool.eq_false_iff.mpr c274
               subst c274
               have H1 : ((galloonlaw03_awake.f kj87).bind fun t612 => (some t612)) = some r := by rw [if_neg (show ¬ (false = true) by decide)] at H; exact H
               clear H
               have H := H1
               clear H1
               replace H := Option.bind_eq_some_iff.mp H
               obtain ⟨t612, A3120, H⟩ := H
               replace H : (some t612) = some r := H
               have A312 := Aside0.mk A3120
               clear A3120
               obtain rfl := Option.some.inj H
               have hnb313 := NB591_567.out
               have hnc313 := NB567_591.out
               have hnb314 := NB591_577.out
               have hnc314 := NB577_591.out
               have hnb315 := NB591_581.out
               have hnc315 := NB581_591.out
               have hnb316 := NB591_585.out
               have hnc316 := NB585_591.out
               have hnb317 := NB591_595.out
               have hnc317 := NB595_591.out
               obtain ⟨hcz318_0, hcz318_1, hfz318_0, hfz318_1⟩ := cQ BK591
               as_aux_lemma =>
                 go_wp2_with (first | (go_at_call 20; (with_reducible refine (galloonref03_Valid.calls kj87 t588 t589 true _ A153.out).mono ?_); rintro e w319 ⟨rfl, hb⟩; replace BK567 := kB BK567 hb; replace BK577 := kB BK577 hb; replace BK581 := kB BK581 hb; replace BK585 := kB BK585 hb; replace BK591 := kB BK591 hb; replace BK595 := kB BK595 hb; replace HB := bS HB hb; (try clear hb); (try clear hb2); (try clear hk); (try clear hi); have hnb320 := NB567_577.out; have hnc320 := NB577_567.out; have hnb321 := NB567_581.out; have hnc321 := NB581_567.out; have hnb322 := NB567_585.out; have hnc322 := NB585_567.out; have hnb323 := NB567_595.out; have hnc323 := NB595_567.out; obtain ⟨hcz324_0, hcz324_1, hfz324_0, hfz324_1⟩ := cQ BK567; obtain ⟨hcz325_0, hcz325_1, hfz325_0, hfz325_1⟩ := cQ BK591) | (go_at_call 29; (with_reducible refine (galloonref03_Less.calls t569 t570 t588 t589 true _ A155.out).mono ?_); rintro e w326 ⟨rfl, hb⟩; replace BK567 := kB BK567 hb; replace BK577 := kB BK577 hb; replace BK581 := kB BK581 hb; replace BK585 := kB BK585 hb; replace BK591 := kB BK591 hb; replace BK595 := kB BK595 hb; replace HB := bS HB hb; (try clear hb); (try clear hb2); (try clear hk); (try clear hi); obtain ⟨hcz327_0, hcz327_1, hfz327_0, hfz327_1⟩ := cQ BK567; have hnb328 := NB577_581.out; have hnc328 := NB581_577.out; have hnb329 := NB577_585.out; have hnc329 := NB585_577.out; have hnb330 := NB577_595.out; have hnc330 := NB595_577.out; obtain ⟨hcz331_0, hcz331_1, hfz331_0, hfz331_1⟩ := cQ BK577) | (go_at_call 29; (with_reducible refine (galloonref03_Less.calls t569 t570 t574 t575 false _ A157.out).mono ?_); rintro e w332 ⟨rfl, hb⟩; replace BK567 := kB BK567 hb; replace BK577 := kB BK577 hb; replace BK581 := kB BK581 hb; replace BK585 := kB BK585 hb; replace BK591 := kB BK591 hb; replace BK595 := kB BK595 hb; replace HB := bS HB hb; (try clear hb); (try clear hb2); (try clear hk); (try clear hi); have hnb333 := NB595_581.out; have hnc333 := NB581_595.out; have hnb334 := NB595_585.out; have hnc334 := NB585_595.out; obtain ⟨hcz335_0, hcz335_1, hfz335_0, hfz335_1⟩ := cQ BK595) | (go_at_call 20; (with_reducible refine (galloonref03_Valid.calls kj87 t592 t593 true _ A269.out).mono ?_); rintro e w336 ⟨rfl, hb⟩; replace BK567 := kB BK567 hb; replace BK577 := kB BK577 hb; replace BK581 := kB BK581 hb; replace BK585 := kB BK585 hb; replace BK591 := kB BK591 hb; replace BK595 := kB BK595 hb; replace HB := bS HB hb; (try clear hb); (try clear hb2); (try clear hk); (try clear hi); obtain ⟨hcz337_0, hcz337_1, hfz337_0, hfz337_1⟩ := cQ BK595; obtain ⟨hcz338_0, hcz338_1, hfz338_0, hfz338_1⟩ := cQ BK567) | (go_at_call 29; (with_reducible refine (galloonref03_Less.calls t592 t593 t569 t570 true _ A271.out).mono ?_); rintro e w339 ⟨rfl, hb⟩; replace BK567 := kB BK567 hb; replace BK577 := kB BK577 hb; replace BK581 := kB BK581 hb; replace BK585 := kB BK585 hb; replace BK591 := kB BK591 hb; replace BK595 := kB BK595 hb; replace HB := bS HB hb; (try clear hb); (try clear hb2); (try clear hk); (try clear hi); obtain ⟨hcz340_0, hcz340_1, hfz340_0, hfz340_1⟩ := cQ BK595; obtain ⟨hcz341_0, hcz341_1, hfz341_0, hfz341_1⟩ := cQ BK577) | (go_at_call 29; (with_reducible refine (galloonref03_Less.calls t592 t593 t574 t575 false _ A273.out).mono ?_); rintro e w342 ⟨rfl, hb⟩; replace BK567 := kB BK567 hb; replace BK577 := kB BK577 hb; replace BK581 := kB BK581 hb; replace BK585 := kB BK585 hb; replace BK591 := kB BK591 hb; replace BK595 := kB BK595 hb; replace HB := bS HB hb; (try clear hb); (try clear hb2); (try clear hk); (try clear hi)) | (go_at_call 21; (with_reducible refine (galloonlaw03_awake.calls kj87  t612 _ A312.out).mono ?_); rintro e w343 ⟨rfl, hb⟩; replace BK567 := kB BK567 hb; replace BK577 := kB BK577 hb; replace BK581 := kB BK581 hb; replace BK585 := kB BK585 hb; replace BK591 := kB BK591 hb; replace BK595 := kB BK595 hb; replace HB := bS HB hb; (try clear hb); (try clear hb2); (try clear hk); (try clear hi)))
                 go_ret
                 exact ⟨by first | rfl | (simp [errW_none, errW_some] <;> rfl) | (simp only [← hji83, ← hji84]; first | rfl | (simp [errW_none, errW_some] <;> rfl)) | (simp [*, errW_none, errW_some] <;> rfl), bB HB⟩
             ·rw [if_neg c268] at H
              have c268b0 : (t594 == 0) = false := beq_eq_false_iff_ne.mpr c268
              have c268b1 : (t594 != 0) = true := bne_iff_ne.mpr c268
              replace H := Option.bind_eq_some_iff.mp H
              obtain ⟨t613, A3440, H⟩ := H
              replace H : (some t613) = some r := H
              have A344 := Aside0.mk A3440
              clear A3440
              obtain rfl := Option.some.inj H
              have hnb345 := NB591_567.out
              have hnc345 := NB567_591.out
              have hnb346 := NB591_577.out
              have hnc346 := NB577_591.out
              have hnb347 := NB591_581.out
              have hnc347 := NB581_591.out
              have hnb348 := NB591_585.out
              have hnc348 := NB585_591.out
              have hnb349 := NB591_595.out
              have hnc349 := NB595_591.out
              obtain ⟨hcz350_0, hcz350_1, hfz350_0, hfz350_1⟩ := cQ BK591
              as_aux_lemma =>
                go_wp2_with (first | (go_at_call 20; (with_reducible refine (galloonref03_Valid.calls kj87 t588 t589 true _ A153.out).mono ?_); rintro e w351 ⟨rfl, hb⟩; replace BK567 := kB BK567 hb; replace BK577 := kB BK577 hb; replace BK581 := kB BK581 hb; replace BK585 := kB BK585 hb; replace BK591 := kB BK591 hb; replace BK595 := kB BK595 hb; replace HB := bS HB hb; (try clear hb); (try clear hb2); (try clear hk); (try clear hi); have hnb352 := NB567_577.out; have hnc352 := NB577_567.out; have hnb353 := NB567_581.out; have hnc353 := NB581_567.out; have hnb354 := NB567_585.out; have hnc354 := NB585_567.out; have hnb355 := NB567_595.out; have hnc355 := NB595_567.out; obtain ⟨hcz356_0, hcz356_1, hfz356_0, hfz356_1⟩ := cQ BK567; obtain ⟨hcz357_0, hcz357_1, hfz357_0, hfz357_1⟩ := cQ BK591) | (go_at_call 29; (with_reducible refine (galloonref03_Less.calls t569 t570 t588 t589 true _ A155.out).mono ?_); rintro e w358 ⟨rfl, hb⟩; replace BK567 := kB BK567 hb; replace BK577 := kB BK577 hb; replace BK581 := kB BK581 hb; replace BK585 := kB BK585 hb; replace BK591 := kB BK591 hb; replace BK595 := kB BK595 hb; replace HB := bS HB hb; (try clear hb); (try clear hb2); (try clear hk); (try clear hi); obtain ⟨hcz359_0, hcz359_1, hfz359_0, hfz359_1⟩ := cQ BK567; have hnb360 := NB577_581.out; have hnc360 := NB581_577.out; have hnb361 := NB577_585.out; have hnc361 := NB585_577.out; have hnb362 := NB577_595.out; have hnc362 := NB595_577.out; obtain ⟨hcz363_0, hcz363_1, hfz363_0, hfz363_1⟩ := cQ BK577) | (go_at_call 29; (with_reducible refine (galloonref03_Less.calls t569 t570 t574 t575 false _ A157.out).mono ?_); rintro e w364 ⟨rfl, hb⟩; replace BK567 := kB BK567 hb; replace BK577 := kB BK577 hb; replace BK581 := kB BK581 hb; replace BK585 := kB BK585 hb; replace BK591 := kB BK591 hb; replace BK595 := kB BK595 hb; replace HB := bS HB hb; (try clear hb); (try clear hb2); (try clear hk); (try clear hi)) | (go_at_call 21; (with_reducible refine (galloonlaw03_awake.calls kj87  t613 _ A344.out).mono ?_); rintro e w365 ⟨rfl, hb⟩; replace BK567 := kB BK567 hb; replace BK577 := kB BK577 hb; replace BK581 := kB BK581 hb; replace BK585 := kB BK585 hb; replace BK591 := kB BK591 hb; replace BK595 := kB BK595 hb; replace HB := bS HB hb; (try clear hb); (try clear hb2); (try clear hk); (try clear hi)))
                go_ret
                exact ⟨by first | rfl | (simp [errW_none, errW_some] <;> rfl) | (simp only [← hji83, ← hji84]; first | rfl | (simp [errW_none, errW_some] <;> rfl)) | (simp [*, errW_none, errW_some] <;> rfl), bB HB⟩
           ·rw [if_neg c152] at H
            have c152b0 : (t590 == 0) = false := beq_eq_false_iff_ne.mpr c152
            have c152b1 : (t590 != 0) = true := bne_iff_ne.mpr c152
            by_cases c366 : t594 = 0
            ·rw [if_pos c366] at H
             have c366b0 : (t594 == 0) = true := beq_iff_eq.mpr c366
             have c366b1 : (t594 != 0) = false := bne_eq_false_iff_eq.mpr c366
             clear c366
             replace H := Option.bind_eq_some_iff.mp H
             obtain ⟨t614, A3670, H⟩ := H
             replace H : (if t614 = true then ((galloonref03_Less.f t592 t593 t569 t570).bind fun t615 => (if t615 = true then ((galloonref03_Less.f t592 t593 t574 t575).bind fun t616 => (if t616 = true then ((galloonref03_Less.f t574 t575 t569 t570).bind fun t617 => (if t617 = true then (some false) else ((galloonlaw03_awake.f kj87).bind fun t618 => (some t618)))) else ((galloonlaw03_awake.f kj87).bind fun t619 => (some t619)))) else (some false))) else (some false)) = some r := H
             have A367 := Aside0.mk A3670
             clear A3670
             by_cases c368 : t614 = true
             case neg =>
              replace c368 := Bool.eq_false_iff.mpr c368
              subst c368
              have H1 : (some false) = some r := by rw [if_neg (show ¬ (false = true) by decide)] at H; exact H
              clear H
              have H := H1
              clear H1
              obtain rfl := Option.some.inj H
              exact absurd hr.out (by decide)
             subst c368
             have H1 : ((galloonref03_Less.f t592 t593 t569 t570).bind fun t615 => (if t615 = true then ((galloonref03_Less.f t592 t593 t574 t575).bind fun t616 => (if t616 = true then ((galloonref03_Less.f t574 t575 t569 t570).bind fun t617 => (if t617 = true then (some false) else ((galloonlaw03_awake.f kj87).bind fun t618 => (some t618)))) else ((galloonlaw03_awake.f kj87).bind fun t619 => (some t619)))) else (some false))) = some r := by rw [if_pos rfl] at H; exact H
             clear H
             have H := H1
             clear H1
             replace H := Option.bind_eq_some_iff.mp H
             obtain ⟨t615, A3690, H⟩ := H
             replace H : (if t615 = true then ((galloonref03_Less.f t592 t593 t574 t575).bind fun t616 => (if t616 = true then ((galloonref03_Less.f t574 t575 t569 t570).bind fun t617 => (if t617 = true then (some false) else ((galloonlaw03_awake.f kj87).bind fun t618 => (some t618)))) else ((galloonlaw03_awake.f kj87).bind fun t619 => (some t619)))) else (some false)) = some r := H
             have A369 := Aside0.mk A3690
             clear A3690
             by_cases c370 : t615 = true
             case neg =>
              replace c370 := Bool.eq_false_iff.mpr c370
              subst c370
              have H1 : (some false) = some r := by rw [if_neg (show ¬ (false = true) by decide)] at H; exact H
              clear H
              have H := H1
              clear H1
              obtain rfl := Option.some.inj H
              exact absurd hr.out (by decide)
             subst c370
             have H1 : ((galloonref03_Less.f t592 t593 t574 t575).bind fun t616 => (if t616 = true then ((galloonref03_Less.f t574 t575 t569 t570).bind fun t617 => (if t617 = true then (some false) else ((galloonlaw03_awake.f kj87).bind fun t618 => (some t618)))) else ((galloonlaw03_awake.f kj87).bind fun t619 => (some t619)))) = some r := by rw [if_pos rfl] at H; exact H
             clear H
             have H := H1
             clear H1
             replace H := Option.bind_eq_some_iff.mp H
             obtain ⟨t616, A3710, H⟩ := H
             replace H : (if t616 = true then ((galloonref03_Less.f t574 t575 t569 t570).bind fun t617 => (if t617 = true then (some false) else ((galloonlaw03_awake.f kj87).bind fun t618 => (some t618)))) else ((galloonlaw03_awake.f kj87).bind fun t619 => (some t619))) = some r := H
             have A371 := Aside0.mk A3710
             clear A3710
             by_cases c372 : t616 = true
             ·subst c372
              have H1 : ((galloonref03_Less.f t574 t575 t569 t570).bind fun t617 => (if t617 = true then (some false) else ((galloonlaw03_awake.f kj87).bind fun t618 => (some t618)))) = some r := by rw [if_pos rfl] at H; exact H
              clear H
              have H := H1
              clear H1
              replace H := Option.bind_eq_some_iff.mp H
              obtain ⟨t617, A3730, H⟩ := H
              replace H : (if t617 = true then (some false) else ((galloonlaw03_awake.f kj87).bind fun t618 => (some t618))) = some r := H
              have A373 := Aside0.mk A3730
              clear A3730
              by_cases c374 : t617 = true
              ·subst c374
               have H1 : (some false) = some r := by rw [if_pos rfl] at H; exact H
               clear H
               have H := H1
               clear H1
               obtain rfl := Option.some.inj H
               exact absurd hr.out (by decide)
              ·replace c374 := Bool.eq_false_iff.mpr c374
               subst c374
               have H1 : ((galloonlaw03_awake.f kj87).bind fun t618 => (some t618)) = some r := by rw [if_neg (show ¬ (false = true) by decide)] at H; exact H
               clear H
               have H := H1
               clear H1
               replace H := Option.bind_eq_some_iff.mp H
               obtain ⟨t618, A3750, H⟩ := H
               replace H : (some t618) = some r := H
               have A375 := Aside0.mk A3750
               clear A3750
               obtain rfl := Option.some.inj H
               have hnb376 := NB595_567.out
               have hnc376 := NB567_595.out
               have hnb377 := NB595_577.out
               have hnc377 := NB577_595.out
               have hnb378 := NB595_581.out
               have hnc378 := NB581_595.out
               have hnb379 := NB595_585.out
               have hnc379 := NB585_595.out
               have hnb380 := NB595_591.out
               have hnc380 := NB591_595.out
               obtain ⟨hcz381_0, hcz381_1, hfz381_0, hfz381_1⟩ := cQ BK595
               as_aux_lemma =>
                 go_wp2_with (first | (go_at_call 20; (with_reducible refine (galloonref03_Valid.calls kj87 t592 t593 true _ A367.out).mono ?_); rintro e w382 ⟨rfl, hb⟩; replace BK567 := kB BK567 hb; replace BK577 := kB BK577 hb; replace BK581 := kB BK581 hb; replace BK585 := kB BK585 hb; replace BK591 := kB BK591 hb; replace BK595 := kB BK595 hb; replace HB := bS HB hb; (try clear hb); (try clear hb2); (try clear hk); (try clear hi); obtain ⟨hcz383_0, hcz383_1, hfz383_0, hfz383_1⟩ := cQ BK595; have hnb384 := NB567_577.out; have hnc384 := NB577_567.out; have hnb385 := NB567_581.out; have hnc385 := NB581_567.out; have hnb386 := NB567_585.out; have hnc386 := NB585_567.out; have hnb387 := NB567_591.out; have hnc387 := NB591_567.out; obtain ⟨hcz388_0, hcz388_1, hfz388_0, hfz388_1⟩ := cQ BK567) | (go_at_call 29; (with_reducible refine (galloonref03_Less.calls t592 t593 t569 t570 true _ A369.out).mono ?_); rintro e w389 ⟨rfl, hb⟩; replace BK567 := kB BK567 hb; replace BK577 := kB BK577 hb; replace BK581 := kB BK581 hb; replace BK585 := kB BK585 hb; replace BK591 := kB BK591 hb; replace BK595 := kB BK595 hb; replace HB := bS HB hb; (try clear hb); (try clear hb2); (try clear hk); (try clear hi); obtain ⟨hcz390_0, hcz390_1, hfz390_0, hfz390_1⟩ := cQ BK595; have hnb391 := NB577_581.out; have hnc391 := NB581_577.out; have hnb392 := NB577_585.out; have hnc392 := NB585_577.out; have hnb393 := NB577_591.out; have hnc393 := NB591_577.out; obtain ⟨hcz394_0, hcz394_1, hfz394_0, hfz394_1⟩ := cQ BK577) | (go_at_call 29; (with_reducible refine (galloonref03_Less.calls t592 t593 t574 t575 true _ A371.out).mono ?_); rintro e w395 ⟨rfl, hb⟩; replace BK567 := kB BK567 hb; replace BK577 := kB BK577 hb; replace BK581 := kB BK581 hb; replace BK585 := kB BK585 hb; replace BK591 := kB BK591 hb; replace BK595 := kB BK595 hb; replace HB := bS HB hb; (try clear hb); (try clear hb2); (try clear hk); (try clear hi); obtain ⟨hcz396_0, hcz396_1, hfz396_0, hfz396_1⟩ := cQ BK577; obtain ⟨hcz397_0, hcz397_1, hfz397_0, hfz397_1⟩ := cQ BK567) | (go_at_call 29; (with_reducible refine (galloonref03_Less.calls t574 t575 t569 t570 false _ A373.out).mono ?_); rintro e w398 ⟨rfl, hb⟩; replace BK567 := kB BK567 hb; replace BK577 := kB BK577 hb; replace BK581 := kB BK581 hb; replace BK585 := kB BK585 hb; replace BK591 := kB BK591 hb; replace BK595 := kB BK595 hb; replace HB := bS HB hb; (try clear hb); (try clear hb2); (try clear hk); (try clear hi)) | (go_at_call 21; (with_reducible refine (galloonlaw03_awake.calls kj87  t618 _ A375.out).mono ?_); rintro e w399 ⟨rfl, hb⟩; replace BK567 := kB BK567 hb; replace BK577 := kB BK577 hb; replace BK581 := kB BK581 hb; replace BK585 := kB BK585 hb; replace BK591 := kB BK591 hb; replace BK595 := kB BK595 hb; replace HB := bS HB hb; (try clear hb); (try clear hb2); (try clear hk); (try clear hi)))
                 go_ret
                 exact ⟨by first | rfl | (simp [errW_none, errW_some] <;> rfl) | (simp only [← hji83, ← hji84]; first | rfl | (simp [errW_none, errW_some] <;> rfl)) | (simp [*, errW_none, errW_some] <;> rfl), bB HB⟩
             ·replace c372 := Bool.eq_false_iff.mpr c372
              subst c372
              have H1 : ((galloonlaw03_awake.f kj87).bind fun t619 => (some t619)) = some r := by rw [if_neg (show ¬ (false = true) by decide)] at H; exact H
              clear H
              have H := H1
              clear H1
              replace H := Option.bind_eq_some_iff.mp H
              obtain ⟨t619, A4000, H⟩ := H
              replace H : (some t619) = some r := H
              have A400 := Aside0.mk A4000
              clear A4000
              obtain rfl := Option.some.inj H
              have hnb401 := NB595_567.out
              have hnc401 := NB567_595.out
              have hnb402 := NB595_577.out
              have hnc402 := NB577_595.out
              have hnb403 := NB595_581.out
              have hnc403 := NB581_595.out
              have hnb404 := NB595_585.out
              have hnc404 := NB585_595.out
              have hnb405 := NB595_591.out
              have hnc405 := NB591_595.out
              obtain ⟨hcz406_0, hcz406_1, hfz406_0, hfz406_1⟩ := cQ BK595
              as_aux_lemma =>
                go_wp2_with (first | (go_at_call 20; (with_reducible refine (galloonref03_Valid.calls kj87 t592 t593 true _ A367.out).mono ?_); rintro e w407 ⟨rfl, hb⟩; replace BK567 := kB BK567 hb; replace BK577 := kB BK577 hb; replace BK581 := kB BK581 hb; replace BK585 := kB BK585 hb; replace BK591 := kB BK591 hb; replace BK595 := kB BK595 hb; replace HB := bS HB hb; (try clear hb); (try clear hb2); (try clear hk); (try clear hi); obtain ⟨hcz408_0, hcz408_1, hfz408_0, hfz408_1⟩ := cQ BK595; have hnb409 := NB567_577.out; have hnc409 := NB577_567.out; have hnb410 := NB567_581.out; have hnc410 := NB581_567.out; have hnb411 := NB567_585.out; have hnc411 := NB585_567.out; have hnb412 := NB567_591.out; have hnc412 := NB591_567.out; obtain ⟨hcz413_0, hcz413_1, hfz413_0, hfz413_1⟩ := cQ BK567) | (go_at_call 29; (with_reducible refine (galloonref03_Less.calls t592 t593 t569 t570 true _ A369.out).mono ?_); rintro e w414 ⟨rfl, hb⟩; replace BK567 := kB BK567 hb; replace BK577 := kB BK577 hb; replace BK581 := kB BK581 hb; replace BK585 := kB BK585 hb; replace BK591 := kB BK591 hb; replace BK595 := kB BK595 hb; replace HB := bS HB hb; (try clear hb); (try clear hb2); (try clear hk); (try clear hi); obtain ⟨hcz415_0, hcz415_1, hfz415_0, hfz415_1⟩ := cQ BK595; have hnb416 := NB577_581.out; have hnc416 := NB581_577.out; have hnb417 := NB577_585.out; have hnc417 := NB585_577.out; have hnb418 := NB577_591.out; have hnc418 := NB591_577.out; obtain ⟨hcz419_0, hcz419_1, hfz419_0, hfz419_1⟩ := cQ BK577) | (go_at_call 29; (with_reducible refine (galloonref03_Less.calls t592 t593 t574 t575 false _ A371.out).mono ?_); rintro e w420 ⟨rfl, hb⟩; replace BK567 := kB BK567 hb; replace BK577 := kB BK577 hb; replace BK581 := kB BK581 hb; replace BK585 := kB BK585 hb; replace BK591 := kB BK591 hb; replace BK595 := kB BK595 hb; replace HB := bS HB hb; (try clear hb); (try clear hb2); (try clear hk); (try clear hi)) | (go_at_call 21; (with_reducible refine (galloonlaw03_awake.calls kj87  t619 _ A400.out).mono ?_); rintro e w421 ⟨rfl, hb⟩; replace BK567 := kB BK567 hb; replace BK577 := kB BK577 hb; replace BK581 := kB BK581 hb; replace BK585 := kB BK585 hb; replace BK591 := kB BK591 hb; replace BK595 := kB BK595 hb; replace HB := bS HB hb; (try clear hb); (try clear hb2); (try clear hk); (try clear hi)))
                go_ret
                exact ⟨by first | rfl | (simp [errW_none, errW_some] <;> rfl) | (simp only [← hji83, ← hji84]; first | rfl | (simp [errW_none, errW_some] <;> rfl)) | (simp [*, errW_none, errW_some] <;> rfl), bB HB⟩
            ·rw [if_neg c366] at H
             have c366b0 : (t594 == 0) = false := beq_eq_false_iff_ne.mpr c366
             have c366b1 : (t594 != 0) = true := bne_iff_ne.mpr c366
             replace H := Option.bind_eq_some_iff.mp H
             obtain ⟨t620, A4220, H⟩ := H
             replace H : (some t620) = some r := H
             have A422 := Aside0.mk A4220
             clear A4220
             obtain rfl := Option.some.inj H
             as_aux_lemma =>
               go_wp2_with (first | (go_at_call 21; (with_reducible refine (galloonlaw03_awake.calls kj87  t620 _ A422.out).mono ?_); rintro e w423 ⟨rfl, hb⟩; replace BK567 := kB BK567 hb; replace BK577 := kB BK577 hb; replace BK581 := kB BK581 hb; replace BK585 := kB BK585 hb; replace BK591 := kB BK591 hb; replace BK595 := kB BK595 hb; replace HB := bS HB hb; (try clear hb); (try clear hb2); (try clear hk); (try clear hi)))
               go_ret
               exact ⟨by first | rfl | (simp [errW_none, errW_some] <;> rfl) | (simp only [← hji83, ← hji84]; first | rfl | (simp [errW_none, errW_some] <;> rfl)) | (simp [*, errW_none, errW_some] <;> rfl), bB HB⟩
/-- THE ONE PURE STATEMENT of galloonlaw03_YardClose: yours. -/
def galloonlaw03_YardClose.Pure : Prop := ∀ (a0 : Int) (a1 : Int) (a2_0 : Int) (a2_1 : Int), (Lit.int .i64 a0).wf = true → (Lit.int .i64 a1).wf = true → (Lit.int .i64 a2_0).wf = true → (Lit.int .i64 a2_1).wf = true → ∃ k, galloonlaw03_YardClose.f k a0 a1 a2_0 a2_1 = some true
theorem galloonlaw03_YardClose.walk (P : galloonlaw03_YardClose.Pure) (a0 : Int) (a1 : Int) (a2_0 : Int) (a2_1 : Int) (w : World) (w0 : (Lit.int .i64 a0).wf = true) (w1 : (Lit.int .i64 a1).wf = true) (w2_0 : (Lit.int .i64 a2_0).wf = true) (w2_1 : (Lit.int .i64 a2_1).wf = true) :
 Calls Try.prog 15 #[.int .i64 a0, .int .i64 a1, .agg #[.int .i64 a2_0, .int .i64 a2_1]] w fun e w' => e = .returned (.bool true) ∧ Below w.heap.size w w' := by
 obtain ⟨k, h⟩ := P a0 a1 a2_0 a2_1 w0 w1 w2_0 w2_1
 refine (galloonlaw03_YardClose.calls k a0 a1 a2_0 a2_1 true w h ⟨rfl⟩).mono ?_
 rintro e w' ⟨rfl, hd⟩
 exact ⟨rfl, hd⟩
end Go.Proofs.Ythjodhmkmjabbaa.PY
