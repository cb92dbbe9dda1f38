-- Made by the session's own driver (wip/tools/p2.py) out of the translation; Lean checks it.
import Derived.Test.YthjodhmkmjabbaaPYx0
import Derived.Test.YthjodhmkmjabbaaPYx1
import Derived.Test.YthjodhmkmjabbaaPYx4
import Derived.Test.YthjodhmkmjabbaaPYx7
import Derived.Test.YthjodhmkmjabbaaPYx8
import Derived.Test.YthjodhmkmjabbaaPYx10
import Derived.Test.YthjodhmkmjabbaaPYx12
import Derived.Test.YthjodhmkmjabbaaGBetween
namespace Go.Proofs.Ythjodhmkmjabbaa.PY
open Go.RowKit Go.Proofs.YthjodhmkmjabbaaW.PrintWords Go.Proofs.YthjodhmkmjabbaaW.PrintLast Go.Proofs.YthjodhmkmjabbaaW.PrintMore
attribute [local go_sem] max2_int min2_int max_two min_two max_three min_three max_four min_four   -- for this text's walks alone
set_option linter.unusedVariables false
set_option linter.unusedSimpArgs false

attribute [local go_sem high] eqA23
/-! ### galloonlaw03_YardSimple: function 5 -/
mutual
def galloonlaw03_YardSimple.j0 : Nat → Int → Int → Int → Int → Int → Int → Option (Bool)
  | 0, _, _, _, _, _, _ => none
  | k + 1, x220000, x220001, x221000, x221001, x222000, x222001 => (yard_Between.f k x220000 x220001 x221000 x221001).bind fun bt230 => ((galloonref03_Less.f x220000 x220001 x222000 x222001).bind fun t234 => (if t234 = true then ((galloonref03_Less.f x222000 x222001 x221000 x221001).bind fun t235 => (galloonlaw03_YardSimple.j1 k bt230.2.2 t235 x220000 x220001 x221000 x221001 x222000 x222001 bt230.1 bt230.2.1)) else (galloonlaw03_YardSimple.j1 k bt230.2.2 false x220000 x220001 x221000 x221001 x222000 x222001 bt230.1 bt230.2.1)))
def galloonlaw03_YardSimple.j1 : Nat → Int → Bool → Int → Int → Int → Int → Int → Int → Int → Int → Option (Bool)
  | 0, _, _, _, _, _, _, _, _, _, _ => none
  | k + 1, x9, x10, x220000, x220001, x221000, x221001, x222000, x222001, x234000, x234001 => if x9 = 0 then ((galloonref03_Valid.f k x234000 x234001).bind fun t239 => (if t239 = true then ((galloonref03_Less.f x220000 x220001 x234000 x234001).bind fun t240 => (if t240 = true then ((galloonref03_Less.f x234000 x234001 x221000 x221001).bind fun t241 => (if t241 = true then (if x10 = true then ((galloonref03_Simpler.f x222000 x222001 x234000 x234001).bind fun t242 => (if t242 = true then (some false) else ((galloonlaw03_awake.f k).bind fun t243 => (some t243)))) else ((galloonlaw03_awake.f k).bind fun t244 => (some t244))) else (some false))) else (some false))) else (some false))) else (if x9 = 2 then (if (x220000 == x221000 && (x220001 == x221001)) = true then (if x10 = true then (some false) else ((galloonlaw03_awake.f k).bind fun t236 => (some t236))) else (if x9 = 6 then (if (!(x220000 == x221000) || (!(x220001 == x221001))) = true then (if x10 = true then (some false) else ((galloonlaw03_awake.f k).bind fun t237 => (some t237))) else (some false)) else (some false))) else (if x9 = 6 then (if (!(x220000 == x221000) || (!(x220001 == x221001))) = true then (if x10 = true then (some false) else ((galloonlaw03_awake.f k).bind fun t238 => (some t238))) else (some false)) else (some false)))
end
def galloonlaw03_YardSimple.f (k : Nat) (a0_0 : Int) (a0_1 : Int) (a1_0 : Int) (a1_1 : Int) (a2_0 : Int) (a2_1 : Int) : Option (Bool) := (galloonlaw03_tame.f k a0_0 a0_1 1000000).bind fun bt222 => ((galloonlaw03_tame.f k a1_0 a1_1 1000000).bind fun bt224 => ((galloonlaw03_tame.f k a2_0 a2_1 1000000).bind fun bt226 => ((galloonref03_Less.f bt224.1 bt224.2 bt222.1 bt222.2).bind fun t228 => (if t228 = true then (galloonlaw03_YardSimple.j0 k bt224.1 bt224.2 bt222.1 bt222.2 bt226.1 bt226.2) else (galloonlaw03_YardSimple.j0 k bt222.1 bt222.2 bt224.1 bt224.2 bt226.1 bt226.2)))))
theorem galloonlaw03_YardSimple.mono_l : ∀ k, (∀ y0 y1 y2 y3 y4 y5, LeO (galloonlaw03_YardSimple.j0 k y0 y1 y2 y3 y4 y5) (galloonlaw03_YardSimple.j0 (k + 1) y0 y1 y2 y3 y4 y5)) ∧ (∀ y0 y1 y2 y3 y4 y5 y6 y7 y8 y9, LeO (galloonlaw03_YardSimple.j1 k y0 y1 y2 y3 y4 y5 y6 y7 y8 y9) (galloonlaw03_YardSimple.j1 (k + 1) y0 y1 y2 y3 y4 y5 y6 y7 y8 y9))
  | 0 => ⟨fun _ _ _ _ _ _ r h => by simp [galloonlaw03_YardSimple.j0] at h, fun _ _ _ _ _ _ _ _ _ _ r h => by simp [galloonlaw03_YardSimple.j1] at h⟩
  | k + 1 => by
    obtain ⟨ih0, ih1⟩ := galloonlaw03_YardSimple.mono_l k
    refine ⟨?_, ?_⟩
    · intro y0 y1 y2 y3 y4 y5
      unfold galloonlaw03_YardSimple.j0
      repeat' first
      | (with_reducible exact ih0 _ _ _ _ _ _)
      | (with_reducible exact ih1 _ _ _ _ _ _ _ _ _ _)
      | (with_reducible exact galloonlaw03_awake.mono _)
      | (with_reducible exact galloonlaw03_tame.mono _ _ _ _)
      | (with_reducible exact galloonref03_Valid.mono _ _ _)
      | (with_reducible exact yard_Between.mono _ _ _ _ _)
      | (with_reducible exact LeO.refl _)
      | (with_reducible exact LeO.none _)
      | (with_reducible refine LeO.ite ?_ ?_)
      | (with_reducible refine LeO.bind ?_ (fun _ => ?_))
      | exact ih0 _ _ _ _ _ _
      | exact ih1 _ _ _ _ _ _ _ _ _ _
      | exact galloonlaw03_awake.mono _
      | exact galloonlaw03_tame.mono _ _ _ _
      | exact galloonref03_Valid.mono _ _ _
      | exact yard_Between.mono _ _ _ _ _
      | exact LeO.none _
      | refine LeO.ite ?_ ?_
      | refine LeO.bind ?_ (fun _ => ?_)
    · intro y0 y1 y2 y3 y4 y5 y6 y7 y8 y9
      unfold galloonlaw03_YardSimple.j1
      repeat' first
      | (with_reducible exact ih0 _ _ _ _ _ _)
      | (with_reducible exact ih1 _ _ _ _ _ _ _ _ _ _)
      | (with_reducible exact galloonlaw03_awake.mono _)
      | (with_reducible exact galloonlaw03_tame.mono _ _ _ _)
      | (with_reducible exact galloonref03_Valid.mono _ _ _)
      | (with_reducible exact yard_Between.mono _ _ _ _ _)
      | (with_reducible exact LeO.refl _)
      | (with_reducible exact LeO.none _)
      | (with_reducible refine LeO.ite ?_ ?_)
      | (with_reducible refine LeO.bind ?_ (fun _ => ?_))
      | exact ih0 _ _ _ _ _ _
      | exact ih1 _ _ _ _ _ _ _ _ _ _
      | exact galloonlaw03_awake.mono _
      | exact galloonlaw03_tame.mono _ _ _ _
      | exact galloonref03_Valid.mono _ _ _
      | exact yard_Between.mono _ _ _ _ _
      | exact LeO.none _
      | refine LeO.ite ?_ ?_
      | refine LeO.bind ?_ (fun _ => ?_)
theorem galloonlaw03_YardSimple.mono : ∀ a0 a1 a2 a3 a4 a5 k, LeO (galloonlaw03_YardSimple.f k a0 a1 a2 a3 a4 a5) (galloonlaw03_YardSimple.f (k + 1) a0 a1 a2 a3 a4 a5) := by
  intro a0 a1 a2 a3 a4 a5 k
  obtain ⟨ih0, ih1⟩ := galloonlaw03_YardSimple.mono_l k
  unfold galloonlaw03_YardSimple.f
  repeat' first
      | (with_reducible exact ih0 _ _ _ _ _ _)
      | (with_reducible exact ih1 _ _ _ _ _ _ _ _ _ _)
      | (with_reducible exact galloonlaw03_awake.mono _)
      | (with_reducible exact galloonlaw03_tame.mono _ _ _ _)
      | (with_reducible exact galloonref03_Valid.mono _ _ _)
      | (with_reducible exact yard_Between.mono _ _ _ _ _)
      | (with_reducible exact LeO.refl _)
      | (with_reducible exact LeO.none _)
      | (with_reducible refine LeO.ite ?_ ?_)
      | (with_reducible refine LeO.bind ?_ (fun _ => ?_))
      | exact ih0 _ _ _ _ _ _
      | exact ih1 _ _ _ _ _ _ _ _ _ _
      | exact galloonlaw03_awake.mono _
      | exact galloonlaw03_tame.mono _ _ _ _
      | exact galloonref03_Valid.mono _ _ _
      | exact yard_Between.mono _ _ _ _ _
      | exact LeO.none _
      | refine LeO.ite ?_ ?_
      | refine LeO.bind ?_ (fun _ => ?_)
def galloonlaw03_YardSimple.T1 : Bool × List (List Nat × List Nat) := (true, [([], []), ([0], [0]), ([], []), ([2, 1], [2]), ([], []), ([4, 3], [4]), ([1, 5, 0, 1], [1]), ([3, 6, 0, 1, 2, 3, 6], [3]), ([5, 7, 0, 1, 2, 3, 4, 5, 6, 7], [5])])
def galloonlaw03_YardSimple.B1 : List Nat := [0, 1, 0, 7, 0, 31, 63, 127, 255]
theorem galloonlaw03_YardSimple.tab1 : rtab .any (opsOf Try.f5 1) = galloonlaw03_YardSimple.T1 := by kernel_rfl
theorem galloonlaw03_YardSimple.bits1 : waitsOk galloonlaw03_YardSimple.T1.2 galloonlaw03_YardSimple.B1 = true := by kernel_rfl
set_option maxHeartbeats 8000000 in
set_option maxRecDepth 100000 in
theorem galloonlaw03_YardSimple.calls (k : Nat) (a0_0 : Int) (a0_1 : Int) (a1_0 : Int) (a1_1 : Int) (a2_0 : Int) (a2_1 : Int) (r : Bool) (w : World) (h : galloonlaw03_YardSimple.f k a0_0 a0_1 a1_0 a1_1 a2_0 a2_1 = some r) (hr : Aside0 (r = true)) :
    Calls Try.prog 5 #[.agg #[.int .i64 a0_0, .int .i64 a0_1], .agg #[.int .i64 a1_0, .int .i64 a1_1], .agg #[.int .i64 a2_0, .int .i64 a2_1]] w fun e w' => e = .returned (.bool r) ∧ Below w.heap.size w w' := by
  have hu23 := Try.underlying23
  have HB := Aside0.mk (Below.refl w.heap.size w)
  have H : ((galloonlaw03_tame.f k a0_0 a0_1 1000000).bind fun bt222 => ((galloonlaw03_tame.f k a1_0 a1_1 1000000).bind fun bt224 => ((galloonlaw03_tame.f k a2_0 a2_1 1000000).bind fun bt226 => ((galloonref03_Less.f bt224.1 bt224.2 bt222.1 bt222.2).bind fun t228 => (if t228 = true then (galloonlaw03_YardSimple.j0 k bt224.1 bt224.2 bt222.1 bt222.2 bt226.1 bt226.2) else (galloonlaw03_YardSimple.j0 k bt222.1 bt222.2 bt224.1 bt224.2 bt226.1 bt226.2)))))) = some r := h
  clear h
  replace H := Option.bind_eq_some_iff.mp H
  obtain ⟨⟨t222, t223⟩, A40, H⟩ := H
  replace H : ((galloonlaw03_tame.f k a1_0 a1_1 1000000).bind fun bt224 => ((galloonlaw03_tame.f k a2_0 a2_1 1000000).bind fun bt226 => ((galloonref03_Less.f bt224.1 bt224.2 t222 t223).bind fun t228 => (if t228 = true then (galloonlaw03_YardSimple.j0 k bt224.1 bt224.2 t222 t223 bt226.1 bt226.2) else (galloonlaw03_YardSimple.j0 k t222 t223 bt224.1 bt224.2 bt226.1 bt226.2))))) = some r := H
  have A4 := Aside0.mk A40
  clear A40
  replace H := Option.bind_eq_some_iff.mp H
  obtain ⟨⟨t224, t225⟩, A50, H⟩ := H
  replace H : ((galloonlaw03_tame.f k a2_0 a2_1 1000000).bind fun bt226 => ((galloonref03_Less.f t224 t225 t222 t223).bind fun t228 => (if t228 = true then (galloonlaw03_YardSimple.j0 k t224 t225 t222 t223 bt226.1 bt226.2) else (galloonlaw03_YardSimple.j0 k t222 t223 t224 t225 bt226.1 bt226.2)))) = some r := H
  have A5 := Aside0.mk A50
  clear A50
  replace H := Option.bind_eq_some_iff.mp H
  obtain ⟨⟨t226, t227⟩, A60, H⟩ := H
  replace H : ((galloonref03_Less.f t224 t225 t222 t223).bind fun t228 => (if t228 = true then (galloonlaw03_YardSimple.j0 k t224 t225 t222 t223 t226 t227) else (galloonlaw03_YardSimple.j0 k t222 t223 t224 t225 t226 t227))) = some r := H
  have A6 := Aside0.mk A60
  clear A60
  replace H := Option.bind_eq_some_iff.mp H
  obtain ⟨t228, A70, H⟩ := H
  replace H : (if t228 = true then (galloonlaw03_YardSimple.j0 k t224 t225 t222 t223 t226 t227) else (galloonlaw03_YardSimple.j0 k t222 t223 t224 t225 t226 t227)) = some r := H
  have A7 := Aside0.mk A70
  clear A70
  have HC8 := Aside0.mk H
  clear H
  go_enter Try.func5, Try.ntmps5
  try go_wp2_with (first | ((with_reducible refine gate_dst (N := 3) rfl ?_); refine box_event ?hg (N := 3) ?hd (cs := #[.int .i64 a0_0, .int .i64 a0_1]) (t := 23) ?hr ?_; (case hd => rfl); (case hg => rfl); (case hr => first | (go_simp; done) | (go_simp; rfl)); intro gb219 hg w9 hbox hb; have n0_ := Aside0.mk (below_step (by repeat (first | (with_reducible first | exact HB.out | apply below_alloc | apply pw_below_drewN | apply below_drew1) | exact HB.out)) hb); have n1_ := Aside0.mk (hbox); have n2_ := Aside0.mk ((by rw [hg]; exact (below_size (by repeat (first | (with_reducible first | exact HB.out | apply below_alloc | apply pw_below_drewN | apply below_drew1) | exact HB.out))) : w.heap.size ≤ gb219)); have n3_ := Aside0.mk ((by rw [hg]; exact (below_size (by repeat (first | (with_reducible first | exact HB.out | apply below_alloc | apply pw_below_drewN | apply below_drew1) | exact HB.out))) : w.heap.size ≤ gb219)); clear HB; have HB := n0_; have BK219 := n1_; have GW219 := n2_; have GE219 := n3_; clear n0_ n1_ n2_ n3_; clear hb hbox hg) | ((with_reducible refine gate_dst (N := 4) rfl ?_); refine box_event ?hg (N := 4) ?hd (cs := #[.int .i64 a1_0, .int .i64 a1_1]) (t := 23) ?hr ?_; (case hd => rfl); (case hg => rfl); (case hr => first | (go_simp; done) | (go_simp; rfl)); intro gb220 hg w10 hbox hb; have n0_ := Aside0.mk (blk_below (g := gb219) (o := .cells #[.int .i64 a0_0, .int .i64 a0_1] 23 (0, 0)) (by (with_reducible repeat (first | refine blk_drewN ?_ _ | refine blk_drew ?_ | refine blk_alloc ?_ _)); exact BK219.out) hb); have n1_ := Aside0.mk (below_step (by repeat (first | (with_reducible first | exact HB.out | apply below_alloc | apply pw_below_drewN | apply below_drew1 | refine below_set ?_ GE219.out) | exact HB.out)) hb); have n2_ := Aside0.mk (hbox); have n3_ := Aside0.mk ((by rw [hg]; exact (below_size (by repeat (first | (with_reducible first | exact HB.out | apply below_alloc | apply pw_below_drewN | apply below_drew1 | refine below_set ?_ GE219.out) | exact HB.out))) : w.heap.size ≤ gb220)); have n4_ := Aside0.mk ((by rw [hg]; exact (below_size (by repeat (first | (with_reducible first | exact HB.out | apply below_alloc | apply pw_below_drewN | apply below_drew1 | refine below_set ?_ GE219.out) | exact HB.out))) : w.heap.size ≤ gb220)); have n5_ := Aside0.mk ((by rw [hg]; exact Nat.ne_of_lt (blk_lt (g := gb219) (o := .cells #[.int .i64 a0_0, .int .i64 a0_1] 23 (0, 0)) (by (with_reducible repeat (first | refine blk_drewN ?_ _ | refine blk_drew ?_ | refine blk_alloc ?_ _)); exact BK219.out)) : gb219 ≠ gb220)); have n6_ := Aside0.mk ((by rw [hg]; exact Nat.ne_of_gt (blk_lt (g := gb219) (o := .cells #[.int .i64 a0_0, .int .i64 a0_1] 23 (0, 0)) (by (with_reducible repeat (first | refine blk_drewN ?_ _ | refine blk_drew ?_ | refine blk_alloc ?_ _)); exact BK219.out)) : gb220 ≠ gb219)); clear BK219; clear HB; have BK219 := n0_; have HB := n1_; have BK220 := n2_; have GW220 := n3_; have GE220 := n4_; have NB219_220 := n5_; have NB220_219 := n6_; clear n0_ n1_ n2_ n3_ n4_ n5_ n6_; clear hb hbox hg) | ((with_reducible refine gate_dst (N := 5) rfl ?_); refine box_event ?hg (N := 5) ?hd (cs := #[.int .i64 a2_0, .int .i64 a2_1]) (t := 23) ?hr ?_; (case hd => rfl); (case hg => rfl); (case hr => first | (go_simp; done) | (go_simp; rfl)); intro gb221 hg w11 hbox hb; have n0_ := Aside0.mk (blk_below (g := gb219) (o := .cells #[.int .i64 a0_0, .int .i64 a0_1] 23 (0, 0)) (by (with_reducible repeat (first | refine blk_drewN ?_ _ | refine blk_drew ?_ | refine blk_alloc ?_ _)); exact BK219.out) hb); have n1_ := Aside0.mk (blk_below (g := gb220) (o := .cells #[.int .i64 a1_0, .int .i64 a1_1] 23 (0, 0)) (by (with_reducible repeat (first | refine blk_drewN ?_ _ | refine blk_drew ?_ | refine blk_alloc ?_ _)); exact BK220.out) hb); have n2_ := Aside0.mk (below_step (by repeat (first | (with_reducible first | exact HB.out | apply below_alloc | apply pw_below_drewN | apply below_drew1 | refine below_set ?_ GE219.out | refine below_set ?_ GE220.out) | exact HB.out)) hb); have n3_ := Aside0.mk (hbox); have n4_ := Aside0.mk ((by rw [hg]; exact (below_size (by repeat (first | (with_reducible first | exact HB.out | apply below_alloc | apply pw_below_drewN | apply below_drew1 | refine below_set ?_ GE219.out | refine below_set ?_ GE220.out) | exact HB.out))) : w.heap.size ≤ gb221)); have n5_ := Aside0.mk ((by rw [hg]; exact (below_size (by repeat (first | (with_reducible first | exact HB.out | apply below_alloc | apply pw_below_drewN | apply below_drew1 | refine below_set ?_ GE219.out | refine below_set ?_ GE220.out) | exact HB.out))) : w.heap.size ≤ gb221)); have n6_ := Aside0.mk ((by rw [hg]; exact Nat.ne_of_lt (blk_lt (g := gb219) (o := .cells #[.int .i64 a0_0, .int .i64 a0_1] 23 (0, 0)) (by (with_reducible repeat (first | refine blk_drewN ?_ _ | refine blk_drew ?_ | refine blk_alloc ?_ _)); exact BK219.out)) : gb219 ≠ gb221)); have n7_ := Aside0.mk ((by rw [hg]; exact Nat.ne_of_gt (blk_lt (g := gb219) (o := .cells #[.int .i64 a0_0, .int .i64 a0_1] 23 (0, 0)) (by (with_reducible repeat (first | refine blk_drewN ?_ _ | refine blk_drew ?_ | refine blk_alloc ?_ _)); exact BK219.out)) : gb221 ≠ gb219)); have n8_ := Aside0.mk ((by rw [hg]; exact Nat.ne_of_lt (blk_lt (g := gb220) (o := .cells #[.int .i64 a1_0, .int .i64 a1_1] 23 (0, 0)) (by (with_reducible repeat (first | refine blk_drewN ?_ _ | refine blk_drew ?_ | refine blk_alloc ?_ _)); exact BK220.out)) : gb220 ≠ gb221)); have n9_ := Aside0.mk ((by rw [hg]; exact Nat.ne_of_gt (blk_lt (g := gb220) (o := .cells #[.int .i64 a1_0, .int .i64 a1_1] 23 (0, 0)) (by (with_reducible repeat (first | refine blk_drewN ?_ _ | refine blk_drew ?_ | refine blk_alloc ?_ _)); exact BK220.out)) : gb221 ≠ gb220)); clear BK219; clear BK220; clear HB; have BK219 := n0_; have BK220 := n1_; have HB := n2_; have BK221 := n3_; have GW221 := n4_; have GE221 := n5_; have NB219_221 := n6_; have NB221_219 := n7_; have NB220_221 := n8_; have NB221_220 := n9_; clear n0_ n1_ n2_ n3_ n4_ n5_ n6_ n7_ n8_ n9_; clear hb hbox hg))
  have n0_ := Aside0.mk (blk_drew BK219.out)
  have n1_ := Aside0.mk (blk_drew BK220.out)
  have n2_ := Aside0.mk (blk_drew BK221.out)
  have n3_ := Aside0.mk (below_drew1 HB.out)
  clear BK219
  clear BK220
  clear BK221
  clear HB
  have BK219 := n0_
  have BK220 := n1_
  have BK221 := n2_
  have HB := n3_
  clear n0_ n1_ n2_ n3_
  refine start_ (n := 9) (S := fun w' => w'.cell? ⟨gb219, 0, none⟩ = some (.int .i64 a0_0) ∧ w'.cell? ⟨gb219, 1, none⟩ = some (.int .i64 a0_1) ∧ w'.cell? ⟨gb220, 0, none⟩ = some (.int .i64 a1_0) ∧ w'.cell? ⟨gb220, 1, none⟩ = some (.int .i64 a1_1) ∧ w'.cell? ⟨gb221, 0, none⟩ = some (.int .i64 a2_0) ∧ w'.cell? ⟨gb221, 1, none⟩ = some (.int .i64 a2_1)) (ds := [6, 7, 8]) #[false, false, false, false, false, false, false, false, false] (by kernel_rfl) rfl rfl ⟨(blk_cell BK219.out 0).trans rfl, (blk_cell BK219.out 1).trans rfl, (blk_cell BK220.out 0).trans rfl, (blk_cell BK220.out 1).trans rfl, (blk_cell BK221.out 0).trans rfl, (blk_cell BK221.out 1).trans rfl⟩ (fun hHeld => ?_); refine with_tabW galloonlaw03_YardSimple.tab1 galloonlaw03_YardSimple.bits1 (fun HT_ HW_ => ?_)
  generalize w11.drew = w12 at BK219 BK220 BK221 HB hHeld ⊢
  refine take_ (i := 0) (N := some 11) (v := ?_) (a' := ?_) #[true, false, false, false, false, false, false, false, false] rfl rfl (take_ofW HT_.out HW_.out (by kernel_rfl)) (fun _ _ _ h => h) (Or.inl ⟨by rfl, ?_⟩) hHeld ?_ ?_
  rotate_left
  · rintro w' ⟨s0, s1, s2, s3, s4, s5⟩
    go_simp
    with_reducible rfl
  rotate_left
  · simp only [Act.put, List.setIfInBounds_toArray, List.set_cons_zero, List.set_cons_succ, i64_w, i32_w]
    rfl
  refine take_ (i := 2) (N := some 13) (v := ?_) (a' := ?_) #[true, false, true, false, false, false, false, false, false] rfl rfl (take_ofW HT_.out HW_.out (by kernel_rfl)) (fun _ _ _ h => h) (Or.inl ⟨by rfl, ?_⟩) hHeld ?_ ?_
  rotate_left
  · rintro w' ⟨s0, s1, s2, s3, s4, s5⟩
    go_simp
    with_reducible rfl
  rotate_left
  · simp only [Act.put, List.setIfInBounds_toArray, List.set_cons_zero, List.set_cons_succ, i64_w, i32_w]
    rfl
  refine take_ (i := 4) (N := some 15) (v := ?_) (a' := ?_) #[true, false, true, false, true, false, false, false, false] rfl rfl (take_ofW HT_.out HW_.out (by kernel_rfl)) (fun _ _ _ h => h) (Or.inl ⟨by rfl, ?_⟩) hHeld ?_ ?_
  rotate_left
  · rintro w' ⟨s0, s1, s2, s3, s4, s5⟩
    go_simp
    with_reducible rfl
  rotate_left
  · simp only [Act.put, List.setIfInBounds_toArray, List.set_cons_zero, List.set_cons_succ, i64_w, i32_w]
    rfl
  refine one_ (i := 1) (N := some 12) #[true, true, true, false, true, false, false, false, false] rfl rfl (one_of HT_.out (by kernel_rfl)) (by decide) (fun K hK => ?_)
  refine goes_ Try.func26 (by kernel_rfl) rfl #[.agg #[.int .i64 a0_0, .int .i64 a0_1], .int .i64 1000000] (by rfl) rfl rfl (by (try simp only [List.map_toArray, List.map_cons, List.map_nil]); first | done | rfl | (simp only [List.length_drop, List.length_take]; rfl)) ?_
  with_reducible refine (galloonlaw03_tame.calls k a0_0 a0_1 1000000 t222 t223 _ A4.out).mono ?_
  rintro e w13 ⟨rfl, hb⟩
  refine ⟨_, rfl, ?_⟩
  have n0_ := Aside0.mk (blk_below (g := gb219) (o := .cells #[.int .i64 a0_0, .int .i64 a0_1] 23 (0, 0)) (by (with_reducible repeat (first | refine blk_drewN ?_ _ | refine blk_drew ?_ | refine blk_alloc ?_ _)); exact BK219.out) hb)
  have n1_ := Aside0.mk (blk_below (g := gb220) (o := .cells #[.int .i64 a1_0, .int .i64 a1_1] 23 (0, 0)) (by (with_reducible repeat (first | refine blk_drewN ?_ _ | refine blk_drew ?_ | refine blk_alloc ?_ _)); exact BK220.out) hb)
  have n2_ := Aside0.mk (blk_below (g := gb221) (o := .cells #[.int .i64 a2_0, .int .i64 a2_1] 23 (0, 0)) (by (with_reducible repeat (first | refine blk_drewN ?_ _ | refine blk_drew ?_ | refine blk_alloc ?_ _)); exact BK221.out) hb)
  have n3_ := Aside0.mk (below_step (by repeat (first | (with_reducible first | exact HB.out | apply below_alloc | apply pw_below_drewN | apply below_drew1 | refine below_set ?_ GE219.out | refine below_set ?_ GE220.out | refine below_set ?_ GE221.out) | exact HB.out)) hb)
  clear BK219
  clear BK220
  clear BK221
  clear HB
  have BK219 := n0_
  have BK220 := n1_
  have BK221 := n2_
  have HB := n3_
  clear n0_ n1_ n2_ n3_
  (try clear hb)
  (try clear hb2)
  (try clear hk)
  (try clear hi)
  refine hK.out _ _ ⟨(blk_cell BK219.out 0).trans rfl, (blk_cell BK219.out 1).trans rfl, (blk_cell BK220.out 0).trans rfl, (blk_cell BK220.out 1).trans rfl, (blk_cell BK221.out 0).trans rfl, (blk_cell BK221.out 1).trans rfl⟩ (fun hHeld => ?_)
  clear hK K
  refine norm_ (a' := ?_) ?_ ?_
  rotate_left
  · show Act.put _ (some 12) _ = _
    simp only [Act.put, List.setIfInBounds_toArray, List.set_cons_zero, List.set_cons_succ, i64_w, i32_w]
    rfl
  refine one_ (i := 3) (N := some 14) #[true, true, true, true, true, false, false, false, false] rfl rfl (one_of HT_.out (by kernel_rfl)) (by decide) (fun K hK => ?_)
  refine goes_ Try.func26 (by kernel_rfl) rfl #[.agg #[.int .i64 a1_0, .int .i64 a1_1], .int .i64 1000000] (by rfl) rfl rfl (by (try simp only [List.map_toArray, List.map_cons, List.map_nil]); first | done | rfl | (simp only [List.length_drop, List.length_take]; rfl)) ?_
  with_reducible refine (galloonlaw03_tame.calls k a1_0 a1_1 1000000 t224 t225 _ A5.out).mono ?_
  rintro e w14 ⟨rfl, hb⟩
  refine ⟨_, rfl, ?_⟩
  have n0_ := Aside0.mk (blk_below (g := gb219) (o := .cells #[.int .i64 a0_0, .int .i64 a0_1] 23 (0, 0)) (by (with_reducible repeat (first | refine blk_drewN ?_ _ | refine blk_drew ?_ | refine blk_alloc ?_ _)); exact BK219.out) hb)
  have n1_ := Aside0.mk (blk_below (g := gb220) (o := .cells #[.int .i64 a1_0, .int .i64 a1_1] 23 (0, 0)) (by (with_reducible repeat (first | refine blk_drewN ?_ _ | refine blk_drew ?_ | refine blk_alloc ?_ _)); exact BK220.out) hb)
  have n2_ := Aside0.mk (blk_below (g := gb221) (o := .cells #[.int .i64 a2_0, .int .i64 a2_1] 23 (0, 0)) (by (with_reducible repeat (first | refine blk_drewN ?_ _ | refine blk_drew ?_ | refine blk_alloc ?_ _)); exact BK221.out) hb)
  have n3_ := Aside0.mk (below_step (by repeat (first | (with_reducible first | exact HB.out | apply below_alloc | apply pw_below_drewN | apply below_drew1 | refine below_set ?_ GE219.out | refine below_set ?_ GE220.out | refine below_set ?_ GE221.out) | exact HB.out)) hb)
  clear BK219
  clear BK220
  clear BK221
  clear HB
  have BK219 := n0_
  have BK220 := n1_
  have BK221 := n2_
  have HB := n3_
  clear n0_ n1_ n2_ n3_
  (try clear hb)
  (try clear hb2)
  (try clear hk)
  (try clear hi)
  refine hK.out _ _ ⟨(blk_cell BK219.out 0).trans rfl, (blk_cell BK219.out 1).trans rfl, (blk_cell BK220.out 0).trans rfl, (blk_cell BK220.out 1).trans rfl, (blk_cell BK221.out 0).trans rfl, (blk_cell BK221.out 1).trans rfl⟩ (fun hHeld => ?_)
  clear hK K
  refine norm_ (a' := ?_) ?_ ?_
  rotate_left
  · show Act.put _ (some 14) _ = _
    simp only [Act.put, List.setIfInBounds_toArray, List.set_cons_zero, List.set_cons_succ, i64_w, i32_w]
    rfl
  refine one_ (i := 5) (N := some 16) #[true, true, true, true, true, true, false, false, false] rfl rfl (one_of HT_.out (by kernel_rfl)) (by decide) (fun K hK => ?_)
  refine goes_ Try.func26 (by kernel_rfl) rfl #[.agg #[.int .i64 a2_0, .int .i64 a2_1], .int .i64 1000000] (by rfl) rfl rfl (by (try simp only [List.map_toArray, List.map_cons, List.map_nil]); first | done | rfl | (simp only [List.length_drop, List.length_take]; rfl)) ?_
  with_reducible refine (galloonlaw03_tame.calls k a2_0 a2_1 1000000 t226 t227 _ A6.out).mono ?_
  rintro e w15 ⟨rfl, hb⟩
  refine ⟨_, rfl, ?_⟩
  have n0_ := Aside0.mk (blk_below (g := gb219) (o := .cells #[.int .i64 a0_0, .int .i64 a0_1] 23 (0, 0)) (by (with_reducible repeat (first | refine blk_drewN ?_ _ | refine blk_drew ?_ | refine blk_alloc ?_ _)); exact BK219.out) hb)
  have n1_ := Aside0.mk (blk_below (g := gb220) (o := .cells #[.int .i64 a1_0, .int .i64 a1_1] 23 (0, 0)) (by (with_reducible repeat (first | refine blk_drewN ?_ _ | refine blk_drew ?_ | refine blk_alloc ?_ _)); exact BK220.out) hb)
  have n2_ := Aside0.mk (blk_below (g := gb221) (o := .cells #[.int .i64 a2_0, .int .i64 a2_1] 23 (0, 0)) (by (with_reducible repeat (first | refine blk_drewN ?_ _ | refine blk_drew ?_ | refine blk_alloc ?_ _)); exact BK221.out) hb)
  have n3_ := Aside0.mk (below_step (by repeat (first | (with_reducible first | exact HB.out | apply below_alloc | apply pw_below_drewN | apply below_drew1 | refine below_set ?_ GE219.out | refine below_set ?_ GE220.out | refine below_set ?_ GE221.out) | exact HB.out)) hb)
  clear BK219
  clear BK220
  clear BK221
  clear HB
  have BK219 := n0_
  have BK220 := n1_
  have BK221 := n2_
  have HB := n3_
  clear n0_ n1_ n2_ n3_
  (try clear hb)
  (try clear hb2)
  (try clear hk)
  (try clear hi)
  refine hK.out _ _ ⟨(blk_cell BK219.out 0).trans rfl, (blk_cell BK219.out 1).trans rfl, (blk_cell BK220.out 0).trans rfl, (blk_cell BK220.out 1).trans rfl, (blk_cell BK221.out 0).trans rfl, (blk_cell BK221.out 1).trans rfl⟩ (fun hHeld => ?_)
  clear hK K
  refine norm_ (a' := ?_) ?_ ?_
  rotate_left
  · show Act.put _ (some 16) _ = _
    simp only [Act.put, List.setIfInBounds_toArray, List.set_cons_zero, List.set_cons_succ, i64_w, i32_w]
    rfl
  refine last_ (i := 6) (N := none) #[true, true, true, true, true, true, true, false, false] rfl rfl (one_of HT_.out (by kernel_rfl)) (by decide) (fun K hK => ?_)
  have hs16 : w15.cell? ⟨gb219, 0, none⟩ = some (.int .i64 a0_0) := (blk_cell BK219.out 0).trans rfl
  have hfs16 := blk_frozen BK219.out 0
  have hns16_1 := NB220_219.out
  have hns16_2 := NB221_219.out
  have hms16_1 := NB219_220.out
  have hms16_2 := NB219_221.out
  have hs17 : w15.cell? ⟨gb219, 1, none⟩ = some (.int .i64 a0_1) := (blk_cell BK219.out 1).trans rfl
  have hfs17 := blk_frozen BK219.out 1
  have hns17_1 := NB220_219.out
  have hns17_2 := NB221_219.out
  have hms17_1 := NB219_220.out
  have hms17_2 := NB219_221.out
  refine skip_ (w1 := ?_) (by rfl) rfl ?_ ?_
  rotate_left
  · go_simp
    rfl
  refine hK.out _ _ ?_
  clear hK K
  refine last_ (i := 7) (N := none) #[true, true, true, true, true, true, true, true, false] rfl rfl (one_of HT_.out (by kernel_rfl)) (by decide) (fun K hK => ?_)
  have hs18 : w15.cell? ⟨gb220, 0, none⟩ = some (.int .i64 a1_0) := (blk_cell BK220.out 0).trans rfl
  have hfs18 := blk_frozen BK220.out 0
  have hns18_0 := NB219_220.out
  have hns18_2 := NB221_220.out
  have hms18_0 := NB220_219.out
  have hms18_2 := NB220_221.out
  have hs19 : w15.cell? ⟨gb220, 1, none⟩ = some (.int .i64 a1_1) := (blk_cell BK220.out 1).trans rfl
  have hfs19 := blk_frozen BK220.out 1
  have hns19_0 := NB219_220.out
  have hns19_2 := NB221_220.out
  have hms19_0 := NB220_219.out
  have hms19_2 := NB220_221.out
  refine skip_ (w1 := ?_) (by rfl) rfl ?_ ?_
  rotate_left
  · go_simp
    rfl
  refine hK.out _ _ ?_
  clear hK K
  refine last_ (i := 8) (N := none) #[true, true, true, true, true, true, true, true, true] rfl rfl (one_of HT_.out (by kernel_rfl)) (by decide) (fun K hK => ?_)
  have hs20 : w15.cell? ⟨gb221, 0, none⟩ = some (.int .i64 a2_0) := (blk_cell BK221.out 0).trans rfl
  have hfs20 := blk_frozen BK221.out 0
  have hns20_0 := NB219_221.out
  have hns20_1 := NB220_221.out
  have hms20_0 := NB221_219.out
  have hms20_1 := NB221_220.out
  have hs21 : w15.cell? ⟨gb221, 1, none⟩ = some (.int .i64 a2_1) := (blk_cell BK221.out 1).trans rfl
  have hfs21 := blk_frozen BK221.out 1
  have hns21_0 := NB219_221.out
  have hns21_1 := NB220_221.out
  have hms21_0 := NB221_219.out
  have hms21_1 := NB221_220.out
  refine skip_ (w1 := ?_) (by rfl) rfl ?_ ?_
  rotate_left
  · go_simp
    rfl
  refine hK.out _ _ ?_
  clear hK K
  refine done_ (done_of HT_.out (by kernel_rfl)) ?_
  have hnb22 := NB220_219.out
  have hnc22 := NB219_220.out
  have hnb23 := NB220_221.out
  have hnc23 := NB221_220.out
  have hcz24_0 : w15.cell? ⟨gb220, 0, none⟩ = some (.int .i64 a1_0) := (blk_cell BK220.out 0).trans rfl
  have hcz24_1 : w15.cell? ⟨gb220, 1, none⟩ = some (.int .i64 a1_1) := (blk_cell BK220.out 1).trans rfl
  have hfz24_0 := blk_frozen BK220.out 0
  have hfz24_1 := blk_frozen BK220.out 1
  have hnb25 := NB219_221.out
  have hnc25 := NB221_219.out
  have hcz26_0 : w15.cell? ⟨gb219, 0, none⟩ = some (.int .i64 a0_0) := (blk_cell BK219.out 0).trans rfl
  have hcz26_1 : w15.cell? ⟨gb219, 1, none⟩ = some (.int .i64 a0_1) := (blk_cell BK219.out 1).trans rfl
  have hfz26_0 := blk_frozen BK219.out 0
  have hfz26_1 := blk_frozen BK219.out 1
  go_upto_if 19 with (first | ((with_reducible refine gate_callee (f := 29) rfl ?_); refine goesL_ (some 19) rfl rfl Try.func29 (by kernel_rfl) rfl #[.agg #[.int .i64 t224, .int .i64 t225], .agg #[.int .i64 t222, .int .i64 t223]] rfl (by (try simp only [List.map_toArray, List.map_cons, List.map_nil]); first | done | rfl | (simp only [List.length_drop, List.length_take]; rfl)) ?_; (with_reducible refine (galloonref03_Less.calls t224 t225 t222 t223 t228 _ A7.out).mono ?_); rintro e w27 ⟨rfl, hb⟩; refine ⟨_, rfl, ?_⟩; have n0_ := Aside0.mk (blk_below (g := gb219) (o := .cells #[.int .i64 t222, .int .i64 t223] 23 (0, 0)) (by (with_reducible repeat (first | refine blk_drewN ?_ _ | refine blk_drew ?_ | refine blk_alloc ?_ _)); refine blk_far ?_ NB219_221.out _; (with_reducible repeat (first | refine blk_drewN ?_ _ | refine blk_drew ?_ | refine blk_alloc ?_ _)); refine blk_far ?_ NB219_221.out _; (with_reducible repeat (first | refine blk_drewN ?_ _ | refine blk_drew ?_ | refine blk_alloc ?_ _)); refine blk_far ?_ NB219_220.out _; (with_reducible repeat (first | refine blk_drewN ?_ _ | refine blk_drew ?_ | refine blk_alloc ?_ _)); refine blk_far ?_ NB219_220.out _; (with_reducible repeat (first | refine blk_drewN ?_ _ | refine blk_drew ?_ | refine blk_alloc ?_ _)); refine blk_put (cs := #[.int .i64 t222, .int .i64 a0_1]) ?_ 1 _ rfl; (with_reducible repeat (first | refine blk_drewN ?_ _ | refine blk_drew ?_ | refine blk_alloc ?_ _)); refine blk_put (cs := #[.int .i64 a0_0, .int .i64 a0_1]) ?_ 0 _ rfl; (with_reducible repeat (first | refine blk_drewN ?_ _ | refine blk_drew ?_ | refine blk_alloc ?_ _)); exact BK219.out) hb); have n1_ := Aside0.mk (blk_below (g := gb220) (o := .cells #[.int .i64 t224, .int .i64 t225] 23 (0, 0)) (by (with_reducible repeat (first | refine blk_drewN ?_ _ | refine blk_drew ?_ | refine blk_alloc ?_ _)); refine blk_far ?_ NB220_221.out _; (with_reducible repeat (first | refine blk_drewN ?_ _ | refine blk_drew ?_ | refine blk_alloc ?_ _)); refine blk_far ?_ NB220_221.out _; (with_reducible repeat (first | refine blk_drewN ?_ _ | refine blk_drew ?_ | refine blk_alloc ?_ _)); refine blk_put (cs := #[.int .i64 t224, .int .i64 a1_1]) ?_ 1 _ rfl; (with_reducible repeat (first | refine blk_drewN ?_ _ | refine blk_drew ?_ | refine blk_alloc ?_ _)); refine blk_put (cs := #[.int .i64 a1_0, .int .i64 a1_1]) ?_ 0 _ rfl; (with_reducible repeat (first | refine blk_drewN ?_ _ | refine blk_drew ?_ | refine blk_alloc ?_ _)); refine blk_far ?_ NB220_219.out _; (with_reducible repeat (first | refine blk_drewN ?_ _ | refine blk_drew ?_ | refine blk_alloc ?_ _)); refine blk_far ?_ NB220_219.out _; (with_reducible repeat (first | refine blk_drewN ?_ _ | refine blk_drew ?_ | refine blk_alloc ?_ _)); exact BK220.out) hb); have n2_ := Aside0.mk (blk_below (g := gb221) (o := .cells #[.int .i64 t226, .int .i64 t227] 23 (0, 0)) (by (with_reducible repeat (first | refine blk_drewN ?_ _ | refine blk_drew ?_ | refine blk_alloc ?_ _)); refine blk_put (cs := #[.int .i64 t226, .int .i64 a2_1]) ?_ 1 _ rfl; (with_reducible repeat (first | refine blk_drewN ?_ _ | refine blk_drew ?_ | refine blk_alloc ?_ _)); refine blk_put (cs := #[.int .i64 a2_0, .int .i64 a2_1]) ?_ 0 _ rfl; (with_reducible repeat (first | refine blk_drewN ?_ _ | refine blk_drew ?_ | refine blk_alloc ?_ _)); refine blk_far ?_ NB221_220.out _; (with_reducible repeat (first | refine blk_drewN ?_ _ | refine blk_drew ?_ | refine blk_alloc ?_ _)); refine blk_far ?_ NB221_220.out _; (with_reducible repeat (first | refine blk_drewN ?_ _ | refine blk_drew ?_ | refine blk_alloc ?_ _)); refine blk_far ?_ NB221_219.out _; (with_reducible repeat (first | refine blk_drewN ?_ _ | refine blk_drew ?_ | refine blk_alloc ?_ _)); refine blk_far ?_ NB221_219.out _; (with_reducible repeat (first | refine blk_drewN ?_ _ | refine blk_drew ?_ | refine blk_alloc ?_ _)); exact BK221.out) hb); have n3_ := Aside0.mk (below_step (by repeat (first | (with_reducible first | exact HB.out | apply below_alloc | apply pw_below_drewN | apply below_drew1 | refine below_set ?_ GE219.out | refine below_set ?_ GE220.out | refine below_set ?_ GE221.out) | exact HB.out)) hb); clear BK219; clear BK220; clear BK221; clear HB; have BK219 := n0_; have BK220 := n1_; have BK221 := n2_; have HB := n3_; clear n0_ n1_ n2_ n3_; (try clear hb); (try clear hb2); (try clear hk); (try clear hi)))
  (try simp only [Act.put, List.setIfInBounds_toArray, List.set_cons_zero, List.set_cons_succ])
  go_cut [] (fun wc => ∃ (kq : Nat) (x220000_7 : Int) (x220001_7 : Int) (x221000_7 : Int) (x221001_7 : Int), Aside0 (galloonlaw03_YardSimple.j0 kq x220000_7 x220001_7 x221000_7 x221001_7 t226 t227 = some r) ∧ Aside0 (kq ≤ k) ∧ Aside0 (wc.heap[gb219]? = some (.cells #[.int .i64 x220000_7, .int .i64 x220001_7] 23 (0, 0))) ∧ Aside0 (wc.heap[gb220]? = some (.cells #[.int .i64 x221000_7, .int .i64 x221001_7] 23 (0, 0))) ∧ Aside0 (wc.heap[gb221]? = some (.cells #[.int .i64 t226, .int .i64 t227] 23 (0, 0))) ∧ Aside0 (Below w.heap.size w wc))
  case first =>
    have H := HC8.out
    clear HC8
    by_cases c28 : t228 = true
    · subst c28
      have H1 : (galloonlaw03_YardSimple.j0 k t224 t225 t222 t223 t226 t227) = some r := by rw [if_pos rfl] at H; exact H
      clear H
      have H := H1
      clear H1
      have H' := Aside0.mk H
      clear H
      have hnb29 := NB219_220.out
      have hnc29 := NB220_219.out
      have hnb30 := NB219_221.out
      have hnc30 := NB221_219.out
      have hcz31_0 : w27.cell? ⟨gb219, 0, none⟩ = some (.int .i64 t222) := (blk_cell BK219.out 0).trans rfl
      have hcz31_1 : w27.cell? ⟨gb219, 1, none⟩ = some (.int .i64 t223) := (blk_cell BK219.out 1).trans rfl
      have hfz31_0 := blk_frozen BK219.out 0
      have hfz31_1 := blk_frozen BK219.out 1
      go_wp2_with (first | ((with_reducible refine gate_dst (N := 7) rfl ?_); refine box_event ?hg (N := 7) ?hd (cs := #[.int .i64 0, .int .i64 0]) (t := 23) ?hr ?_; (case hd => rfl); (case hg => rfl); (case hr => first | (go_simp; done) | (go_simp; rfl)); intro gb229 hg w32 hbox hb; have n0_ := Aside0.mk (blk_below (g := gb219) (o := .cells #[.int .i64 t222, .int .i64 t223] 23 (0, 0)) (by (with_reducible repeat (first | refine blk_drewN ?_ _ | refine blk_drew ?_ | refine blk_alloc ?_ _)); exact BK219.out) hb); have n1_ := Aside0.mk (blk_below (g := gb220) (o := .cells #[.int .i64 t224, .int .i64 t225] 23 (0, 0)) (by (with_reducible repeat (first | refine blk_drewN ?_ _ | refine blk_drew ?_ | refine blk_alloc ?_ _)); exact BK220.out) hb); have n2_ := Aside0.mk (blk_below (g := gb221) (o := .cells #[.int .i64 t226, .int .i64 t227] 23 (0, 0)) (by (with_reducible repeat (first | refine blk_drewN ?_ _ | refine blk_drew ?_ | refine blk_alloc ?_ _)); exact BK221.out) hb); have n3_ := Aside0.mk (below_step (by repeat (first | (with_reducible first | exact HB.out | apply below_alloc | apply pw_below_drewN | apply below_drew1 | refine below_set ?_ GE219.out | refine below_set ?_ GE220.out | refine below_set ?_ GE221.out) | exact HB.out)) hb); have n4_ := Aside0.mk (hbox); have n5_ := Aside0.mk ((by rw [hg]; exact (below_size (by repeat (first | (with_reducible first | exact HB.out | apply below_alloc | apply pw_below_drewN | apply below_drew1 | refine below_set ?_ GE219.out | refine below_set ?_ GE220.out | refine below_set ?_ GE221.out) | exact HB.out))) : w.heap.size ≤ gb229)); have n6_ := Aside0.mk ((by rw [hg]; exact (below_size (by repeat (first | (with_reducible first | exact HB.out | apply below_alloc | apply pw_below_drewN | apply below_drew1 | refine below_set ?_ GE219.out | refine below_set ?_ GE220.out | refine below_set ?_ GE221.out) | exact HB.out))) : w.heap.size ≤ gb229)); have n7_ := Aside0.mk ((by rw [hg]; exact Nat.ne_of_lt (blk_lt (g := gb219) (o := .cells #[.int .i64 t222, .int .i64 t223] 23 (0, 0)) (by (with_reducible repeat (first | refine blk_drewN ?_ _ | refine blk_drew ?_ | refine blk_alloc ?_ _)); exact BK219.out)) : gb219 ≠ gb229)); have n8_ := Aside0.mk ((by rw [hg]; exact Nat.ne_of_gt (blk_lt (g := gb219) (o := .cells #[.int .i64 t222, .int .i64 t223] 23 (0, 0)) (by (with_reducible repeat (first | refine blk_drewN ?_ _ | refine blk_drew ?_ | refine blk_alloc ?_ _)); exact BK219.out)) : gb229 ≠ gb219)); have n9_ := Aside0.mk ((by rw [hg]; exact Nat.ne_of_lt (blk_lt (g := gb220) (o := .cells #[.int .i64 t224, .int .i64 t225] 23 (0, 0)) (by (with_reducible repeat (first | refine blk_drewN ?_ _ | refine blk_drew ?_ | refine blk_alloc ?_ _)); exact BK220.out)) : gb220 ≠ gb229)); have n10_ := Aside0.mk ((by rw [hg]; exact Nat.ne_of_gt (blk_lt (g := gb220) (o := .cells #[.int .i64 t224, .int .i64 t225] 23 (0, 0)) (by (with_reducible repeat (first | refine blk_drewN ?_ _ | refine blk_drew ?_ | refine blk_alloc ?_ _)); exact BK220.out)) : gb229 ≠ gb220)); have n11_ := Aside0.mk ((by rw [hg]; exact Nat.ne_of_lt (blk_lt (g := gb221) (o := .cells #[.int .i64 t226, .int .i64 t227] 23 (0, 0)) (by (with_reducible repeat (first | refine blk_drewN ?_ _ | refine blk_drew ?_ | refine blk_alloc ?_ _)); exact BK221.out)) : gb221 ≠ gb229)); have n12_ := Aside0.mk ((by rw [hg]; exact Nat.ne_of_gt (blk_lt (g := gb221) (o := .cells #[.int .i64 t226, .int .i64 t227] 23 (0, 0)) (by (with_reducible repeat (first | refine blk_drewN ?_ _ | refine blk_drew ?_ | refine blk_alloc ?_ _)); exact BK221.out)) : gb229 ≠ gb221)); clear BK219; clear BK220; clear BK221; clear HB; have BK219 := n0_; have BK220 := n1_; have BK221 := n2_; have HB := n3_; have BK229 := n4_; have GW229 := n5_; have GE229 := n6_; have NB219_229 := n7_; have NB229_219 := n8_; have NB220_229 := n9_; have NB229_220 := n10_; have NB221_229 := n11_; have NB229_221 := n12_; clear n0_ n1_ n2_ n3_ n4_ n5_ n6_ n7_ n8_ n9_ n10_ n11_ n12_; clear hb hbox hg; have hnb33 := NB229_219.out; have hnc33 := NB219_229.out; have hnb34 := NB229_220.out; have hnc34 := NB220_229.out; have hnb35 := NB229_221.out; have hnc35 := NB221_229.out; have hcz36_0 : w32.cell? ⟨gb229, 0, none⟩ = some (.int .i64 0) := (blk_cell BK229.out 0).trans rfl; have hcz36_1 : w32.cell? ⟨gb229, 1, none⟩ = some (.int .i64 0) := (blk_cell BK229.out 1).trans rfl; have hfz36_0 := blk_frozen BK229.out 0; have hfz36_1 := blk_frozen BK229.out 1; have hnb37 := NB220_221.out; have hnc37 := NB221_220.out; have hcz38_0 : w32.cell? ⟨gb220, 0, none⟩ = some (.int .i64 t224) := (blk_cell BK220.out 0).trans rfl; have hcz38_1 : w32.cell? ⟨gb220, 1, none⟩ = some (.int .i64 t225) := (blk_cell BK220.out 1).trans rfl; have hfz38_0 := blk_frozen BK220.out 0; have hfz38_1 := blk_frozen BK220.out 1; have hcz39_0 : w32.cell? ⟨gb219, 0, none⟩ = some (.int .i64 t222) := (blk_cell BK219.out 0).trans rfl; have hcz39_1 : w32.cell? ⟨gb219, 1, none⟩ = some (.int .i64 t223) := (blk_cell BK219.out 1).trans rfl; have hfz39_0 := blk_frozen BK219.out 0; have hfz39_1 := blk_frozen BK219.out 1))
      go_meet
      case rel => exact ⟨_, (t224), (t225), (t222), (t223), H', ⟨by first | omega | exact Nat.le_refl _⟩, ⟨by (with_reducible repeat (first | refine blk_drewN ?_ _ | refine blk_drew ?_ | refine blk_alloc ?_ _)); refine blk_far ?_ NB219_220.out _; (with_reducible repeat (first | refine blk_drewN ?_ _ | refine blk_drew ?_ | refine blk_alloc ?_ _)); refine blk_far ?_ NB219_220.out _; (with_reducible repeat (first | refine blk_drewN ?_ _ | refine blk_drew ?_ | refine blk_alloc ?_ _)); refine blk_put (cs := #[.int .i64 t224, .int .i64 t223]) ?_ 1 _ rfl; (with_reducible repeat (first | refine blk_drewN ?_ _ | refine blk_drew ?_ | refine blk_alloc ?_ _)); refine blk_put (cs := #[.int .i64 t222, .int .i64 t223]) ?_ 0 _ rfl; (with_reducible repeat (first | refine blk_drewN ?_ _ | refine blk_drew ?_ | refine blk_alloc ?_ _)); refine blk_far ?_ NB219_229.out _; (with_reducible repeat (first | refine blk_drewN ?_ _ | refine blk_drew ?_ | refine blk_alloc ?_ _)); refine blk_far ?_ NB219_229.out _; (with_reducible repeat (first | refine blk_drewN ?_ _ | refine blk_drew ?_ | refine blk_alloc ?_ _)); exact BK219.out⟩, ⟨by (with_reducible repeat (first | refine blk_drewN ?_ _ | refine blk_drew ?_ | refine blk_alloc ?_ _)); refine blk_put (cs := #[.int .i64 t222, .int .i64 t225]) ?_ 1 _ rfl; (with_reducible repeat (first | refine blk_drewN ?_ _ | refine blk_drew ?_ | refine blk_alloc ?_ _)); refine blk_put (cs := #[.int .i64 t224, .int .i64 t225]) ?_ 0 _ rfl; (with_reducible repeat (first | refine blk_drewN ?_ _ | refine blk_drew ?_ | refine blk_alloc ?_ _)); refine blk_far ?_ NB220_219.out _; (with_reducible repeat (first | refine blk_drewN ?_ _ | refine blk_drew ?_ | refine blk_alloc ?_ _)); refine blk_far ?_ NB220_219.out _; (with_reducible repeat (first | refine blk_drewN ?_ _ | refine blk_drew ?_ | refine blk_alloc ?_ _)); refine blk_far ?_ NB220_229.out _; (with_reducible repeat (first | refine blk_drewN ?_ _ | refine blk_drew ?_ | refine blk_alloc ?_ _)); refine blk_far ?_ NB220_229.out _; (with_reducible repeat (first | refine blk_drewN ?_ _ | refine blk_drew ?_ | refine blk_alloc ?_ _)); exact BK220.out⟩, ⟨by (with_reducible repeat (first | refine blk_drewN ?_ _ | refine blk_drew ?_ | refine blk_alloc ?_ _)); refine blk_far ?_ NB221_220.out _; (with_reducible repeat (first | refine blk_drewN ?_ _ | refine blk_drew ?_ | refine blk_alloc ?_ _)); refine blk_far ?_ NB221_220.out _; (with_reducible repeat (first | refine blk_drewN ?_ _ | refine blk_drew ?_ | refine blk_alloc ?_ _)); refine blk_far ?_ NB221_219.out _; (with_reducible repeat (first | refine blk_drewN ?_ _ | refine blk_drew ?_ | refine blk_alloc ?_ _)); refine blk_far ?_ NB221_219.out _; (with_reducible repeat (first | refine blk_drewN ?_ _ | refine blk_drew ?_ | refine blk_alloc ?_ _)); refine blk_far ?_ NB221_229.out _; (with_reducible repeat (first | refine blk_drewN ?_ _ | refine blk_drew ?_ | refine blk_alloc ?_ _)); refine blk_far ?_ NB221_229.out _; (with_reducible repeat (first | refine blk_drewN ?_ _ | refine blk_drew ?_ | refine blk_alloc ?_ _)); exact BK221.out⟩, ⟨by repeat (first | (with_reducible first | exact HB.out | apply below_alloc | apply pw_below_drewN | apply below_drew1 | refine below_set ?_ GE219.out | refine below_set ?_ GE220.out | refine below_set ?_ GE221.out | refine below_set ?_ GE229.out) | exact HB.out)⟩⟩
    · replace c28 := Bool.eq_false_iff.mpr c28
      subst c28
      have H1 : (galloonlaw03_YardSimple.j0 k t222 t223 t224 t225 t226 t227) = some r := by rw [if_neg (show ¬ (false = true) by decide)] at H; exact H
      clear H
      have H := H1
      clear H1
      have H' := Aside0.mk H
      clear H
      go_wp2
      go_meet
      case rel => exact ⟨_, (t222), (t223), (t224), (t225), H', ⟨by first | omega | exact Nat.le_refl _⟩, ⟨by (with_reducible repeat (first | refine blk_drewN ?_ _ | refine blk_drew ?_ | refine blk_alloc ?_ _)); exact BK219.out⟩, ⟨by (with_reducible repeat (first | refine blk_drewN ?_ _ | refine blk_drew ?_ | refine blk_alloc ?_ _)); exact BK220.out⟩, ⟨by (with_reducible repeat (first | refine blk_drewN ?_ _ | refine blk_drew ?_ | refine blk_alloc ?_ _)); exact BK221.out⟩, ⟨by repeat (first | (with_reducible first | exact HB.out | apply below_alloc | apply pw_below_drewN | apply below_drew1 | refine below_set ?_ GE219.out | refine below_set ?_ GE220.out | refine below_set ?_ GE221.out) | exact HB.out)⟩⟩
  case rest =>
    clear HC8
    try clear c2
    try clear p2
    try clear c3
    try clear c5
    try clear c22
    try clear c23
    try clear c25
    try clear c26
    try clear c28
    try clear c29
    try clear c30
    try clear c33
    try clear c34
    try clear c35
    try clear c37
    try clear hcz24_0
    try clear hcz24_1
    try clear hcz26_0
    try clear hcz26_1
    try clear hcz31_0
    try clear hcz31_1
    try clear hcz36_0
    try clear hcz36_1
    try clear hcz38_0
    try clear hcz38_1
    try clear hcz39_0
    try clear hcz39_1
    try clear hfz24_0
    try clear hfz24_1
    try clear hfz26_0
    try clear hfz26_1
    try clear hfz31_0
    try clear hfz31_1
    try clear hfz36_0
    try clear hfz36_1
    try clear hfz38_0
    try clear hfz38_1
    try clear hfz39_0
    try clear hfz39_1
    obtain ⟨kq, x220000_7, x220001_7, x221000_7, x221001_7, HA, HJ7, BK219, BK220, BK221, HB⟩ := hcut
    cases kq with
    | zero => exact absurd HA.out (by simp [galloonlaw03_YardSimple.j0])
    | succ kj7 =>
      have H := HA.out
      clear HA
      simp only [galloonlaw03_YardSimple.j0] at H
      replace H := Option.bind_eq_some_iff.mp H
      obtain ⟨⟨t230, t231, t232⟩, A400, H⟩ := H
      replace H : ((galloonref03_Less.f x220000_7 x220001_7 t226 t227).bind fun t234 => (if t234 = true then ((galloonref03_Less.f t226 t227 x221000_7 x221001_7).bind fun t235 => (galloonlaw03_YardSimple.j1 kj7 t232 t235 x220000_7 x220001_7 x221000_7 x221001_7 t226 t227 t230 t231)) else (galloonlaw03_YardSimple.j1 kj7 t232 false x220000_7 x220001_7 x221000_7 x221001_7 t226 t227 t230 t231))) = some r := H
      have A40 := Aside0.mk A400
      clear A400
      have HC41 := Aside0.mk H
      clear H
      have hnb42 := NB219_220.out
      have hnc42 := NB220_219.out
      have hnb43 := NB219_221.out
      have hnc43 := NB221_219.out
      have hcz44_0 : wc.cell? ⟨gb219, 0, none⟩ = some (.int .i64 x220000_7) := (blk_cell BK219.out 0).trans rfl
      have hcz44_1 : wc.cell? ⟨gb219, 1, none⟩ = some (.int .i64 x220001_7) := (blk_cell BK219.out 1).trans rfl
      have hfz44_0 := blk_frozen BK219.out 0
      have hfz44_1 := blk_frozen BK219.out 1
      have hnb45 := NB220_221.out
      have hnc45 := NB221_220.out
      have hcz46_0 : wc.cell? ⟨gb220, 0, none⟩ = some (.int .i64 x221000_7) := (blk_cell BK220.out 0).trans rfl
      have hcz46_1 : wc.cell? ⟨gb220, 1, none⟩ = some (.int .i64 x221001_7) := (blk_cell BK220.out 1).trans rfl
      have hfz46_0 := blk_frozen BK220.out 0
      have hfz46_1 := blk_frozen BK220.out 1
      go_upto_region 7 with (first | ((with_reducible refine gate_callee (f := 30) rfl ?_); refine goesL_ (some 26) rfl rfl Try.func30 (by kernel_rfl) rfl #[.agg #[.int .i64 x220000_7, .int .i64 x220001_7], .agg #[.int .i64 x221000_7, .int .i64 x221001_7]] rfl (by (try simp only [List.map_toArray, List.map_cons, List.map_nil]); first | done | rfl | (simp only [List.length_drop, List.length_take]; rfl)) ?_; (with_reducible refine (yard_Between.calls kj7 x220000_7 x220001_7 x221000_7 x221001_7 t230 t231 t232 _ A40.out).mono ?_); rintro e w47 ⟨rfl, hb⟩; refine ⟨_, rfl, ?_⟩; have n0_ := Aside0.mk (blk_below (g := gb219) (o := .cells #[.int .i64 x220000_7, .int .i64 x220001_7] 23 (0, 0)) (by (with_reducible repeat (first | refine blk_drewN ?_ _ | refine blk_drew ?_ | refine blk_alloc ?_ _)); exact BK219.out) hb); have n1_ := Aside0.mk (blk_below (g := gb220) (o := .cells #[.int .i64 x221000_7, .int .i64 x221001_7] 23 (0, 0)) (by (with_reducible repeat (first | refine blk_drewN ?_ _ | refine blk_drew ?_ | refine blk_alloc ?_ _)); exact BK220.out) hb); have n2_ := Aside0.mk (blk_below (g := gb221) (o := .cells #[.int .i64 t226, .int .i64 t227] 23 (0, 0)) (by (with_reducible repeat (first | refine blk_drewN ?_ _ | refine blk_drew ?_ | refine blk_alloc ?_ _)); exact BK221.out) hb); have n3_ := Aside0.mk (below_step (by repeat (first | (with_reducible first | exact HB.out | apply below_alloc | apply pw_below_drewN | apply below_drew1 | refine below_set ?_ GE219.out | refine below_set ?_ GE220.out | refine below_set ?_ GE221.out) | exact HB.out)) hb); clear BK219; clear BK220; clear BK221; clear HB; have BK219 := n0_; have BK220 := n1_; have BK221 := n2_; have HB := n3_; clear n0_ n1_ n2_ n3_; (try clear hb); (try clear hb2); (try clear hk); (try clear hi)) | ((with_reducible refine gate_dst (N := 8) rfl ?_); refine box_event ?hg (N := 8) ?hd (cs := #[.int .i64 0, .int .i64 0]) (t := 23) ?hr ?_; (case hd => rfl); (case hg => rfl); (case hr => first | (go_simp; done) | (go_simp; rfl)); intro gb233 hg w48 hbox hb; have n0_ := Aside0.mk (blk_below (g := gb219) (o := .cells #[.int .i64 x220000_7, .int .i64 x220001_7] 23 (0, 0)) (by (with_reducible repeat (first | refine blk_drewN ?_ _ | refine blk_drew ?_ | refine blk_alloc ?_ _)); exact BK219.out) hb); have n1_ := Aside0.mk (blk_below (g := gb220) (o := .cells #[.int .i64 x221000_7, .int .i64 x221001_7] 23 (0, 0)) (by (with_reducible repeat (first | refine blk_drewN ?_ _ | refine blk_drew ?_ | refine blk_alloc ?_ _)); exact BK220.out) hb); have n2_ := Aside0.mk (blk_below (g := gb221) (o := .cells #[.int .i64 t226, .int .i64 t227] 23 (0, 0)) (by (with_reducible repeat (first | refine blk_drewN ?_ _ | refine blk_drew ?_ | refine blk_alloc ?_ _)); exact BK221.out) hb); have n3_ := Aside0.mk (below_step (by repeat (first | (with_reducible first | exact HB.out | apply below_alloc | apply pw_below_drewN | apply below_drew1 | refine below_set ?_ GE219.out | refine below_set ?_ GE220.out | refine below_set ?_ GE221.out) | exact HB.out)) hb); have n4_ := Aside0.mk (hbox); have n5_ := Aside0.mk ((by rw [hg]; exact (below_size (by repeat (first | (with_reducible first | exact HB.out | apply below_alloc | apply pw_below_drewN | apply below_drew1 | refine below_set ?_ GE219.out | refine below_set ?_ GE220.out | refine below_set ?_ GE221.out) | exact HB.out))) : w.heap.size ≤ gb233)); have n6_ := Aside0.mk ((by rw [hg]; exact (below_size (by repeat (first | (with_reducible first | exact HB.out | apply below_alloc | apply pw_below_drewN | apply below_drew1 | refine below_set ?_ GE219.out | refine below_set ?_ GE220.out | refine below_set ?_ GE221.out) | exact HB.out))) : w.heap.size ≤ gb233)); have n7_ := Aside0.mk ((by rw [hg]; exact Nat.ne_of_lt (blk_lt (g := gb219) (o := .cells #[.int .i64 x220000_7, .int .i64 x220001_7] 23 (0, 0)) (by (with_reducible repeat (first | refine blk_drewN ?_ _ | refine blk_drew ?_ | refine blk_alloc ?_ _)); exact BK219.out)) : gb219 ≠ gb233)); have n8_ := Aside0.mk ((by rw [hg]; exact Nat.ne_of_gt (blk_lt (g := gb219) (o := .cells #[.int .i64 x220000_7, .int .i64 x220001_7] 23 (0, 0)) (by (with_reducible repeat (first | refine blk_drewN ?_ _ | refine blk_drew ?_ | refine blk_alloc ?_ _)); exact BK219.out)) : gb233 ≠ gb219)); have n9_ := Aside0.mk ((by rw [hg]; exact Nat.ne_of_lt (blk_lt (g := gb220) (o := .cells #[.int .i64 x221000_7, .int .i64 x221001_7] 23 (0, 0)) (by (with_reducible repeat (first | refine blk_drewN ?_ _ | refine blk_drew ?_ | refine blk_alloc ?_ _)); exact BK220.out)) : gb220 ≠ gb233)); have n10_ := Aside0.mk ((by rw [hg]; exact Nat.ne_of_gt (blk_lt (g := gb220) (o := .cells #[.int .i64 x221000_7, .int .i64 x221001_7] 23 (0, 0)) (by (with_reducible repeat (first | refine blk_drewN ?_ _ | refine blk_drew ?_ | refine blk_alloc ?_ _)); exact BK220.out)) : gb233 ≠ gb220)); have n11_ := Aside0.mk ((by rw [hg]; exact Nat.ne_of_lt (blk_lt (g := gb221) (o := .cells #[.int .i64 t226, .int .i64 t227] 23 (0, 0)) (by (with_reducible repeat (first | refine blk_drewN ?_ _ | refine blk_drew ?_ | refine blk_alloc ?_ _)); exact BK221.out)) : gb221 ≠ gb233)); have n12_ := Aside0.mk ((by rw [hg]; exact Nat.ne_of_gt (blk_lt (g := gb221) (o := .cells #[.int .i64 t226, .int .i64 t227] 23 (0, 0)) (by (with_reducible repeat (first | refine blk_drewN ?_ _ | refine blk_drew ?_ | refine blk_alloc ?_ _)); exact BK221.out)) : gb233 ≠ gb221)); clear BK219; clear BK220; clear BK221; clear HB; have BK219 := n0_; have BK220 := n1_; have BK221 := n2_; have HB := n3_; have BK233 := n4_; have GW233 := n5_; have GE233 := n6_; have NB219_233 := n7_; have NB233_219 := n8_; have NB220_233 := n9_; have NB233_220 := n10_; have NB221_233 := n11_; have NB233_221 := n12_; clear n0_ n1_ n2_ n3_ n4_ n5_ n6_ n7_ n8_ n9_ n10_ n11_ n12_; clear hb hbox hg; have hnb49 := NB233_219.out; have hnc49 := NB219_233.out; have hnb50 := NB233_220.out; have hnc50 := NB220_233.out; have hnb51 := NB233_221.out; have hnc51 := NB221_233.out; have hcz52_0 : w48.cell? ⟨gb233, 0, none⟩ = some (.int .i64 0) := (blk_cell BK233.out 0).trans rfl; have hcz52_1 : w48.cell? ⟨gb233, 1, none⟩ = some (.int .i64 0) := (blk_cell BK233.out 1).trans rfl; have hfz52_0 := blk_frozen BK233.out 0; have hfz52_1 := blk_frozen BK233.out 1))
      (try simp only [Act.put, List.setIfInBounds_toArray, List.set_cons_zero, List.set_cons_succ])
      go_cut [10] (fun v10 wc => ∃ (kq : Nat) (x10_40 : Bool), v10 = .bool x10_40 ∧ Aside0 (galloonlaw03_YardSimple.j1 kq t232 x10_40 x220000_7 x220001_7 x221000_7 x221001_7 t226 t227 t230 t231 = some r) ∧ Aside0 (kq ≤ kj7) ∧ Aside0 (wc.heap[gb219]? = some (.cells #[.int .i64 x220000_7, .int .i64 x220001_7] 23 (0, 0))) ∧ Aside0 (wc.heap[gb220]? = some (.cells #[.int .i64 x221000_7, .int .i64 x221001_7] 23 (0, 0))) ∧ Aside0 (wc.heap[gb221]? = some (.cells #[.int .i64 t226, .int .i64 t227] 23 (0, 0))) ∧ Aside0 (wc.heap[gb233]? = some (.cells #[.int .i64 t230, .int .i64 t231] 23 (0, 0))) ∧ Aside0 (Below w.heap.size w wc))
      case first =>
        have H := HC41.out
        clear HC41
        replace H := Option.bind_eq_some_iff.mp H
        obtain ⟨t234, A530, H⟩ := H
        replace H : (if t234 = true then ((galloonref03_Less.f t226 t227 x221000_7 x221001_7).bind fun t235 => (galloonlaw03_YardSimple.j1 kj7 t232 t235 x220000_7 x220001_7 x221000_7 x221001_7 t226 t227 t230 t231)) else (galloonlaw03_YardSimple.j1 kj7 t232 false x220000_7 x220001_7 x221000_7 x221001_7 t226 t227 t230 t231)) = some r := H
        have A53 := Aside0.mk A530
        clear A530
        by_cases c54 : t234 = true
        · subst c54
          have H1 : ((galloonref03_Less.f t226 t227 x221000_7 x221001_7).bind fun t235 => (galloonlaw03_YardSimple.j1 kj7 t232 t235 x220000_7 x220001_7 x221000_7 x221001_7 t226 t227 t230 t231)) = some r := by rw [if_pos rfl] at H; exact H
          clear H
          have H := H1
          clear H1
          replace H := Option.bind_eq_some_iff.mp H
          obtain ⟨t235, A550, H⟩ := H
          replace H : (galloonlaw03_YardSimple.j1 kj7 t232 t235 x220000_7 x220001_7 x221000_7 x221001_7 t226 t227 t230 t231) = some r := H
          have A55 := Aside0.mk A550
          clear A550
          have H' := Aside0.mk H
          clear H
          have hnb56 := NB219_220.out
          have hnc56 := NB220_219.out
          have hnb57 := NB219_221.out
          have hnc57 := NB221_219.out
          have hnb58 := NB219_233.out
          have hnc58 := NB233_219.out
          have hcz59_0 : w48.cell? ⟨gb219, 0, none⟩ = some (.int .i64 x220000_7) := (blk_cell BK219.out 0).trans rfl
          have hcz59_1 : w48.cell? ⟨gb219, 1, none⟩ = some (.int .i64 x220001_7) := (blk_cell BK219.out 1).trans rfl
          have hfz59_0 := blk_frozen BK219.out 0
          have hfz59_1 := blk_frozen BK219.out 1
          have hnb60 := NB221_220.out
          have hnc60 := NB220_221.out
          have hnb61 := NB221_233.out
          have hnc61 := NB233_221.out
          have hcz62_0 : w48.cell? ⟨gb221, 0, none⟩ = some (.int .i64 t226) := (blk_cell BK221.out 0).trans rfl
          have hcz62_1 : w48.cell? ⟨gb221, 1, none⟩ = some (.int .i64 t227) := (blk_cell BK221.out 1).trans rfl
          have hfz62_0 := blk_frozen BK221.out 0
          have hfz62_1 := blk_frozen BK221.out 1
          go_wp2_with (first | ((with_reducible refine gate_callee (f := 29) rfl ?_); refine goesL_ (some 31) rfl rfl Try.func29 (by kernel_rfl) rfl #[.agg #[.int .i64 x220000_7, .int .i64 x220001_7], .agg #[.int .i64 t226, .int .i64 t227]] rfl (by (try simp only [List.map_toArray, List.map_cons, List.map_nil]); first | done | rfl | (simp only [List.length_drop, List.length_take]; rfl)) ?_; (with_reducible refine (galloonref03_Less.calls x220000_7 x220001_7 t226 t227 true _ A53.out).mono ?_); rintro e w63 ⟨rfl, hb⟩; refine ⟨_, rfl, ?_⟩; have n0_ := Aside0.mk (blk_below (g := gb219) (o := .cells #[.int .i64 x220000_7, .int .i64 x220001_7] 23 (0, 0)) (by (with_reducible repeat (first | refine blk_drewN ?_ _ | refine blk_drew ?_ | refine blk_alloc ?_ _)); refine blk_far ?_ NB219_233.out _; (with_reducible repeat (first | refine blk_drewN ?_ _ | refine blk_drew ?_ | refine blk_alloc ?_ _)); refine blk_far ?_ NB219_233.out _; (with_reducible repeat (first | refine blk_drewN ?_ _ | refine blk_drew ?_ | refine blk_alloc ?_ _)); exact BK219.out) hb); have n1_ := Aside0.mk (blk_below (g := gb220) (o := .cells #[.int .i64 x221000_7, .int .i64 x221001_7] 23 (0, 0)) (by (with_reducible repeat (first | refine blk_drewN ?_ _ | refine blk_drew ?_ | refine blk_alloc ?_ _)); refine blk_far ?_ NB220_233.out _; (with_reducible repeat (first | refine blk_drewN ?_ _ | refine blk_drew ?_ | refine blk_alloc ?_ _)); refine blk_far ?_ NB220_233.out _; (with_reducible repeat (first | refine blk_drewN ?_ _ | refine blk_drew ?_ | refine blk_alloc ?_ _)); exact BK220.out) hb); have n2_ := Aside0.mk (blk_below (g := gb221) (o := .cells #[.int .i64 t226, .int .i64 t227] 23 (0, 0)) (by (with_reducible repeat (first | refine blk_drewN ?_ _ | refine blk_drew ?_ | refine blk_alloc ?_ _)); refine blk_far ?_ NB221_233.out _; (with_reducible repeat (first | refine blk_drewN ?_ _ | refine blk_drew ?_ | refine blk_alloc ?_ _)); refine blk_far ?_ NB221_233.out _; (with_reducible repeat (first | refine blk_drewN ?_ _ | refine blk_drew ?_ | refine blk_alloc ?_ _)); exact BK221.out) hb); have n3_ := Aside0.mk (blk_below (g := gb233) (o := .cells #[.int .i64 t230, .int .i64 t231] 23 (0, 0)) (by (with_reducible repeat (first | refine blk_drewN ?_ _ | refine blk_drew ?_ | refine blk_alloc ?_ _)); refine blk_put (cs := #[.int .i64 t230, .int .i64 0]) ?_ 1 _ rfl; (with_reducible repeat (first | refine blk_drewN ?_ _ | refine blk_drew ?_ | refine blk_alloc ?_ _)); refine blk_put (cs := #[.int .i64 0, .int .i64 0]) ?_ 0 _ rfl; (with_reducible repeat (first | refine blk_drewN ?_ _ | refine blk_drew ?_ | refine blk_alloc ?_ _)); exact BK233.out) hb); have n4_ := Aside0.mk (below_step (by repeat (first | (with_reducible first | exact HB.out | apply below_alloc | apply pw_below_drewN | apply below_drew1 | refine below_set ?_ GE219.out | refine below_set ?_ GE220.out | refine below_set ?_ GE221.out | refine below_set ?_ GE233.out) | exact HB.out)) hb); clear BK219; clear BK220; clear BK221; clear BK233; clear HB; have BK219 := n0_; have BK220 := n1_; have BK221 := n2_; have BK233 := n3_; have HB := n4_; clear n0_ n1_ n2_ n3_ n4_; (try clear hb); (try clear hb2); (try clear hk); (try clear hi); have hcz64_0 : w63.cell? ⟨gb221, 0, none⟩ = some (.int .i64 t226) := (blk_cell BK221.out 0).trans rfl; have hcz64_1 : w63.cell? ⟨gb221, 1, none⟩ = some (.int .i64 t227) := (blk_cell BK221.out 1).trans rfl; have hfz64_0 := blk_frozen BK221.out 0; have hfz64_1 := blk_frozen BK221.out 1; have hnb65 := NB220_233.out; have hnc65 := NB233_220.out; have hcz66_0 : w63.cell? ⟨gb220, 0, none⟩ = some (.int .i64 x221000_7) := (blk_cell BK220.out 0).trans rfl; have hcz66_1 : w63.cell? ⟨gb220, 1, none⟩ = some (.int .i64 x221001_7) := (blk_cell BK220.out 1).trans rfl; have hfz66_0 := blk_frozen BK220.out 0; have hfz66_1 := blk_frozen BK220.out 1) | (go_at_call 29; (with_reducible refine (galloonref03_Less.calls t226 t227 x221000_7 x221001_7 t235 _ A55.out).mono ?_); rintro e w67 ⟨rfl, hb⟩; have n0_ := Aside0.mk (blk_below (g := gb219) (o := .cells #[.int .i64 x220000_7, .int .i64 x220001_7] 23 (0, 0)) (by (with_reducible repeat (first | refine blk_drewN ?_ _ | refine blk_drew ?_ | refine blk_alloc ?_ _)); exact BK219.out) hb); have n1_ := Aside0.mk (blk_below (g := gb220) (o := .cells #[.int .i64 x221000_7, .int .i64 x221001_7] 23 (0, 0)) (by (with_reducible repeat (first | refine blk_drewN ?_ _ | refine blk_drew ?_ | refine blk_alloc ?_ _)); exact BK220.out) hb); have n2_ := Aside0.mk (blk_below (g := gb221) (o := .cells #[.int .i64 t226, .int .i64 t227] 23 (0, 0)) (by (with_reducible repeat (first | refine blk_drewN ?_ _ | refine blk_drew ?_ | refine blk_alloc ?_ _)); exact BK221.out) hb); have n3_ := Aside0.mk (blk_below (g := gb233) (o := .cells #[.int .i64 t230, .int .i64 t231] 23 (0, 0)) (by (with_reducible repeat (first | refine blk_drewN ?_ _ | refine blk_drew ?_ | refine blk_alloc ?_ _)); exact BK233.out) hb); have n4_ := Aside0.mk (below_step (by repeat (first | (with_reducible first | exact HB.out | apply below_alloc | apply pw_below_drewN | apply below_drew1 | refine below_set ?_ GE219.out | refine below_set ?_ GE220.out | refine below_set ?_ GE221.out | refine below_set ?_ GE233.out) | exact HB.out)) hb); clear BK219; clear BK220; clear BK221; clear BK233; clear HB; have BK219 := n0_; have BK220 := n1_; have BK221 := n2_; have BK233 := n3_; have HB := n4_; clear n0_ n1_ n2_ n3_ n4_; (try clear hb); (try clear hb2); (try clear hk); (try clear hi)))
          go_meet
          case rel => exact ⟨_, (t235), (by first | rfl | (simp; done) | (simp [*]; done)), H', ⟨by have := HJ7.out; first | omega | exact Nat.le_refl _⟩, ⟨by (with_reducible repeat (first | refine blk_drewN ?_ _ | refine blk_drew ?_ | refine blk_alloc ?_ _)); exact BK219.out⟩, ⟨by (with_reducible repeat (first | refine blk_drewN ?_ _ | refine blk_drew ?_ | refine blk_alloc ?_ _)); exact BK220.out⟩, ⟨by (with_reducible repeat (first | refine blk_drewN ?_ _ | refine blk_drew ?_ | refine blk_alloc ?_ _)); exact BK221.out⟩, ⟨by (with_reducible repeat (first | refine blk_drewN ?_ _ | refine blk_drew ?_ | refine blk_alloc ?_ _)); exact BK233.out⟩, ⟨by repeat (first | (with_reducible first | exact HB.out | apply below_alloc | apply pw_below_drewN | apply below_drew1 | refine below_set ?_ GE219.out | refine below_set ?_ GE220.out | refine below_set ?_ GE221.out | refine below_set ?_ GE233.out) | exact HB.out)⟩⟩
        · replace c54 := Bool.eq_false_iff.mpr c54
          subst c54
          have H1 : (galloonlaw03_YardSimple.j1 kj7 t232 false x220000_7 x220001_7 x221000_7 x221001_7 t226 t227 t230 t231) = some r := by rw [if_neg (show ¬ (false = true) by decide)] at H; exact H
          clear H
          have H := H1
          clear H1
          have H' := Aside0.mk H
          clear H
          have hnb68 := NB219_220.out
          have hnc68 := NB220_219.out
          have hnb69 := NB219_221.out
          have hnc69 := NB221_219.out
          have hnb70 := NB219_233.out
          have hnc70 := NB233_219.out
          have hcz71_0 : w48.cell? ⟨gb219, 0, none⟩ = some (.int .i64 x220000_7) := (blk_cell BK219.out 0).trans rfl
          have hcz71_1 : w48.cell? ⟨gb219, 1, none⟩ = some (.int .i64 x220001_7) := (blk_cell BK219.out 1).trans rfl
          have hfz71_0 := blk_frozen BK219.out 0
          have hfz71_1 := blk_frozen BK219.out 1
          have hnb72 := NB221_220.out
          have hnc72 := NB220_221.out
          have hnb73 := NB221_233.out
          have hnc73 := NB233_221.out
          have hcz74_0 : w48.cell? ⟨gb221, 0, none⟩ = some (.int .i64 t226) := (blk_cell BK221.out 0).trans rfl
          have hcz74_1 : w48.cell? ⟨gb221, 1, none⟩ = some (.int .i64 t227) := (blk_cell BK221.out 1).trans rfl
          have hfz74_0 := blk_frozen BK221.out 0
          have hfz74_1 := blk_frozen BK221.out 1
          go_wp2_with (first | ((with_reducible refine gate_callee (f := 29) rfl ?_); refine goesL_ (some 31) rfl rfl Try.func29 (by kernel_rfl) rfl #[.agg #[.int .i64 x220000_7, .int .i64 x220001_7], .agg #[.int .i64 t226, .int .i64 t227]] rfl (by (try simp only [List.map_toArray, List.map_cons, List.map_nil]); first | done | rfl | (simp only [List.length_drop, List.length_take]; rfl)) ?_; (with_reducible refine (galloonref03_Less.calls x220000_7 x220001_7 t226 t227 false _ A53.out).mono ?_); rintro e w75 ⟨rfl, hb⟩; refine ⟨_, rfl, ?_⟩; have n0_ := Aside0.mk (blk_below (g := gb219) (o := .cells #[.int .i64 x220000_7, .int .i64 x220001_7] 23 (0, 0)) (by (with_reducible repeat (first | refine blk_drewN ?_ _ | refine blk_drew ?_ | refine blk_alloc ?_ _)); refine blk_far ?_ NB219_233.out _; (with_reducible repeat (first | refine blk_drewN ?_ _ | refine blk_drew ?_ | refine blk_alloc ?_ _)); refine blk_far ?_ NB219_233.out _; (with_reducible repeat (first | refine blk_drewN ?_ _ | refine blk_drew ?_ | refine blk_alloc ?_ _)); exact BK219.out) hb); have n1_ := Aside0.mk (blk_below (g := gb220) (o := .cells #[.int .i64 x221000_7, .int .i64 x221001_7] 23 (0, 0)) (by (with_reducible repeat (first | refine blk_drewN ?_ _ | refine blk_drew ?_ | refine blk_alloc ?_ _)); refine blk_far ?_ NB220_233.out _; (with_reducible repeat (first | refine blk_drewN ?_ _ | refine blk_drew ?_ | refine blk_alloc ?_ _)); refine blk_far ?_ NB220_233.out _; (with_reducible repeat (first | refine blk_drewN ?_ _ | refine blk_drew ?_ | refine blk_alloc ?_ _)); exact BK220.out) hb); have n2_ := Aside0.mk (blk_below (g := gb221) (o := .cells #[.int .i64 t226, .int .i64 t227] 23 (0, 0)) (by (with_reducible repeat (first | refine blk_drewN ?_ _ | refine blk_drew ?_ | refine blk_alloc ?_ _)); refine blk_far ?_ NB221_233.out _; (with_reducible repeat (first | refine blk_drewN ?_ _ | refine blk_drew ?_ | refine blk_alloc ?_ _)); refine blk_far ?_ NB221_233.out _; (with_reducible repeat (first | refine blk_drewN ?_ _ | refine blk_drew ?_ | refine blk_alloc ?_ _)); exact BK221.out) hb); have n3_ := Aside0.mk (blk_below (g := gb233) (o := .cells #[.int .i64 t230, .int .i64 t231] 23 (0, 0)) (by (with_reducible repeat (first | refine blk_drewN ?_ _ | refine blk_drew ?_ | refine blk_alloc ?_ _)); refine blk_put (cs := #[.int .i64 t230, .int .i64 0]) ?_ 1 _ rfl; (with_reducible repeat (first | refine blk_drewN ?_ _ | refine blk_drew ?_ | refine blk_alloc ?_ _)); refine blk_put (cs := #[.int .i64 0, .int .i64 0]) ?_ 0 _ rfl; (with_reducible repeat (first | refine blk_drewN ?_ _ | refine blk_drew ?_ | refine blk_alloc ?_ _)); exact BK233.out) hb); have n4_ := Aside0.mk (below_step (by repeat (first | (with_reducible first | exact HB.out | apply below_alloc | apply pw_below_drewN | apply below_drew1 | refine below_set ?_ GE219.out | refine below_set ?_ GE220.out | refine below_set ?_ GE221.out | refine below_set ?_ GE233.out) | exact HB.out)) hb); clear BK219; clear BK220; clear BK221; clear BK233; clear HB; have BK219 := n0_; have BK220 := n1_; have BK221 := n2_; have BK233 := n3_; have HB := n4_; clear n0_ n1_ n2_ n3_ n4_; (try clear hb); (try clear hb2); (try clear hk); (try clear hi)))
          go_meet
          case rel => exact ⟨_, (false), (by first | rfl | (simp; done) | (simp [*]; done)), H', ⟨by have := HJ7.out; first | omega | exact Nat.le_refl _⟩, ⟨by (with_reducible repeat (first | refine blk_drewN ?_ _ | refine blk_drew ?_ | refine blk_alloc ?_ _)); exact BK219.out⟩, ⟨by (with_reducible repeat (first | refine blk_drewN ?_ _ | refine blk_drew ?_ | refine blk_alloc ?_ _)); exact BK220.out⟩, ⟨by (with_reducible repeat (first | refine blk_drewN ?_ _ | refine blk_drew ?_ | refine blk_alloc ?_ _)); exact BK221.out⟩, ⟨by (with_reducible repeat (first | refine blk_drewN ?_ _ | refine blk_drew ?_ | refine blk_alloc ?_ _)); exact BK233.out⟩, ⟨by repeat (first | (with_reducible first | exact HB.out | apply below_alloc | apply pw_below_drewN | apply below_drew1 | refine below_set ?_ GE219.out | refine below_set ?_ GE220.out | refine below_set ?_ GE221.out | refine below_set ?_ GE233.out) | exact HB.out)⟩⟩
      case rest =>
        clear HC41
        try clear c2
        try clear p2
        try clear c3
        try clear c4
        try clear c5
        try clear c6
        try clear c7
        try clear c22
        try clear c23
        try clear c25
        try clear c26
        try clear c28
        try clear c29
        try clear c30
        try clear c33
        try clear c34
        try clear c35
        try clear c37
        try clear c42
        try clear c43
        try clear c45
        try clear c49
        try clear c50
        try clear c51
        try clear c54
        try clear c56
        try clear c57
        try clear c58
        try clear c60
        try clear c61
        try clear c65
        try clear c68
        try clear c69
        try clear c70
        try clear c72
        try clear c73
        try clear hcz24_0
        try clear hcz24_1
        try clear hcz26_0
        try clear hcz26_1
        try clear hcz31_0
        try clear hcz31_1
        try clear hcz36_0
        try clear hcz36_1
        try clear hcz38_0
        try clear hcz38_1
        try clear hcz39_0
        try clear hcz39_1
        try clear hcz44_0
        try clear hcz44_1
        try clear hcz46_0
        try clear hcz46_1
        try clear hcz52_0
        try clear hcz52_1
        try clear hcz59_0
        try clear hcz59_1
        try clear hcz62_0
        try clear hcz62_1
        try clear hcz64_0
        try clear hcz64_1
        try clear hcz66_0
        try clear hcz66_1
        try clear hcz71_0
        try clear hcz71_1
        try clear hcz74_0
        try clear hcz74_1
        try clear hfz24_0
        try clear hfz24_1
        try clear hfz26_0
        try clear hfz26_1
        try clear hfz31_0
        try clear hfz31_1
        try clear hfz36_0
        try clear hfz36_1
        try clear hfz38_0
        try clear hfz38_1
        try clear hfz39_0
        try clear hfz39_1
        try clear hfz44_0
        try clear hfz44_1
        try clear hfz46_0
        try clear hfz46_1
        try clear hfz52_0
        try clear hfz52_1
        try clear hfz59_0
        try clear hfz59_1
        try clear hfz62_0
        try clear hfz62_1
        try clear hfz64_0
        try clear hfz64_1
        try clear hfz66_0
        try clear hfz66_1
        try clear hfz71_0
        try clear hfz71_1
        try clear hfz74_0
        try clear hfz74_1
        try clear p2
        obtain ⟨kq, x10_40, rfl, HA, HJ40, BK219, BK220, BK221, BK233, HB⟩ := hcut
        cases kq with
        | zero => exact absurd HA.out (by simp [galloonlaw03_YardSimple.j1])
        | succ kj40 =>
          have H := HA.out
          clear HA
          simp only [galloonlaw03_YardSimple.j1] at H
          by_cases c76 : t232 = 0
          · rw [if_pos c76] at H
            have c76b0 : (t232 == 0) = true := beq_iff_eq.mpr c76
            have c76b1 : (t232 != 0) = false := bne_eq_false_iff_eq.mpr c76
            clear c76
            replace H := Option.bind_eq_some_iff.mp H
            obtain ⟨t239, A770, H⟩ := H
            replace H : (if t239 = true then ((galloonref03_Less.f x220000_7 x220001_7 t230 t231).bind fun t240 => (if t240 = true then ((galloonref03_Less.f t230 t231 x221000_7 x221001_7).bind fun t241 => (if t241 = true then (if x10_40 = true then ((galloonref03_Simpler.f t226 t227 t230 t231).bind fun t242 => (if t242 = true then (some false) else ((galloonlaw03_awake.f kj40).bind fun t243 => (some t243)))) else ((galloonlaw03_awake.f kj40).bind fun t244 => (some t244))) else (some false))) else (some false))) else (some false)) = some r := H
            have A77 := Aside0.mk A770
            clear A770
            by_cases c78 : t239 = true
            · subst c78
              have H1 : ((galloonref03_Less.f x220000_7 x220001_7 t230 t231).bind fun t240 => (if t240 = true then ((galloonref03_Less.f t230 t231 x221000_7 x221001_7).bind fun t241 => (if t241 = true then (if x10_40 = true then ((galloonref03_Simpler.f t226 t227 t230 t231).bind fun t242 => (if t242 = true then (some false) else ((galloonlaw03_awake.f kj40).bind fun t243 => (some t243)))) else ((galloonlaw03_awake.f kj40).bind fun t244 => (some t244))) else (some false))) else (some false))) = some r := by rw [if_pos rfl] at H; exact H
              clear H
              have H := H1
              clear H1
              replace H := Option.bind_eq_some_iff.mp H
              obtain ⟨t240, A790, H⟩ := H
              replace H : (if t240 = true then ((galloonref03_Less.f t230 t231 x221000_7 x221001_7).bind fun t241 => (if t241 = true then (if x10_40 = true then ((galloonref03_Simpler.f t226 t227 t230 t231).bind fun t242 => (if t242 = true then (some false) else ((galloonlaw03_awake.f kj40).bind fun t243 => (some t243)))) else ((galloonlaw03_awake.f kj40).bind fun t244 => (some t244))) else (some false))) else (some false)) = some r := H
              have A79 := Aside0.mk A790
              clear A790
              by_cases c80 : t240 = true
              · subst c80
                have H1 : ((galloonref03_Less.f t230 t231 x221000_7 x221001_7).bind fun t241 => (if t241 = true then (if x10_40 = true then ((galloonref03_Simpler.f t226 t227 t230 t231).bind fun t242 => (if t242 = true then (some false) else ((galloonlaw03_awake.f kj40).bind fun t243 => (some t243)))) else ((galloonlaw03_awake.f kj40).bind fun t244 => (some t244))) else (some false))) = some r := by rw [if_pos rfl] at H; exact H
                clear H
                have H := H1
                clear H1
                replace H := Option.bind_eq_some_iff.mp H
                obtain ⟨t241, A810, H⟩ := H
                replace H : (if t241 = true then (if x10_40 = true then ((galloonref03_Simpler.f t226 t227 t230 t231).bind fun t242 => (if t242 = true then (some false) else ((galloonlaw03_awake.f kj40).bind fun t243 => (some t243)))) else ((galloonlaw03_awake.f kj40).bind fun t244 => (some t244))) else (some false)) = some r := H
                have A81 := Aside0.mk A810
                clear A810
                by_cases c82 : t241 = true
                · subst c82
                  have H1 : (if x10_40 = true then ((galloonref03_Simpler.f t226 t227 t230 t231).bind fun t242 => (if t242 = true then (some false) else ((galloonlaw03_awake.f kj40).bind fun t243 => (some t243)))) else ((galloonlaw03_awake.f kj40).bind fun t244 => (some t244))) = some r := by rw [if_pos rfl] at H; exact H
                  clear H
                  have H := H1
                  clear H1
                  by_cases c83 : x10_40 = true
                  · subst c83
                    have H1 : ((galloonref03_Simpler.f t226 t227 t230 t231).bind fun t242 => (if t242 = true then (some false) else ((galloonlaw03_awake.f kj40).bind fun t243 => (some t243)))) = some r := by rw [if_pos rfl] at H; exact H
                    clear H
                    have H := H1
                    clear H1
                    replace H := Option.bind_eq_some_iff.mp H
                    obtain ⟨t242, A840, H⟩ := H
                    replace H : (if t242 = true then (some false) else ((galloonlaw03_awake.f kj40).bind fun t243 => (some t243))) = some r := H
                    have A84 := Aside0.mk A840
                    clear A840
                    by_cases c85 : t242 = true
                    · subst c85
                      have H1 : (some false) = some r := by rw [if_pos rfl] at H; exact H
                      clear H
                      have H := H1
                      clear H1
                      obtain rfl := Option.some.inj H
                      exact absurd hr.out (by decide)
                    · replace c85 := Bool.eq_false_iff.mpr c85
                      subst c85
                      have H1 : ((galloonlaw03_awake.f kj40).bind fun t243 => (some t243)) = some r := by rw [if_neg (show ¬ (false = true) by decide)] at H; exact H
                      clear H
                      have H := H1
                      clear H1
                      replace H := Option.bind_eq_some_iff.mp H
                      obtain ⟨t243, A860, H⟩ := H
                      replace H : (some t243) = some r := H
                      have A86 := Aside0.mk A860
                      clear A860
                      obtain rfl := Option.some.inj H
                      have hnb87 := NB233_219.out
                      have hnc87 := NB219_233.out
                      have hnb88 := NB233_220.out
                      have hnc88 := NB220_233.out
                      have hnb89 := NB233_221.out
                      have hnc89 := NB221_233.out
                      have hcz90_0 : wc.cell? ⟨gb233, 0, none⟩ = some (.int .i64 t230) := (blk_cell BK233.out 0).trans rfl
                      have hcz90_1 : wc.cell? ⟨gb233, 1, none⟩ = some (.int .i64 t231) := (blk_cell BK233.out 1).trans rfl
                      have hfz90_0 := blk_frozen BK233.out 0
                      have hfz90_1 := blk_frozen BK233.out 1
                      go_wp2_with (first | ((with_reducible refine gate_callee (f := 20) rfl ?_); refine goesL_ (some 63) rfl rfl Try.func20 (by kernel_rfl) rfl #[.agg #[.int .i64 t230, .int .i64 t231]] rfl (by (try simp only [List.map_toArray, List.map_cons, List.map_nil]); first | done | rfl | (simp only [List.length_drop, List.length_take]; rfl)) ?_; (with_reducible refine (galloonref03_Valid.calls kj40 t230 t231 true _ A77.out).mono ?_); rintro e w91 ⟨rfl, hb⟩; refine ⟨_, rfl, ?_⟩; have n0_ := Aside0.mk (blk_below (g := gb219) (o := .cells #[.int .i64 x220000_7, .int .i64 x220001_7] 23 (0, 0)) (by (with_reducible repeat (first | refine blk_drewN ?_ _ | refine blk_drew ?_ | refine blk_alloc ?_ _)); exact BK219.out) hb); have n1_ := Aside0.mk (blk_below (g := gb220) (o := .cells #[.int .i64 x221000_7, .int .i64 x221001_7] 23 (0, 0)) (by (with_reducible repeat (first | refine blk_drewN ?_ _ | refine blk_drew ?_ | refine blk_alloc ?_ _)); exact BK220.out) hb); have n2_ := Aside0.mk (blk_below (g := gb221) (o := .cells #[.int .i64 t226, .int .i64 t227] 23 (0, 0)) (by (with_reducible repeat (first | refine blk_drewN ?_ _ | refine blk_drew ?_ | refine blk_alloc ?_ _)); exact BK221.out) hb); have n3_ := Aside0.mk (blk_below (g := gb233) (o := .cells #[.int .i64 t230, .int .i64 t231] 23 (0, 0)) (by (with_reducible repeat (first | refine blk_drewN ?_ _ | refine blk_drew ?_ | refine blk_alloc ?_ _)); exact BK233.out) hb); have n4_ := Aside0.mk (below_step (by repeat (first | (with_reducible first | exact HB.out | apply below_alloc | apply pw_below_drewN | apply below_drew1 | refine below_set ?_ GE219.out | refine below_set ?_ GE220.out | refine below_set ?_ GE221.out | refine below_set ?_ GE233.out) | exact HB.out)) hb); clear BK219; clear BK220; clear BK221; clear BK233; clear HB; have BK219 := n0_; have BK220 := n1_; have BK221 := n2_; have BK233 := n3_; have HB := n4_; clear n0_ n1_ n2_ n3_ n4_; (try clear hb); (try clear hb2); (try clear hk); (try clear hi); have hnb92 := NB219_220.out; have hnc92 := NB220_219.out; have hnb93 := NB219_221.out; have hnc93 := NB221_219.out; have hcz94_0 : w91.cell? ⟨gb219, 0, none⟩ = some (.int .i64 x220000_7) := (blk_cell BK219.out 0).trans rfl; have hcz94_1 : w91.cell? ⟨gb219, 1, none⟩ = some (.int .i64 x220001_7) := (blk_cell BK219.out 1).trans rfl; have hfz94_0 := blk_frozen BK219.out 0; have hfz94_1 := blk_frozen BK219.out 1; have hcz95_0 : w91.cell? ⟨gb233, 0, none⟩ = some (.int .i64 t230) := (blk_cell BK233.out 0).trans rfl; have hcz95_1 : w91.cell? ⟨gb233, 1, none⟩ = some (.int .i64 t231) := (blk_cell BK233.out 1).trans rfl; have hfz95_0 := blk_frozen BK233.out 0; have hfz95_1 := blk_frozen BK233.out 1) | (go_at_call 29; (with_reducible refine (galloonref03_Less.calls x220000_7 x220001_7 t230 t231 true _ A79.out).mono ?_); rintro e w96 ⟨rfl, hb⟩; have n0_ := Aside0.mk (blk_below (g := gb219) (o := .cells #[.int .i64 x220000_7, .int .i64 x220001_7] 23 (0, 0)) (by (with_reducible repeat (first | refine blk_drewN ?_ _ | refine blk_drew ?_ | refine blk_alloc ?_ _)); exact BK219.out) hb); have n1_ := Aside0.mk (blk_below (g := gb220) (o := .cells #[.int .i64 x221000_7, .int .i64 x221001_7] 23 (0, 0)) (by (with_reducible repeat (first | refine blk_drewN ?_ _ | refine blk_drew ?_ | refine blk_alloc ?_ _)); exact BK220.out) hb); have n2_ := Aside0.mk (blk_below (g := gb221) (o := .cells #[.int .i64 t226, .int .i64 t227] 23 (0, 0)) (by (with_reducible repeat (first | refine blk_drewN ?_ _ | refine blk_drew ?_ | refine blk_alloc ?_ _)); exact BK221.out) hb); have n3_ := Aside0.mk (blk_below (g := gb233) (o := .cells #[.int .i64 t230, .int .i64 t231] 23 (0, 0)) (by (with_reducible repeat (first | refine blk_drewN ?_ _ | refine blk_drew ?_ | refine blk_alloc ?_ _)); exact BK233.out) hb); have n4_ := Aside0.mk (below_step (by repeat (first | (with_reducible first | exact HB.out | apply below_alloc | apply pw_below_drewN | apply below_drew1 | refine below_set ?_ GE219.out | refine below_set ?_ GE220.out | refine below_set ?_ GE221.out | refine below_set ?_ GE233.out) | exact HB.out)) hb); clear BK219; clear BK220; clear BK221; clear BK233; clear HB; have BK219 := n0_; have BK220 := n1_; have BK221 := n2_; have BK233 := n3_; have HB := n4_; clear n0_ n1_ n2_ n3_ n4_; (try clear hb); (try clear hb2); (try clear hk); (try clear hi); have hcz97_0 : w96.cell? ⟨gb233, 0, none⟩ = some (.int .i64 t230) := (blk_cell BK233.out 0).trans rfl; have hcz97_1 : w96.cell? ⟨gb233, 1, none⟩ = some (.int .i64 t231) := (blk_cell BK233.out 1).trans rfl; have hfz97_0 := blk_frozen BK233.out 0; have hfz97_1 := blk_frozen BK233.out 1; have hnb98 := NB220_221.out; have hnc98 := NB221_220.out; have hcz99_0 : w96.cell? ⟨gb220, 0, none⟩ = some (.int .i64 x221000_7) := (blk_cell BK220.out 0).trans rfl; have hcz99_1 : w96.cell? ⟨gb220, 1, none⟩ = some (.int .i64 x221001_7) := (blk_cell BK220.out 1).trans rfl; have hfz99_0 := blk_frozen BK220.out 0; have hfz99_1 := blk_frozen BK220.out 1) | (go_at_call 29; (with_reducible refine (galloonref03_Less.calls t230 t231 x221000_7 x221001_7 true _ A81.out).mono ?_); rintro e w100 ⟨rfl, hb⟩; have n0_ := Aside0.mk (blk_below (g := gb219) (o := .cells #[.int .i64 x220000_7, .int .i64 x220001_7] 23 (0, 0)) (by (with_reducible repeat (first | refine blk_drewN ?_ _ | refine blk_drew ?_ | refine blk_alloc ?_ _)); exact BK219.out) hb); have n1_ := Aside0.mk (blk_below (g := gb220) (o := .cells #[.int .i64 x221000_7, .int .i64 x221001_7] 23 (0, 0)) (by (with_reducible repeat (first | refine blk_drewN ?_ _ | refine blk_drew ?_ | refine blk_alloc ?_ _)); exact BK220.out) hb); have n2_ := Aside0.mk (blk_below (g := gb221) (o := .cells #[.int .i64 t226, .int .i64 t227] 23 (0, 0)) (by (with_reducible repeat (first | refine blk_drewN ?_ _ | refine blk_drew ?_ | refine blk_alloc ?_ _)); exact BK221.out) hb); have n3_ := Aside0.mk (blk_below (g := gb233) (o := .cells #[.int .i64 t230, .int .i64 t231] 23 (0, 0)) (by (with_reducible repeat (first | refine blk_drewN ?_ _ | refine blk_drew ?_ | refine blk_alloc ?_ _)); exact BK233.out) hb); have n4_ := Aside0.mk (below_step (by repeat (first | (with_reducible first | exact HB.out | apply below_alloc | apply pw_below_drewN | apply below_drew1 | refine below_set ?_ GE219.out | refine below_set ?_ GE220.out | refine below_set ?_ GE221.out | refine below_set ?_ GE233.out) | exact HB.out)) hb); clear BK219; clear BK220; clear BK221; clear BK233; clear HB; have BK219 := n0_; have BK220 := n1_; have BK221 := n2_; have BK233 := n3_; have HB := n4_; clear n0_ n1_ n2_ n3_ n4_; (try clear hb); (try clear hb2); (try clear hk); (try clear hi); have hcz101_0 : w100.cell? ⟨gb221, 0, none⟩ = some (.int .i64 t226) := (blk_cell BK221.out 0).trans rfl; have hcz101_1 : w100.cell? ⟨gb221, 1, none⟩ = some (.int .i64 t227) := (blk_cell BK221.out 1).trans rfl; have hfz101_0 := blk_frozen BK221.out 0; have hfz101_1 := blk_frozen BK221.out 1; have hcz102_0 : w100.cell? ⟨gb233, 0, none⟩ = some (.int .i64 t230) := (blk_cell BK233.out 0).trans rfl; have hcz102_1 : w100.cell? ⟨gb233, 1, none⟩ = some (.int .i64 t231) := (blk_cell BK233.out 1).trans rfl; have hfz102_0 := blk_frozen BK233.out 0; have hfz102_1 := blk_frozen BK233.out 1) | (go_at_call 31; (with_reducible refine (galloonref03_Simpler.calls t226 t227 t230 t231 false _ A84.out).mono ?_); rintro e w103 ⟨rfl, hb⟩; have n0_ := Aside0.mk (blk_below (g := gb219) (o := .cells #[.int .i64 x220000_7, .int .i64 x220001_7] 23 (0, 0)) (by (with_reducible repeat (first | refine blk_drewN ?_ _ | refine blk_drew ?_ | refine blk_alloc ?_ _)); exact BK219.out) hb); have n1_ := Aside0.mk (blk_below (g := gb220) (o := .cells #[.int .i64 x221000_7, .int .i64 x221001_7] 23 (0, 0)) (by (with_reducible repeat (first | refine blk_drewN ?_ _ | refine blk_drew ?_ | refine blk_alloc ?_ _)); exact BK220.out) hb); have n2_ := Aside0.mk (blk_below (g := gb221) (o := .cells #[.int .i64 t226, .int .i64 t227] 23 (0, 0)) (by (with_reducible repeat (first | refine blk_drewN ?_ _ | refine blk_drew ?_ | refine blk_alloc ?_ _)); exact BK221.out) hb); have n3_ := Aside0.mk (blk_below (g := gb233) (o := .cells #[.int .i64 t230, .int .i64 t231] 23 (0, 0)) (by (with_reducible repeat (first | refine blk_drewN ?_ _ | refine blk_drew ?_ | refine blk_alloc ?_ _)); exact BK233.out) hb); have n4_ := Aside0.mk (below_step (by repeat (first | (with_reducible first | exact HB.out | apply below_alloc | apply pw_below_drewN | apply below_drew1 | refine below_set ?_ GE219.out | refine below_set ?_ GE220.out | refine below_set ?_ GE221.out | refine below_set ?_ GE233.out) | exact HB.out)) hb); clear BK219; clear BK220; clear BK221; clear BK233; clear HB; have BK219 := n0_; have BK220 := n1_; have BK221 := n2_; have BK233 := n3_; have HB := n4_; clear n0_ n1_ n2_ n3_ n4_; (try clear hb); (try clear hb2); (try clear hk); (try clear hi)) | (go_at_call 21; (with_reducible refine (galloonlaw03_awake.calls kj40  t243 _ A86.out).mono ?_); rintro e w104 ⟨rfl, hb⟩; have n0_ := Aside0.mk (blk_below (g := gb219) (o := .cells #[.int .i64 x220000_7, .int .i64 x220001_7] 23 (0, 0)) (by (with_reducible repeat (first | refine blk_drewN ?_ _ | refine blk_drew ?_ | refine blk_alloc ?_ _)); exact BK219.out) hb); have n1_ := Aside0.mk (blk_below (g := gb220) (o := .cells #[.int .i64 x221000_7, .int .i64 x221001_7] 23 (0, 0)) (by (with_reducible repeat (first | refine blk_drewN ?_ _ | refine blk_drew ?_ | refine blk_alloc ?_ _)); exact BK220.out) hb); have n2_ := Aside0.mk (blk_below (g := gb221) (o := .cells #[.int .i64 t226, .int .i64 t227] 23 (0, 0)) (by (with_reducible repeat (first | refine blk_drewN ?_ _ | refine blk_drew ?_ | refine blk_alloc ?_ _)); exact BK221.out) hb); have n3_ := Aside0.mk (blk_below (g := gb233) (o := .cells #[.int .i64 t230, .int .i64 t231] 23 (0, 0)) (by (with_reducible repeat (first | refine blk_drewN ?_ _ | refine blk_drew ?_ | refine blk_alloc ?_ _)); exact BK233.out) hb); have n4_ := Aside0.mk (below_step (by repeat (first | (with_reducible first | exact HB.out | apply below_alloc | apply pw_below_drewN | apply below_drew1 | refine below_set ?_ GE219.out | refine below_set ?_ GE220.out | refine below_set ?_ GE221.out | refine below_set ?_ GE233.out) | exact HB.out)) hb); clear BK219; clear BK220; clear BK221; clear BK233; clear HB; have BK219 := n0_; have BK220 := n1_; have BK221 := n2_; have BK233 := n3_; have HB := n4_; clear n0_ n1_ n2_ n3_ n4_; (try clear hb); (try clear hb2); (try clear hk); (try clear hi)))
                      go_ret
                      exact ⟨by first | rfl | (simp [errW_none, errW_some] <;> rfl) | (simp [*, errW_none, errW_some] <;> rfl), by repeat (first | (with_reducible first | exact HB.out | apply below_alloc | apply pw_below_drewN | apply below_drew1 | refine below_set ?_ GE219.out | refine below_set ?_ GE220.out | refine below_set ?_ GE221.out | refine below_set ?_ GE233.out) | exact HB.out)⟩
                  · replace c83 := Bool.eq_false_iff.mpr c83
                    subst c83
                    have H1 : ((galloonlaw03_awake.f kj40).bind fun t244 => (some t244)) = some r := by rw [if_neg (show ¬ (false = true) by decide)] at H; exact H
                    clear H
                    have H := H1
                    clear H1
                    replace H := Option.bind_eq_some_iff.mp H
                    obtain ⟨t244, A1050, H⟩ := H
                    replace H : (some t244) = some r := H
                    have A105 := Aside0.mk A1050
                    clear A1050
                    obtain rfl := Option.some.inj H
                    have hnb106 := NB233_219.out
                    have hnc106 := NB219_233.out
                    have hnb107 := NB233_220.out
                    have hnc107 := NB220_233.out
                    have hnb108 := NB233_221.out
                    have hnc108 := NB221_233.out
                    have hcz109_0 : wc.cell? ⟨gb233, 0, none⟩ = some (.int .i64 t230) := (blk_cell BK233.out 0).trans rfl
                    have hcz109_1 : wc.cell? ⟨gb233, 1, none⟩ = some (.int .i64 t231) := (blk_cell BK233.out 1).trans rfl
                    have hfz109_0 := blk_frozen BK233.out 0
                    have hfz109_1 := blk_frozen BK233.out 1
                    go_wp2_with (first | ((with_reducible refine gate_callee (f := 20) rfl ?_); refine goesL_ (some 63) rfl rfl Try.func20 (by kernel_rfl) rfl #[.agg #[.int .i64 t230, .int .i64 t231]] rfl (by (try simp only [List.map_toArray, List.map_cons, List.map_nil]); first | done | rfl | (simp only [List.length_drop, List.length_take]; rfl)) ?_; (with_reducible refine (galloonref03_Valid.calls kj40 t230 t231 true _ A77.out).mono ?_); rintro e w110 ⟨rfl, hb⟩; refine ⟨_, rfl, ?_⟩; have n0_ := Aside0.mk (blk_below (g := gb219) (o := .cells #[.int .i64 x220000_7, .int .i64 x220001_7] 23 (0, 0)) (by (with_reducible repeat (first | refine blk_drewN ?_ _ | refine blk_drew ?_ | refine blk_alloc ?_ _)); exact BK219.out) hb); have n1_ := Aside0.mk (blk_below (g := gb220) (o := .cells #[.int .i64 x221000_7, .int .i64 x221001_7] 23 (0, 0)) (by (with_reducible repeat (first | refine blk_drewN ?_ _ | refine blk_drew ?_ | refine blk_alloc ?_ _)); exact BK220.out) hb); have n2_ := Aside0.mk (blk_below (g := gb221) (o := .cells #[.int .i64 t226, .int .i64 t227] 23 (0, 0)) (by (with_reducible repeat (first | refine blk_drewN ?_ _ | refine blk_drew ?_ | refine blk_alloc ?_ _)); exact BK221.out) hb); have n3_ := Aside0.mk (blk_below (g := gb233) (o := .cells #[.int .i64 t230, .int .i64 t231] 23 (0, 0)) (by (with_reducible repeat (first | refine blk_drewN ?_ _ | refine blk_drew ?_ | refine blk_alloc ?_ _)); exact BK233.out) hb); have n4_ := Aside0.mk (below_step (by repeat (first | (with_reducible first | exact HB.out | apply below_alloc | apply pw_below_drewN | apply below_drew1 | refine below_set ?_ GE219.out | refine below_set ?_ GE220.out | refine below_set ?_ GE221.out | refine below_set ?_ GE233.out) | exact HB.out)) hb); clear BK219; clear BK220; clear BK221; clear BK233; clear HB; have BK219 := n0_; have BK220 := n1_; have BK221 := n2_; have BK233 := n3_; have HB := n4_; clear n0_ n1_ n2_ n3_ n4_; (try clear hb); (try clear hb2); (try clear hk); (try clear hi); have hnb111 := NB219_220.out; have hnc111 := NB220_219.out; have hnb112 := NB219_221.out; have hnc112 := NB221_219.out; have hcz113_0 : w110.cell? ⟨gb219, 0, none⟩ = some (.int .i64 x220000_7) := (blk_cell BK219.out 0).trans rfl; have hcz113_1 : w110.cell? ⟨gb219, 1, none⟩ = some (.int .i64 x220001_7) := (blk_cell BK219.out 1).trans rfl; have hfz113_0 := blk_frozen BK219.out 0; have hfz113_1 := blk_frozen BK219.out 1; have hcz114_0 : w110.cell? ⟨gb233, 0, none⟩ = some (.int .i64 t230) := (blk_cell BK233.out 0).trans rfl; have hcz114_1 : w110.cell? ⟨gb233, 1, none⟩ = some (.int .i64 t231) := (blk_cell BK233.out 1).trans rfl; have hfz114_0 := blk_frozen BK233.out 0; have hfz114_1 := blk_frozen BK233.out 1) | (go_at_call 29; (with_reducible refine (galloonref03_Less.calls x220000_7 x220001_7 t230 t231 true _ A79.out).mono ?_); rintro e w115 ⟨rfl, hb⟩; have n0_ := Aside0.mk (blk_below (g := gb219) (o := .cells #[.int .i64 x220000_7, .int .i64 x220001_7] 23 (0, 0)) (by (with_reducible repeat (first | refine blk_drewN ?_ _ | refine blk_drew ?_ | refine blk_alloc ?_ _)); exact BK219.out) hb); have n1_ := Aside0.mk (blk_below (g := gb220) (o := .cells #[.int .i64 x221000_7, .int .i64 x221001_7] 23 (0, 0)) (by (with_reducible repeat (first | refine blk_drewN ?_ _ | refine blk_drew ?_ | refine blk_alloc ?_ _)); exact BK220.out) hb); have n2_ := Aside0.mk (blk_below (g := gb221) (o := .cells #[.int .i64 t226, .int .i64 t227] 23 (0, 0)) (by (with_reducible repeat (first | refine blk_drewN ?_ _ | refine blk_drew ?_ | refine blk_alloc ?_ _)); exact BK221.out) hb); have n3_ := Aside0.mk (blk_below (g := gb233) (o := .cells #[.int .i64 t230, .int .i64 t231] 23 (0, 0)) (by (with_reducible repeat (first | refine blk_drewN ?_ _ | refine blk_drew ?_ | refine blk_alloc ?_ _)); exact BK233.out) hb); have n4_ := Aside0.mk (below_step (by repeat (first | (with_reducible first | exact HB.out | apply below_alloc | apply pw_below_drewN | apply below_drew1 | refine below_set ?_ GE219.out | refine below_set ?_ GE220.out | refine below_set ?_ GE221.out | refine below_set ?_ GE233.out) | exact HB.out)) hb); clear BK219; clear BK220; clear BK221; clear BK233; clear HB; have BK219 := n0_; have BK220 := n1_; have BK221 := n2_; have BK233 := n3_; have HB := n4_; clear n0_ n1_ n2_ n3_ n4_; (try clear hb); (try clear hb2); (try clear hk); (try clear hi); have hcz116_0 : w115.cell? ⟨gb233, 0, none⟩ = some (.int .i64 t230) := (blk_cell BK233.out 0).trans rfl; have hcz116_1 : w115.cell? ⟨gb233, 1, none⟩ = some (.int .i64 t231) := (blk_cell BK233.out 1).trans rfl; have hfz116_0 := blk_frozen BK233.out 0; have hfz116_1 := blk_frozen BK233.out 1; have hnb117 := NB220_221.out; have hnc117 := NB221_220.out; have hcz118_0 : w115.cell? ⟨gb220, 0, none⟩ = some (.int .i64 x221000_7) := (blk_cell BK220.out 0).trans rfl; have hcz118_1 : w115.cell? ⟨gb220, 1, none⟩ = some (.int .i64 x221001_7) := (blk_cell BK220.out 1).trans rfl; have hfz118_0 := blk_frozen BK220.out 0; have hfz118_1 := blk_frozen BK220.out 1) | (go_at_call 29; (with_reducible refine (galloonref03_Less.calls t230 t231 x221000_7 x221001_7 true _ A81.out).mono ?_); rintro e w119 ⟨rfl, hb⟩; have n0_ := Aside0.mk (blk_below (g := gb219) (o := .cells #[.int .i64 x220000_7, .int .i64 x220001_7] 23 (0, 0)) (by (with_reducible repeat (first | refine blk_drewN ?_ _ | refine blk_drew ?_ | refine blk_alloc ?_ _)); exact BK219.out) hb); have n1_ := Aside0.mk (blk_below (g := gb220) (o := .cells #[.int .i64 x221000_7, .int .i64 x221001_7] 23 (0, 0)) (by (with_reducible repeat (first | refine blk_drewN ?_ _ | refine blk_drew ?_ | refine blk_alloc ?_ _)); exact BK220.out) hb); have n2_ := Aside0.mk (blk_below (g := gb221) (o := .cells #[.int .i64 t226, .int .i64 t227] 23 (0, 0)) (by (with_reducible repeat (first | refine blk_drewN ?_ _ | refine blk_drew ?_ | refine blk_alloc ?_ _)); exact BK221.out) hb); have n3_ := Aside0.mk (blk_below (g := gb233) (o := .cells #[.int .i64 t230, .int .i64 t231] 23 (0, 0)) (by (with_reducible repeat (first | refine blk_drewN ?_ _ | refine blk_drew ?_ | refine blk_alloc ?_ _)); exact BK233.out) hb); have n4_ := Aside0.mk (below_step (by repeat (first | (with_reducible first | exact HB.out | apply below_alloc | apply pw_below_drewN | apply below_drew1 | refine below_set ?_ GE219.out | refine below_set ?_ GE220.out | refine below_set ?_ GE221.out | refine below_set ?_ GE233.out) | exact HB.out)) hb); clear BK219; clear BK220; clear BK221; clear BK233; clear HB; have BK219 := n0_; have BK220 := n1_; have BK221 := n2_; have BK233 := n3_; have HB := n4_; clear n0_ n1_ n2_ n3_ n4_; (try clear hb); (try clear hb2); (try clear hk); (try clear hi)) | (go_at_call 21; (with_reducible refine (galloonlaw03_awake.calls kj40  t244 _ A105.out).mono ?_); rintro e w120 ⟨rfl, hb⟩; have n0_ := Aside0.mk (blk_below (g := gb219) (o := .cells #[.int .i64 x220000_7, .int .i64 x220001_7] 23 (0, 0)) (by (with_reducible repeat (first | refine blk_drewN ?_ _ | refine blk_drew ?_ | refine blk_alloc ?_ _)); exact BK219.out) hb); have n1_ := Aside0.mk (blk_below (g := gb220) (o := .cells #[.int .i64 x221000_7, .int .i64 x221001_7] 23 (0, 0)) (by (with_reducible repeat (first | refine blk_drewN ?_ _ | refine blk_drew ?_ | refine blk_alloc ?_ _)); exact BK220.out) hb); have n2_ := Aside0.mk (blk_below (g := gb221) (o := .cells #[.int .i64 t226, .int .i64 t227] 23 (0, 0)) (by (with_reducible repeat (first | refine blk_drewN ?_ _ | refine blk_drew ?_ | refine blk_alloc ?_ _)); exact BK221.out) hb); have n3_ := Aside0.mk (blk_below (g := gb233) (o := .cells #[.int .i64 t230, .int .i64 t231] 23 (0, 0)) (by (with_reducible repeat (first | refine blk_drewN ?_ _ | refine blk_drew ?_ | refine blk_alloc ?_ _)); exact BK233.out) hb); have n4_ := Aside0.mk (below_step (by repeat (first | (with_reducible first | exact HB.out | apply below_alloc | apply pw_below_drewN | apply below_drew1 | refine below_set ?_ GE219.out | refine below_set ?_ GE220.out | refine below_set ?_ GE221.out | refine below_set ?_ GE233.out) | exact HB.out)) hb); clear BK219; clear BK220; clear BK221; clear BK233; clear HB; have BK219 := n0_; have BK220 := n1_; have BK221 := n2_; have BK233 := n3_; have HB := n4_; clear n0_ n1_ n2_ n3_ n4_; (try clear hb); (try clear hb2); (try clear hk); (try clear hi)))
                    go_ret
                    exact ⟨by first | rfl | (simp [errW_none, errW_some] <;> rfl) | (simp [*, errW_none, errW_some] <;> rfl), by repeat (first | (with_reducible first | exact HB.out | apply below_alloc | apply pw_below_drewN | apply below_drew1 | refine below_set ?_ GE219.out | refine below_set ?_ GE220.out | refine below_set ?_ GE221.out | refine below_set ?_ GE233.out) | exact HB.out)⟩
                · replace c82 := Bool.eq_false_iff.mpr c82
                  subst c82
                  have H1 : (some false) = some r := by rw [if_neg (show ¬ (false = true) by decide)] at H; exact H
                  clear H
                  have H := H1
                  clear H1
                  obtain rfl := Option.some.inj H
                  exact absurd hr.out (by decide)
              · replace c80 := Bool.eq_false_iff.mpr c80
                subst c80
                have H1 : (some false) = some r := by rw [if_neg (show ¬ (false = true) by decide)] at H; exact H
                clear H
                have H := H1
                clear H1
                obtain rfl := Option.some.inj H
                exact absurd hr.out (by decide)
            · replace c78 := Bool.eq_false_iff.mpr c78
              subst c78
              have H1 : (some false) = some r := by rw [if_neg (show ¬ (false = true) by decide)] at H; exact H
              clear H
              have H := H1
              clear H1
              obtain rfl := Option.some.inj H
              exact absurd hr.out (by decide)
          · rw [if_neg c76] at H
            have c76b0 : (t232 == 0) = false := beq_eq_false_iff_ne.mpr c76
            have c76b1 : (t232 != 0) = true := bne_iff_ne.mpr c76
            by_cases c121 : t232 = 2
            · rw [if_pos c121] at H
              have c121b0 : (t232 == 2) = true := beq_iff_eq.mpr c121
              have c121b1 : (t232 != 2) = false := bne_eq_false_iff_eq.mpr c121
              clear c121
              by_cases c122 : (x220000_7 == x221000_7 && (x220001_7 == x221001_7)) = true
              · rw [if_pos c122] at H
                have c122b0 : (x220000_7 == x221000_7 && (x220001_7 == x221001_7)) = true := c122
                (try (have c122b1 : decide (x220000_7 = x221000_7 && (x220001_7 == x221001_7)) = true := by simpa using c122))
                (try (have c122b2 : (x220000_7 == x221000_7 && (x220001_7 == x221001_7)) = true := by simpa using c122))
                clear c122
                by_cases c123 : x10_40 = true
                · subst c123
                  have H1 : (some false) = some r := by rw [if_pos rfl] at H; exact H
                  clear H
                  have H := H1
                  clear H1
                  obtain rfl := Option.some.inj H
                  exact absurd hr.out (by decide)
                · replace c123 := Bool.eq_false_iff.mpr c123
                  subst c123
                  have H1 : ((galloonlaw03_awake.f kj40).bind fun t236 => (some t236)) = some r := by rw [if_neg (show ¬ (false = true) by decide)] at H; exact H
                  clear H
                  have H := H1
                  clear H1
                  replace H := Option.bind_eq_some_iff.mp H
                  obtain ⟨t236, A1240, H⟩ := H
                  replace H : (some t236) = some r := H
                  have A124 := Aside0.mk A1240
                  clear A1240
                  obtain rfl := Option.some.inj H
                  have hnb125 := NB219_220.out
                  have hnc125 := NB220_219.out
                  have hnb126 := NB219_221.out
                  have hnc126 := NB221_219.out
                  have hnb127 := NB219_233.out
                  have hnc127 := NB233_219.out
                  have hcz128_0 : wc.cell? ⟨gb219, 0, none⟩ = some (.int .i64 x220000_7) := (blk_cell BK219.out 0).trans rfl
                  have hcz128_1 : wc.cell? ⟨gb219, 1, none⟩ = some (.int .i64 x220001_7) := (blk_cell BK219.out 1).trans rfl
                  have hfz128_0 := blk_frozen BK219.out 0
                  have hfz128_1 := blk_frozen BK219.out 1
                  have hnb129 := NB220_221.out
                  have hnc129 := NB221_220.out
                  have hnb130 := NB220_233.out
                  have hnc130 := NB233_220.out
                  have hcz131_0 : wc.cell? ⟨gb220, 0, none⟩ = some (.int .i64 x221000_7) := (blk_cell BK220.out 0).trans rfl
                  have hcz131_1 : wc.cell? ⟨gb220, 1, none⟩ = some (.int .i64 x221001_7) := (blk_cell BK220.out 1).trans rfl
                  have hfz131_0 := blk_frozen BK220.out 0
                  have hfz131_1 := blk_frozen BK220.out 1
                  go_wp2_with (first | (go_at_call 21; (with_reducible refine (galloonlaw03_awake.calls kj40  t236 _ A124.out).mono ?_); rintro e w132 ⟨rfl, hb⟩; have n0_ := Aside0.mk (blk_below (g := gb219) (o := .cells #[.int .i64 x220000_7, .int .i64 x220001_7] 23 (0, 0)) (by (with_reducible repeat (first | refine blk_drewN ?_ _ | refine blk_drew ?_ | refine blk_alloc ?_ _)); exact BK219.out) hb); have n1_ := Aside0.mk (blk_below (g := gb220) (o := .cells #[.int .i64 x221000_7, .int .i64 x221001_7] 23 (0, 0)) (by (with_reducible repeat (first | refine blk_drewN ?_ _ | refine blk_drew ?_ | refine blk_alloc ?_ _)); exact BK220.out) hb); have n2_ := Aside0.mk (blk_below (g := gb221) (o := .cells #[.int .i64 t226, .int .i64 t227] 23 (0, 0)) (by (with_reducible repeat (first | refine blk_drewN ?_ _ | refine blk_drew ?_ | refine blk_alloc ?_ _)); exact BK221.out) hb); have n3_ := Aside0.mk (blk_below (g := gb233) (o := .cells #[.int .i64 t230, .int .i64 t231] 23 (0, 0)) (by (with_reducible repeat (first | refine blk_drewN ?_ _ | refine blk_drew ?_ | refine blk_alloc ?_ _)); exact BK233.out) hb); have n4_ := Aside0.mk (below_step (by repeat (first | (with_reducible first | exact HB.out | apply below_alloc | apply pw_below_drewN | apply below_drew1 | refine below_set ?_ GE219.out | refine below_set ?_ GE220.out | refine below_set ?_ GE221.out | refine below_set ?_ GE233.out) | exact HB.out)) hb); clear BK219; clear BK220; clear BK221; clear BK233; clear HB; have BK219 := n0_; have BK220 := n1_; have BK221 := n2_; have BK233 := n3_; have HB := n4_; clear n0_ n1_ n2_ n3_ n4_; (try clear hb); (try clear hb2); (try clear hk); (try clear hi)))
                  go_ret
                  exact ⟨by first | rfl | (simp [errW_none, errW_some] <;> rfl) | (simp [*, errW_none, errW_some] <;> rfl), by repeat (first | (with_reducible first | exact HB.out | apply below_alloc | apply pw_below_drewN | apply below_drew1 | refine below_set ?_ GE219.out | refine below_set ?_ GE220.out | refine below_set ?_ GE221.out | refine below_set ?_ GE233.out) | exact HB.out)⟩
              · rw [if_neg c122] at H
                have c122b0 : (x220000_7 == x221000_7 && (x220001_7 == x221001_7)) = false := by simpa using c122
                (try (have c122b1 : decide (x220000_7 = x221000_7 && (x220001_7 == x221001_7)) = false := by simpa using c122))
                (try (have c122b2 : (x220000_7 == x221000_7 && (x220001_7 == x221001_7)) = false := by simpa using c122))
                (try (have c122b3 : ¬ (x220000_7 = x221000_7 && (x220001_7 == x221001_7)) := by simpa using c122))
                clear c122
                by_cases c133 : t232 = 6
                · rw [if_pos c133] at H
                  have c133b0 : (t232 == 6) = true := beq_iff_eq.mpr c133
                  have c133b1 : (t232 != 6) = false := bne_eq_false_iff_eq.mpr c133
                  clear c133
                  by_cases c134 : (!(x220000_7 == x221000_7) || (!(x220001_7 == x221001_7))) = true
                  · rw [if_pos c134] at H
                    have c134b0 : (!(x220000_7 == x221000_7) || (!(x220001_7 == x221001_7))) = true := c134
                    clear c134
                    by_cases c135 : x10_40 = true
                    · subst c135
                      have H1 : (some false) = some r := by rw [if_pos rfl] at H; exact H
                      clear H
                      have H := H1
                      clear H1
                      obtain rfl := Option.some.inj H
                      exact absurd hr.out (by decide)
                    · replace c135 := Bool.eq_false_iff.mpr c135
                      subst c135
                      have H1 : ((galloonlaw03_awake.f kj40).bind fun t237 => (some t237)) = some r := by rw [if_neg (show ¬ (false = true) by decide)] at H; exact H
                      clear H
                      have H := H1
                      clear H1
                      replace H := Option.bind_eq_some_iff.mp H
                      obtain ⟨t237, A1360, H⟩ := H
                      replace H : (some t237) = some r := H
                      have A136 := Aside0.mk A1360
                      clear A1360
                      obtain rfl := Option.some.inj H
                      have hnb137 := NB219_220.out
                      have hnc137 := NB220_219.out
                      have hnb138 := NB219_221.out
                      have hnc138 := NB221_219.out
                      have hnb139 := NB219_233.out
                      have hnc139 := NB233_219.out
                      have hcz140_0 : wc.cell? ⟨gb219, 0, none⟩ = some (.int .i64 x220000_7) := (blk_cell BK219.out 0).trans rfl
                      have hcz140_1 : wc.cell? ⟨gb219, 1, none⟩ = some (.int .i64 x220001_7) := (blk_cell BK219.out 1).trans rfl
                      have hfz140_0 := blk_frozen BK219.out 0
                      have hfz140_1 := blk_frozen BK219.out 1
                      have hnb141 := NB220_221.out
                      have hnc141 := NB221_220.out
                      have hnb142 := NB220_233.out
                      have hnc142 := NB233_220.out
                      have hcz143_0 : wc.cell? ⟨gb220, 0, none⟩ = some (.int .i64 x221000_7) := (blk_cell BK220.out 0).trans rfl
                      have hcz143_1 : wc.cell? ⟨gb220, 1, none⟩ = some (.int .i64 x221001_7) := (blk_cell BK220.out 1).trans rfl
                      have hfz143_0 := blk_frozen BK220.out 0
                      have hfz143_1 := blk_frozen BK220.out 1
                      go_wp2_with (first | (go_at_call 21; (with_reducible refine (galloonlaw03_awake.calls kj40  t237 _ A136.out).mono ?_); rintro e w144 ⟨rfl, hb⟩; have n0_ := Aside0.mk (blk_below (g := gb219) (o := .cells #[.int .i64 x220000_7, .int .i64 x220001_7] 23 (0, 0)) (by (with_reducible repeat (first | refine blk_drewN ?_ _ | refine blk_drew ?_ | refine blk_alloc ?_ _)); exact BK219.out) hb); have n1_ := Aside0.mk (blk_below (g := gb220) (o := .cells #[.int .i64 x221000_7, .int .i64 x221001_7] 23 (0, 0)) (by (with_reducible repeat (first | refine blk_drewN ?_ _ | refine blk_drew ?_ | refine blk_alloc ?_ _)); exact BK220.out) hb); have n2_ := Aside0.mk (blk_below (g := gb221) (o := .cells #[.int .i64 t226, .int .i64 t227] 23 (0, 0)) (by (with_reducible repeat (first | refine blk_drewN ?_ _ | refine blk_drew ?_ | refine blk_alloc ?_ _)); exact BK221.out) hb); have n3_ := Aside0.mk (blk_below (g := gb233) (o := .cells #[.int .i64 t230, .int .i64 t231] 23 (0, 0)) (by (with_reducible repeat (first | refine blk_drewN ?_ _ | refine blk_drew ?_ | refine blk_alloc ?_ _)); exact BK233.out) hb); have n4_ := Aside0.mk (below_step (by repeat (first | (with_reducible first | exact HB.out | apply below_alloc | apply pw_below_drewN | apply below_drew1 | refine below_set ?_ GE219.out | refine below_set ?_ GE220.out | refine below_set ?_ GE221.out | refine below_set ?_ GE233.out) | exact HB.out)) hb); clear BK219; clear BK220; clear BK221; clear BK233; clear HB; have BK219 := n0_; have BK220 := n1_; have BK221 := n2_; have BK233 := n3_; have HB := n4_; clear n0_ n1_ n2_ n3_ n4_; (try clear hb); (try clear hb2); (try clear hk); (try clear hi)))
                      go_ret
                      exact ⟨by first | rfl | (simp [errW_none, errW_some] <;> rfl) | (simp [*, errW_none, errW_some] <;> rfl), by repeat (first | (with_reducible first | exact HB.out | apply below_alloc | apply pw_below_drewN | apply below_drew1 | refine below_set ?_ GE219.out | refine below_set ?_ GE220.out | refine below_set ?_ GE221.out | refine below_set ?_ GE233.out) | exact HB.out)⟩
                  · rw [if_neg c134] at H
                    have c134b0 : (!(x220000_7 == x221000_7) || (!(x220001_7 == x221001_7))) = false := by simpa using c134
                    clear c134
                    obtain rfl := Option.some.inj H
                    exact absurd hr.out (by decide)
                · rw [if_neg c133] at H
                  have c133b0 : (t232 == 6) = false := beq_eq_false_iff_ne.mpr c133
                  have c133b1 : (t232 != 6) = true := bne_iff_ne.mpr c133
                  obtain rfl := Option.some.inj H
                  exact absurd hr.out (by decide)
            · rw [if_neg c121] at H
              have c121b0 : (t232 == 2) = false := beq_eq_false_iff_ne.mpr c121
              have c121b1 : (t232 != 2) = true := bne_iff_ne.mpr c121
              by_cases c145 : t232 = 6
              · rw [if_pos c145] at H
                have c145b0 : (t232 == 6) = true := beq_iff_eq.mpr c145
                have c145b1 : (t232 != 6) = false := bne_eq_false_iff_eq.mpr c145
                clear c145
                by_cases c146 : (!(x220000_7 == x221000_7) || (!(x220001_7 == x221001_7))) = true
                · rw [if_pos c146] at H
                  have c146b0 : (!(x220000_7 == x221000_7) || (!(x220001_7 == x221001_7))) = true := c146
                  clear c146
                  by_cases c147 : x10_40 = true
                  · subst c147
                    have H1 : (some false) = some r := by rw [if_pos rfl] at H; exact H
                    clear H
                    have H := H1
                    clear H1
                    obtain rfl := Option.some.inj H
                    exact absurd hr.out (by decide)
                  · replace c147 := Bool.eq_false_iff.mpr c147
                    subst c147
                    have H1 : ((galloonlaw03_awake.f kj40).bind fun t238 => (some t238)) = some r := by rw [if_neg (show ¬ (false = true) by decide)] at H; exact H
                    clear H
                    have H := H1
                    clear H1
                    replace H := Option.bind_eq_some_iff.mp H
                    obtain ⟨t238, A1480, H⟩ := H
                    replace H : (some t238) = some r := H
                    have A148 := Aside0.mk A1480
                    clear A1480
                    obtain rfl := Option.some.inj H
                    have hnb149 := NB219_220.out
                    have hnc149 := NB220_219.out
                    have hnb150 := NB219_221.out
                    have hnc150 := NB221_219.out
                    have hnb151 := NB219_233.out
                    have hnc151 := NB233_219.out
                    have hcz152_0 : wc.cell? ⟨gb219, 0, none⟩ = some (.int .i64 x220000_7) := (blk_cell BK219.out 0).trans rfl
                    have hcz152_1 : wc.cell? ⟨gb219, 1, none⟩ = some (.int .i64 x220001_7) := (blk_cell BK219.out 1).trans rfl
                    have hfz152_0 := blk_frozen BK219.out 0
                    have hfz152_1 := blk_frozen BK219.out 1
                    have hnb153 := NB220_221.out
                    have hnc153 := NB221_220.out
                    have hnb154 := NB220_233.out
                    have hnc154 := NB233_220.out
                    have hcz155_0 : wc.cell? ⟨gb220, 0, none⟩ = some (.int .i64 x221000_7) := (blk_cell BK220.out 0).trans rfl
                    have hcz155_1 : wc.cell? ⟨gb220, 1, none⟩ = some (.int .i64 x221001_7) := (blk_cell BK220.out 1).trans rfl
                    have hfz155_0 := blk_frozen BK220.out 0
                    have hfz155_1 := blk_frozen BK220.out 1
                    go_wp2_with (first | (go_at_call 21; (with_reducible refine (galloonlaw03_awake.calls kj40  t238 _ A148.out).mono ?_); rintro e w156 ⟨rfl, hb⟩; have n0_ := Aside0.mk (blk_below (g := gb219) (o := .cells #[.int .i64 x220000_7, .int .i64 x220001_7] 23 (0, 0)) (by (with_reducible repeat (first | refine blk_drewN ?_ _ | refine blk_drew ?_ | refine blk_alloc ?_ _)); exact BK219.out) hb); have n1_ := Aside0.mk (blk_below (g := gb220) (o := .cells #[.int .i64 x221000_7, .int .i64 x221001_7] 23 (0, 0)) (by (with_reducible repeat (first | refine blk_drewN ?_ _ | refine blk_drew ?_ | refine blk_alloc ?_ _)); exact BK220.out) hb); have n2_ := Aside0.mk (blk_below (g := gb221) (o := .cells #[.int .i64 t226, .int .i64 t227] 23 (0, 0)) (by (with_reducible repeat (first | refine blk_drewN ?_ _ | refine blk_drew ?_ | refine blk_alloc ?_ _)); exact BK221.out) hb); have n3_ := Aside0.mk (blk_below (g := gb233) (o := .cells #[.int .i64 t230, .int .i64 t231] 23 (0, 0)) (by (with_reducible repeat (first | refine blk_drewN ?_ _ | refine blk_drew ?_ | refine blk_alloc ?_ _)); exact BK233.out) hb); have n4_ := Aside0.mk (below_step (by repeat (first | (with_reducible first | exact HB.out | apply below_alloc | apply pw_below_drewN | apply below_drew1 | refine below_set ?_ GE219.out | refine below_set ?_ GE220.out | refine below_set ?_ GE221.out | refine below_set ?_ GE233.out) | exact HB.out)) hb); clear BK219; clear BK220; clear BK221; clear BK233; clear HB; have BK219 := n0_; have BK220 := n1_; have BK221 := n2_; have BK233 := n3_; have HB := n4_; clear n0_ n1_ n2_ n3_ n4_; (try clear hb); (try clear hb2); (try clear hk); (try clear hi)))
                    go_ret
                    exact ⟨by first | rfl | (simp [errW_none, errW_some] <;> rfl) | (simp [*, errW_none, errW_some] <;> rfl), by repeat (first | (with_reducible first | exact HB.out | apply below_alloc | apply pw_below_drewN | apply below_drew1 | refine below_set ?_ GE219.out | refine below_set ?_ GE220.out | refine below_set ?_ GE221.out | refine below_set ?_ GE233.out) | exact HB.out)⟩
                · rw [if_neg c146] at H
                  have c146b0 : (!(x220000_7 == x221000_7) || (!(x220001_7 == x221001_7))) = false := by simpa using c146
                  clear c146
                  obtain rfl := Option.some.inj H
                  exact absurd hr.out (by decide)
              · rw [if_neg c145] at H
                have c145b0 : (t232 == 6) = false := beq_eq_false_iff_ne.mpr c145
                have c145b1 : (t232 != 6) = true := bne_iff_ne.mpr c145
                obtain rfl := Option.some.inj H
                exact absurd hr.out (by decide)

/-- THE ONE PURE STATEMENT of galloonlaw03_YardSimple: yours. -/
def galloonlaw03_YardSimple.Pure : Prop := ∀ (a0_0 : Int) (a0_1 : Int) (a1_0 : Int) (a1_1 : Int) (a2_0 : Int) (a2_1 : Int), (Lit.int .i64 a0_0).wf = true → (Lit.int .i64 a0_1).wf = true → (Lit.int .i64 a1_0).wf = true → (Lit.int .i64 a1_1).wf = true → (Lit.int .i64 a2_0).wf = true → (Lit.int .i64 a2_1).wf = true → ∃ k, galloonlaw03_YardSimple.f k a0_0 a0_1 a1_0 a1_1 a2_0 a2_1 = some true
theorem galloonlaw03_YardSimple.walk (P : galloonlaw03_YardSimple.Pure) (a0_0 : Int) (a0_1 : Int) (a1_0 : Int) (a1_1 : Int) (a2_0 : Int) (a2_1 : Int) (w : World) (w0_0 : (Lit.int .i64 a0_0).wf = true) (w0_1 : (Lit.int .i64 a0_1).wf = true) (w1_0 : (Lit.int .i64 a1_0).wf = true) (w1_1 : (Lit.int .i64 a1_1).wf = true) (w2_0 : (Lit.int .i64 a2_0).wf = true) (w2_1 : (Lit.int .i64 a2_1).wf = true) :
    Calls Try.prog 5 #[.agg #[.int .i64 a0_0, .int .i64 a0_1], .agg #[.int .i64 a1_0, .int .i64 a1_1], .agg #[.int .i64 a2_0, .int .i64 a2_1]] w fun e w' => e = .returned (.bool true) ∧ Below w.heap.size w w' := by
  obtain ⟨k, h⟩ := P a0_0 a0_1 a1_0 a1_1 a2_0 a2_1 w0_0 w0_1 w1_0 w1_1 w2_0 w2_1
  refine (galloonlaw03_YardSimple.calls k a0_0 a0_1 a1_0 a1_1 a2_0 a2_1 true w h ⟨rfl⟩).mono ?_
  rintro e w' ⟨rfl, hd⟩
  exact ⟨rfl, hd⟩

end Go.Proofs.Ythjodhmkmjabbaa.PY
