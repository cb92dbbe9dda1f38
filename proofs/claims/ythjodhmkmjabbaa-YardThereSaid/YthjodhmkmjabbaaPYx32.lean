-- Made by the session's own driver (wip/tools/p2.py) out of the translation; Lean checks it.
import Derived.Test.YthjodhmkmjabbaaPYx0
import Derived.Test.YthjodhmkmjabbaaPYx1
import Derived.Test.YthjodhmkmjabbaaPYx3
import Derived.Test.YthjodhmkmjabbaaPYx7
import Derived.Test.YthjodhmkmjabbaaPYx10
import Derived.Test.YthjodhmkmjabbaaGFold
import Derived.Test.YthjodhmkmjabbaaGFollow
import Derived.Test.YthjodhmkmjabbaaGPath
namespace Go.Proofs.Ythjodhmkmjabbaa.PY
open Go.RowKit Go.Proofs.YthjodhmkmjabbaaW.PrintWords Go.Proofs.YthjodhmkmjabbaaW.PrintLast Go.Proofs.YthjodhmkmjabbaaW.PrintMore
attribute [local go_sem] max2_int min2_int max_two min_two max_three min_three max_four min_four   -- for this text's walks alone
set_option linter.unusedVariables false
set_option linter.unusedSimpArgs false

attribute [local go_sem high] eqA23
/-! ### galloonlaw03_YardThere: function 13 -/
mutual
def galloonlaw03_YardThere.j0 : Nat → List Int → Bool → Int → Int → Option (Bool)
  | 0, _, _, _, _ => none
  | k + 1, x3, x38, x491000, x491001 => if x38 = true then (some false) else (if x491001 = 1 then ((galloonlaw03_awake.f k).bind fun t501 => (some t501)) else (galloonlaw03_YardThere.l0 k x3 0 0 x491000 x491001))
def galloonlaw03_YardThere.l0 : Nat → List Int → Int → Int → Int → Int → Option (Bool)
  | 0, _, _, _, _, _ => none
  | k + 1, x3, x7, x8, x491000, x491001 => if x8 < (x3.length : Int) then (if 0 ≤ x8 then (if (rd x3 x8) < 1 then (some false) else (if (rd x3 x8) > 1000000 then (some false) else (galloonlaw03_YardThere.l0 k x3 (wrap64 (x7 + (rd x3 x8))) (wrap64 (x8 + 1)) x491000 x491001))) else (none)) else ((yard_Path.f k x491000 x491001).bind fun bt505 => ((galloonlaw03_rest.f x491000 x491001).bind fun bt507 => ((yard_Path.f k bt507.1 bt507.2).bind fun bt509 => (if bt505.2 = bt509.2 then (if bt505.2 = 0 then ((yard_Follow.f k bt505.1).bind fun bt512 => (if (bt505.1.size : Int) = (wrap64 (x7 - 2)) then (if (bt509.1.size : Int) = (bt505.1.size : Int) then (if bt512.2.2 = 0 then (galloonlaw03_YardThere.j2 k bt505.1 bt509.1 (!(bt512.1 == x491000) || (!(bt512.2.1 == x491001)))) else (galloonlaw03_YardThere.j2 k bt505.1 bt509.1 true)) else (galloonlaw03_YardThere.j2 k bt505.1 bt509.1 true)) else (galloonlaw03_YardThere.j2 k bt505.1 bt509.1 true))) else (if bt505.2 = 5 then (if (wrap64 (x7 - 2)) > 200 then ((galloonlaw03_awake.f k).bind fun t511 => (some t511)) else (some false)) else (some false))) else (some false)))))
def galloonlaw03_YardThere.j2 : Nat → ByteArray → ByteArray → Bool → Option (Bool)
  | 0, _, _, _ => none
  | k + 1, x9, x11, x118 => if x118 = true then (some false) else (galloonlaw03_YardThere.l1 k x9 x11 0)
def galloonlaw03_YardThere.l1 : Nat → ByteArray → ByteArray → Int → Option (Bool)
  | 0, _, _, _ => none
  | k + 1, x9, x11, x15 => if x15 < (x9.size : Int) then (if 0 ≤ x15 then (if x15 < (x11.size : Int) then (if (bt x9 x15) = (bt x11 x15) then (some false) else (galloonlaw03_YardThere.l1 k x9 x11 (wrap64 (x15 + 1)))) else (none)) else (none)) else ((galloonlaw03_awake.f k).bind fun t516 => (some t516))
end
def galloonlaw03_YardThere.f (k : Nat) (a0_0 : Int) (a0_1 : Int) : Option (Bool) := (galloonlaw03_tame.f k a0_0 a0_1 1000000).bind fun bt491 => ((yard_Quotients.f k bt491.1 bt491.2).bind fun bt493 => ((yard_Fold.f k bt493.1).bind fun bt497 => (if bt493.2 = 0 then (if bt497.2.2 = 0 then (galloonlaw03_YardThere.j0 k bt493.1 (!(bt497.1 == bt491.1) || (!(bt497.2.1 == bt491.2))) bt491.1 bt491.2) else (galloonlaw03_YardThere.j0 k bt493.1 true bt491.1 bt491.2)) else (galloonlaw03_YardThere.j0 k bt493.1 true bt491.1 bt491.2))))
theorem galloonlaw03_YardThere.mono_l : ∀ k, (∀ y0 y1 y2 y3, LeO (galloonlaw03_YardThere.j0 k y0 y1 y2 y3) (galloonlaw03_YardThere.j0 (k + 1) y0 y1 y2 y3)) ∧ (∀ y0 y1 y2 y3 y4, LeO (galloonlaw03_YardThere.l0 k y0 y1 y2 y3 y4) (galloonlaw03_YardThere.l0 (k + 1) y0 y1 y2 y3 y4)) ∧ (∀ y0 y1 y2, LeO (galloonlaw03_YardThere.j2 k y0 y1 y2) (galloonlaw03_YardThere.j2 (k + 1) y0 y1 y2)) ∧ (∀ y0 y1 y2, LeO (galloonlaw03_YardThere.l1 k y0 y1 y2) (galloonlaw03_YardThere.l1 (k + 1) y0 y1 y2))
  | 0 => ⟨fun _ _ _ _ r h => by simp [galloonlaw03_YardThere.j0] at h, fun _ _ _ _ _ r h => by simp [galloonlaw03_YardThere.l0] at h, fun _ _ _ r h => by simp [galloonlaw03_YardThere.j2] at h, fun _ _ _ r h => by simp [galloonlaw03_YardThere.l1] at h⟩
  | k + 1 => by
    obtain ⟨ih0, ih1, ih2, ih3⟩ := galloonlaw03_YardThere.mono_l k
    refine ⟨?_, ?_, ?_, ?_⟩
    · intro y0 y1 y2 y3
      unfold galloonlaw03_YardThere.j0
      repeat' first
      | (with_reducible exact ih0 _ _ _ _)
      | (with_reducible exact ih1 _ _ _ _ _)
      | (with_reducible exact ih2 _ _ _)
      | (with_reducible exact ih3 _ _ _)
      | (with_reducible exact galloonlaw03_awake.mono _)
      | (with_reducible exact galloonlaw03_tame.mono _ _ _ _)
      | (with_reducible exact yard_Fold.mono _ _)
      | (with_reducible exact yard_Follow.mono _ _)
      | (with_reducible exact yard_Path.mono _ _ _)
      | (with_reducible exact yard_Quotients.mono _ _ _)
      | (with_reducible exact LeO.refl _)
      | (with_reducible exact LeO.none _)
      | (with_reducible refine LeO.ite ?_ ?_)
      | (with_reducible refine LeO.bind ?_ (fun _ => ?_))
      | exact ih0 _ _ _ _
      | exact ih1 _ _ _ _ _
      | exact ih2 _ _ _
      | exact ih3 _ _ _
      | exact galloonlaw03_awake.mono _
      | exact galloonlaw03_tame.mono _ _ _ _
      | exact yard_Fold.mono _ _
      | exact yard_Follow.mono _ _
      | exact yard_Path.mono _ _ _
      | exact yard_Quotients.mono _ _ _
      | exact LeO.none _
      | refine LeO.ite ?_ ?_
      | refine LeO.bind ?_ (fun _ => ?_)
    · intro y0 y1 y2 y3 y4
      unfold galloonlaw03_YardThere.l0
      repeat' first
      | (with_reducible exact ih0 _ _ _ _)
      | (with_reducible exact ih1 _ _ _ _ _)
      | (with_reducible exact ih2 _ _ _)
      | (with_reducible exact ih3 _ _ _)
      | (with_reducible exact galloonlaw03_awake.mono _)
      | (with_reducible exact galloonlaw03_tame.mono _ _ _ _)
      | (with_reducible exact yard_Fold.mono _ _)
      | (with_reducible exact yard_Follow.mono _ _)
      | (with_reducible exact yard_Path.mono _ _ _)
      | (with_reducible exact yard_Quotients.mono _ _ _)
      | (with_reducible exact LeO.refl _)
      | (with_reducible exact LeO.none _)
      | (with_reducible refine LeO.ite ?_ ?_)
      | (with_reducible refine LeO.bind ?_ (fun _ => ?_))
      | exact ih0 _ _ _ _
      | exact ih1 _ _ _ _ _
      | exact ih2 _ _ _
      | exact ih3 _ _ _
      | exact galloonlaw03_awake.mono _
      | exact galloonlaw03_tame.mono _ _ _ _
      | exact yard_Fold.mono _ _
      | exact yard_Follow.mono _ _
      | exact yard_Path.mono _ _ _
      | exact yard_Quotients.mono _ _ _
      | exact LeO.none _
      | refine LeO.ite ?_ ?_
      | refine LeO.bind ?_ (fun _ => ?_)
    · intro y0 y1 y2
      unfold galloonlaw03_YardThere.j2
      repeat' first
      | (with_reducible exact ih0 _ _ _ _)
      | (with_reducible exact ih1 _ _ _ _ _)
      | (with_reducible exact ih2 _ _ _)
      | (with_reducible exact ih3 _ _ _)
      | (with_reducible exact galloonlaw03_awake.mono _)
      | (with_reducible exact galloonlaw03_tame.mono _ _ _ _)
      | (with_reducible exact yard_Fold.mono _ _)
      | (with_reducible exact yard_Follow.mono _ _)
      | (with_reducible exact yard_Path.mono _ _ _)
      | (with_reducible exact yard_Quotients.mono _ _ _)
      | (with_reducible exact LeO.refl _)
      | (with_reducible exact LeO.none _)
      | (with_reducible refine LeO.ite ?_ ?_)
      | (with_reducible refine LeO.bind ?_ (fun _ => ?_))
      | exact ih0 _ _ _ _
      | exact ih1 _ _ _ _ _
      | exact ih2 _ _ _
      | exact ih3 _ _ _
      | exact galloonlaw03_awake.mono _
      | exact galloonlaw03_tame.mono _ _ _ _
      | exact yard_Fold.mono _ _
      | exact yard_Follow.mono _ _
      | exact yard_Path.mono _ _ _
      | exact yard_Quotients.mono _ _ _
      | exact LeO.none _
      | refine LeO.ite ?_ ?_
      | refine LeO.bind ?_ (fun _ => ?_)
    · intro y0 y1 y2
      unfold galloonlaw03_YardThere.l1
      repeat' first
      | (with_reducible exact ih0 _ _ _ _)
      | (with_reducible exact ih1 _ _ _ _ _)
      | (with_reducible exact ih2 _ _ _)
      | (with_reducible exact ih3 _ _ _)
      | (with_reducible exact galloonlaw03_awake.mono _)
      | (with_reducible exact galloonlaw03_tame.mono _ _ _ _)
      | (with_reducible exact yard_Fold.mono _ _)
      | (with_reducible exact yard_Follow.mono _ _)
      | (with_reducible exact yard_Path.mono _ _ _)
      | (with_reducible exact yard_Quotients.mono _ _ _)
      | (with_reducible exact LeO.refl _)
      | (with_reducible exact LeO.none _)
      | (with_reducible refine LeO.ite ?_ ?_)
      | (with_reducible refine LeO.bind ?_ (fun _ => ?_))
      | exact ih0 _ _ _ _
      | exact ih1 _ _ _ _ _
      | exact ih2 _ _ _
      | exact ih3 _ _ _
      | exact galloonlaw03_awake.mono _
      | exact galloonlaw03_tame.mono _ _ _ _
      | exact yard_Fold.mono _ _
      | exact yard_Follow.mono _ _
      | exact yard_Path.mono _ _ _
      | exact yard_Quotients.mono _ _ _
      | exact LeO.none _
      | refine LeO.ite ?_ ?_
      | refine LeO.bind ?_ (fun _ => ?_)
theorem galloonlaw03_YardThere.mono : ∀ a0 a1 k, LeO (galloonlaw03_YardThere.f k a0 a1) (galloonlaw03_YardThere.f (k + 1) a0 a1) := by
  intro a0 a1 k
  obtain ⟨ih0, ih1, ih2, ih3⟩ := galloonlaw03_YardThere.mono_l k
  unfold galloonlaw03_YardThere.f
  repeat' first
      | (with_reducible exact ih0 _ _ _ _)
      | (with_reducible exact ih1 _ _ _ _ _)
      | (with_reducible exact ih2 _ _ _)
      | (with_reducible exact ih3 _ _ _)
      | (with_reducible exact galloonlaw03_awake.mono _)
      | (with_reducible exact galloonlaw03_tame.mono _ _ _ _)
      | (with_reducible exact yard_Fold.mono _ _)
      | (with_reducible exact yard_Follow.mono _ _)
      | (with_reducible exact yard_Path.mono _ _ _)
      | (with_reducible exact yard_Quotients.mono _ _ _)
      | (with_reducible exact LeO.refl _)
      | (with_reducible exact LeO.none _)
      | (with_reducible refine LeO.ite ?_ ?_)
      | (with_reducible refine LeO.bind ?_ (fun _ => ?_))
      | exact ih0 _ _ _ _
      | exact ih1 _ _ _ _ _
      | exact ih2 _ _ _
      | exact ih3 _ _ _
      | exact galloonlaw03_awake.mono _
      | exact galloonlaw03_tame.mono _ _ _ _
      | exact yard_Fold.mono _ _
      | exact yard_Follow.mono _ _
      | exact yard_Path.mono _ _ _
      | exact yard_Quotients.mono _ _ _
      | exact LeO.none _
      | refine LeO.ite ?_ ?_
      | refine LeO.bind ?_ (fun _ => ?_)
set_option maxHeartbeats 8000000 in
set_option maxRecDepth 100000 in
theorem galloonlaw03_YardThere.calls (k : Nat) (a0_0 : Int) (a0_1 : Int) (r : Bool) (w : World) (h : galloonlaw03_YardThere.f k a0_0 a0_1 = some r) (hr : Aside0 (r = true)) :
    Calls Try.prog 13 #[.agg #[.int .i64 a0_0, .int .i64 a0_1]] w fun e w' => e = .returned (.bool r) ∧ Below w.heap.size w w' := by
  have hu23 := Try.underlying23
  have HB := Aside0.mk (Below.refl w.heap.size w)
  have H : ((galloonlaw03_tame.f k a0_0 a0_1 1000000).bind fun bt491 => ((yard_Quotients.f k bt491.1 bt491.2).bind fun bt493 => ((yard_Fold.f k bt493.1).bind fun bt497 => (if bt493.2 = 0 then (if bt497.2.2 = 0 then (galloonlaw03_YardThere.j0 k bt493.1 (!(bt497.1 == bt491.1) || (!(bt497.2.1 == bt491.2))) bt491.1 bt491.2) else (galloonlaw03_YardThere.j0 k bt493.1 true bt491.1 bt491.2)) else (galloonlaw03_YardThere.j0 k bt493.1 true bt491.1 bt491.2))))) = some r := h
  clear h
  replace H := Option.bind_eq_some_iff.mp H
  obtain ⟨⟨t491, t492⟩, A20, H⟩ := H
  replace H : ((yard_Quotients.f k t491 t492).bind fun bt493 => ((yard_Fold.f k bt493.1).bind fun bt497 => (if bt493.2 = 0 then (if bt497.2.2 = 0 then (galloonlaw03_YardThere.j0 k bt493.1 (!(bt497.1 == t491) || (!(bt497.2.1 == t492))) t491 t492) else (galloonlaw03_YardThere.j0 k bt493.1 true t491 t492)) else (galloonlaw03_YardThere.j0 k bt493.1 true t491 t492)))) = some r := H
  have A2 := Aside0.mk A20
  clear A20
  replace H := Option.bind_eq_some_iff.mp H
  obtain ⟨⟨t493, t496⟩, A30, H⟩ := H
  replace H : ((yard_Fold.f k t493).bind fun bt497 => (if t496 = 0 then (if bt497.2.2 = 0 then (galloonlaw03_YardThere.j0 k t493 (!(bt497.1 == t491) || (!(bt497.2.1 == t492))) t491 t492) else (galloonlaw03_YardThere.j0 k t493 true t491 t492)) else (galloonlaw03_YardThere.j0 k t493 true t491 t492))) = some r := H
  have A3 := Aside0.mk A30
  clear A30
  replace H := Option.bind_eq_some_iff.mp H
  obtain ⟨⟨t497, t498, t499⟩, A40, H⟩ := H
  replace H : (if t496 = 0 then (if t499 = 0 then (galloonlaw03_YardThere.j0 k t493 (!(t497 == t491) || (!(t498 == t492))) t491 t492) else (galloonlaw03_YardThere.j0 k t493 true t491 t492)) else (galloonlaw03_YardThere.j0 k t493 true t491 t492)) = some r := H
  have A4 := Aside0.mk A40
  clear A40
  have HC5 := Aside0.mk H
  clear H
  go_enter Try.func13, Try.ntmps13
  go_upto_region 4 with (first | ((with_reducible refine gate_dst (N := 1) rfl ?_); (try (refine gate_guard (by rfl) ?_; dsimp only)); refine box_event ?hg (N := 1) ?hd (cs := #[.int .i64 a0_0, .int .i64 a0_1]) (t := 23) ?hr ?_; (case hd => rfl); (case hg => rfl); (case hr => first | (go_simp; done) | (go_simp; rfl)); intro gb490 hg w6 hbox hb; have n0_ := Aside0.mk (below_step (by repeat (first | (with_reducible first | exact HB.out | apply below_alloc | apply pw_below_drewN | apply below_drew1) | exact HB.out)) hb); have n1_ := Aside0.mk (hbox); have n2_ := Aside0.mk ((by rw [hg]; exact (below_size (by repeat (first | (with_reducible first | exact HB.out | apply below_alloc | apply pw_below_drewN | apply below_drew1) | exact HB.out))) : w.heap.size ≤ gb490)); have n3_ := Aside0.mk ((by rw [hg]; exact (below_size (by repeat (first | (with_reducible first | exact HB.out | apply below_alloc | apply pw_below_drewN | apply below_drew1) | exact HB.out))) : w.heap.size ≤ gb490)); clear HB; have HB := n0_; have BK490 := n1_; have GW490 := n2_; have GE490 := n3_; clear n0_ n1_ n2_ n3_; clear hb hbox hg; have hcz7_0 : w6.cell? ⟨gb490, 0, none⟩ = some (.int .i64 a0_0) := (blk_cell BK490.out 0).trans rfl; have hcz7_1 : w6.cell? ⟨gb490, 1, none⟩ = some (.int .i64 a0_1) := (blk_cell BK490.out 1).trans rfl; have hfz7_0 := blk_frozen BK490.out 0; have hfz7_1 := blk_frozen BK490.out 1) | (go_at_call 26; (with_reducible refine (galloonlaw03_tame.calls k a0_0 a0_1 1000000 t491 t492 _ A2.out).mono ?_); rintro e w8 ⟨rfl, hb⟩; have n0_ := Aside0.mk (blk_below (g := gb490) (o := .cells #[.int .i64 a0_0, .int .i64 a0_1] 23 (0, 0)) (by (with_reducible repeat (first | refine blk_drewN ?_ _ | refine blk_drew ?_ | refine blk_alloc ?_ _)); exact BK490.out) hb); have n1_ := Aside0.mk (below_step (by repeat (first | (with_reducible first | exact HB.out | apply below_alloc | apply pw_below_drewN | apply below_drew1 | refine below_set ?_ GE490.out) | exact HB.out)) hb); clear BK490; clear HB; have BK490 := n0_; have HB := n1_; clear n0_ n1_; (try clear hb); (try clear hb2); (try clear hk); (try clear hi); have hcz9_0 : w8.cell? ⟨gb490, 0, none⟩ = some (.int .i64 a0_0) := (blk_cell BK490.out 0).trans rfl; have hcz9_1 : w8.cell? ⟨gb490, 1, none⟩ = some (.int .i64 a0_1) := (blk_cell BK490.out 1).trans rfl; have hfz9_0 := blk_frozen BK490.out 0; have hfz9_1 := blk_frozen BK490.out 1) | (go_at_call 18; (with_reducible refine (yard_Quotients.calls k t491 t492 t493 t496 _ A3.out).mono ?_); rintro e w10 ⟨v494, rfl, ho0, hb⟩; have n0_ := Aside0.mk (Kd.R_lower ho0 (below_size (by repeat (first | (with_reducible first | exact HB.out | apply below_alloc | apply pw_below_drewN | apply below_drew1 | refine below_set ?_ GE490.out) | exact HB.out)))); have n1_ := Aside0.mk (blk_below (g := gb490) (o := .cells #[.int .i64 t491, .int .i64 t492] 23 (0, 0)) (by (with_reducible repeat (first | refine blk_drewN ?_ _ | refine blk_drew ?_ | refine blk_alloc ?_ _)); refine blk_put (cs := #[.int .i64 t491, .int .i64 a0_1]) ?_ 1 _ rfl; (with_reducible repeat (first | refine blk_drewN ?_ _ | refine blk_drew ?_ | refine blk_alloc ?_ _)); refine blk_put (cs := #[.int .i64 a0_0, .int .i64 a0_1]) ?_ 0 _ rfl; (with_reducible repeat (first | refine blk_drewN ?_ _ | refine blk_drew ?_ | refine blk_alloc ?_ _)); exact BK490.out) hb); have n2_ := Aside0.mk (below_step (by repeat (first | (with_reducible first | exact HB.out | apply below_alloc | apply pw_below_drewN | apply below_drew1 | refine below_set ?_ GE490.out) | exact HB.out)) hb); clear BK490; clear HB; have HO495 := n0_; have BK490 := n1_; have HB := n2_; clear n0_ n1_ n2_; (try clear hb); (try clear hb2); (try clear hk); (try clear hi); (try clear ho0); obtain ⟨Ao11, co11, eo11⟩ := Kd.R_slice HO495.out; subst eo11) | (go_at_call 49; (with_reducible refine (yard_Fold.calls k _ _ t493 t497 t498 t499 _ ?side1 ?side2 A4.out).mono ?_); (case side1 => repeat (first | exact (Kd.R_reads' HO495.out).2.2 | (with_reducible refine Kd.C_alloc ?_ _) | (with_reducible refine Kd.C_drewN ?_ _) | (with_reducible refine Kd.C_drew ?_))); (case side2 => exact (Kd.R_reads' HO495.out).2.1); rintro e w12 ⟨rfl, hb⟩; have n0_ := Aside0.mk (Kd.R_below (by (with_reducible repeat (first | apply Kd.R_alloc | apply Kd.R_drewN | apply Kd.R_drew)); exact HO495.out) hb); have n1_ := Aside0.mk (blk_below (g := gb490) (o := .cells #[.int .i64 t491, .int .i64 t492] 23 (0, 0)) (by (with_reducible repeat (first | refine blk_drewN ?_ _ | refine blk_drew ?_ | refine blk_alloc ?_ _)); exact BK490.out) hb); have n2_ := Aside0.mk (below_step (by repeat (first | (with_reducible first | exact HB.out | apply below_alloc | apply pw_below_drewN | apply below_drew1 | refine below_set ?_ GE490.out) | exact HB.out)) hb); clear HO495; clear BK490; clear HB; have HO495 := n0_; have BK490 := n1_; have HB := n2_; clear n0_ n1_ n2_; (try clear hb); (try clear hb2); (try clear hk); (try clear hi)) | ((with_reducible refine gate_dst (N := 5) rfl ?_); (try (refine gate_guard (by rfl) ?_; dsimp only)); refine box_event ?hg (N := 5) ?hd (cs := #[.int .i64 0, .int .i64 0]) (t := 23) ?hr ?_; (case hd => rfl); (case hg => rfl); (case hr => first | (go_simp; done) | (go_simp; rfl)); intro gb500 hg w13 hbox hb; have n0_ := Aside0.mk (Kd.R_below (by (with_reducible repeat (first | apply Kd.R_alloc | apply Kd.R_drewN | apply Kd.R_drew)); exact HO495.out) hb); have n1_ := Aside0.mk (blk_below (g := gb490) (o := .cells #[.int .i64 t491, .int .i64 t492] 23 (0, 0)) (by (with_reducible repeat (first | refine blk_drewN ?_ _ | refine blk_drew ?_ | refine blk_alloc ?_ _)); exact BK490.out) hb); have n2_ := Aside0.mk (below_step (by repeat (first | (with_reducible first | exact HB.out | apply below_alloc | apply pw_below_drewN | apply below_drew1 | refine below_set ?_ GE490.out) | exact HB.out)) hb); have n3_ := Aside0.mk (hbox); have n4_ := Aside0.mk ((by rw [hg]; exact (below_size (by repeat (first | (with_reducible first | exact HB.out | apply below_alloc | apply pw_below_drewN | apply below_drew1 | refine below_set ?_ GE490.out) | exact HB.out))) : w.heap.size ≤ gb500)); have n5_ := Aside0.mk ((by rw [hg]; exact (below_size (by repeat (first | (with_reducible first | exact HB.out | apply below_alloc | apply pw_below_drewN | apply below_drew1 | refine below_set ?_ GE490.out) | exact HB.out))) : w.heap.size ≤ gb500)); have n6_ := Aside0.mk ((by rw [hg]; exact Nat.ne_of_lt (blk_lt (g := gb490) (o := .cells #[.int .i64 t491, .int .i64 t492] 23 (0, 0)) (by (with_reducible repeat (first | refine blk_drewN ?_ _ | refine blk_drew ?_ | refine blk_alloc ?_ _)); exact BK490.out)) : gb490 ≠ gb500)); have n7_ := Aside0.mk ((by rw [hg]; exact Nat.ne_of_gt (blk_lt (g := gb490) (o := .cells #[.int .i64 t491, .int .i64 t492] 23 (0, 0)) (by (with_reducible repeat (first | refine blk_drewN ?_ _ | refine blk_drew ?_ | refine blk_alloc ?_ _)); exact BK490.out)) : gb500 ≠ gb490)); clear HO495; clear BK490; clear HB; have HO495 := n0_; have BK490 := n1_; have HB := n2_; have BK500 := n3_; have GW500 := n4_; have GE500 := n5_; have NB490_500 := n6_; have NB500_490 := n7_; clear n0_ n1_ n2_ n3_ n4_ n5_ n6_ n7_; clear hb hbox hg; have hnb14 := NB500_490.out; have hnc14 := NB490_500.out; have hcz15_0 : w13.cell? ⟨gb500, 0, none⟩ = some (.int .i64 0) := (blk_cell BK500.out 0).trans rfl; have hcz15_1 : w13.cell? ⟨gb500, 1, none⟩ = some (.int .i64 0) := (blk_cell BK500.out 1).trans rfl; have hfz15_0 := blk_frozen BK500.out 0; have hfz15_1 := blk_frozen BK500.out 1))
  repeat (go_quiet (first | ((with_reducible refine gate_dst (N := 1) rfl ?_); (try (refine gate_guard (by rfl) ?_; dsimp only)); refine box_event ?hg (N := 1) ?hd (cs := #[.int .i64 a0_0, .int .i64 a0_1]) (t := 23) ?hr ?_; (case hd => rfl); (case hg => rfl); (case hr => first | (go_simp; done) | (go_simp; rfl)); intro gb490 hg w6 hbox hb; have n0_ := Aside0.mk (below_step (by repeat (first | (with_reducible first | exact HB.out | apply below_alloc | apply pw_below_drewN | apply below_drew1) | exact HB.out)) hb); have n1_ := Aside0.mk (hbox); have n2_ := Aside0.mk ((by rw [hg]; exact (below_size (by repeat (first | (with_reducible first | exact HB.out | apply below_alloc | apply pw_below_drewN | apply below_drew1) | exact HB.out))) : w.heap.size ≤ gb490)); have n3_ := Aside0.mk ((by rw [hg]; exact (below_size (by repeat (first | (with_reducible first | exact HB.out | apply below_alloc | apply pw_below_drewN | apply below_drew1) | exact HB.out))) : w.heap.size ≤ gb490)); clear HB; have HB := n0_; have BK490 := n1_; have GW490 := n2_; have GE490 := n3_; clear n0_ n1_ n2_ n3_; clear hb hbox hg; have hcz7_0 : w6.cell? ⟨gb490, 0, none⟩ = some (.int .i64 a0_0) := (blk_cell BK490.out 0).trans rfl; have hcz7_1 : w6.cell? ⟨gb490, 1, none⟩ = some (.int .i64 a0_1) := (blk_cell BK490.out 1).trans rfl; have hfz7_0 := blk_frozen BK490.out 0; have hfz7_1 := blk_frozen BK490.out 1) | (go_at_call 26; (with_reducible refine (galloonlaw03_tame.calls k a0_0 a0_1 1000000 t491 t492 _ A2.out).mono ?_); rintro e w8 ⟨rfl, hb⟩; have n0_ := Aside0.mk (blk_below (g := gb490) (o := .cells #[.int .i64 a0_0, .int .i64 a0_1] 23 (0, 0)) (by (with_reducible repeat (first | refine blk_drewN ?_ _ | refine blk_drew ?_ | refine blk_alloc ?_ _)); exact BK490.out) hb); have n1_ := Aside0.mk (below_step (by repeat (first | (with_reducible first | exact HB.out | apply below_alloc | apply pw_below_drewN | apply below_drew1 | refine below_set ?_ GE490.out) | exact HB.out)) hb); clear BK490; clear HB; have BK490 := n0_; have HB := n1_; clear n0_ n1_; (try clear hb); (try clear hb2); (try clear hk); (try clear hi); have hcz9_0 : w8.cell? ⟨gb490, 0, none⟩ = some (.int .i64 a0_0) := (blk_cell BK490.out 0).trans rfl; have hcz9_1 : w8.cell? ⟨gb490, 1, none⟩ = some (.int .i64 a0_1) := (blk_cell BK490.out 1).trans rfl; have hfz9_0 := blk_frozen BK490.out 0; have hfz9_1 := blk_frozen BK490.out 1) | (go_at_call 18; (with_reducible refine (yard_Quotients.calls k t491 t492 t493 t496 _ A3.out).mono ?_); rintro e w10 ⟨v494, rfl, ho0, hb⟩; have n0_ := Aside0.mk (Kd.R_lower ho0 (below_size (by repeat (first | (with_reducible first | exact HB.out | apply below_alloc | apply pw_below_drewN | apply below_drew1 | refine below_set ?_ GE490.out) | exact HB.out)))); have n1_ := Aside0.mk (blk_below (g := gb490) (o := .cells #[.int .i64 t491, .int .i64 t492] 23 (0, 0)) (by (with_reducible repeat (first | refine blk_drewN ?_ _ | refine blk_drew ?_ | refine blk_alloc ?_ _)); refine blk_put (cs := #[.int .i64 t491, .int .i64 a0_1]) ?_ 1 _ rfl; (with_reducible repeat (first | refine blk_drewN ?_ _ | refine blk_drew ?_ | refine blk_alloc ?_ _)); refine blk_put (cs := #[.int .i64 a0_0, .int .i64 a0_1]) ?_ 0 _ rfl; (with_reducible repeat (first | refine blk_drewN ?_ _ | refine blk_drew ?_ | refine blk_alloc ?_ _)); exact BK490.out) hb); have n2_ := Aside0.mk (below_step (by repeat (first | (with_reducible first | exact HB.out | apply below_alloc | apply pw_below_drewN | apply below_drew1 | refine below_set ?_ GE490.out) | exact HB.out)) hb); clear BK490; clear HB; have HO495 := n0_; have BK490 := n1_; have HB := n2_; clear n0_ n1_ n2_; (try clear hb); (try clear hb2); (try clear hk); (try clear hi); (try clear ho0); obtain ⟨Ao11, co11, eo11⟩ := Kd.R_slice HO495.out; subst eo11) | (go_at_call 49; (with_reducible refine (yard_Fold.calls k _ _ t493 t497 t498 t499 _ ?side1 ?side2 A4.out).mono ?_); (case side1 => repeat (first | exact (Kd.R_reads' HO495.out).2.2 | (with_reducible refine Kd.C_alloc ?_ _) | (with_reducible refine Kd.C_drewN ?_ _) | (with_reducible refine Kd.C_drew ?_))); (case side2 => exact (Kd.R_reads' HO495.out).2.1); rintro e w12 ⟨rfl, hb⟩; have n0_ := Aside0.mk (Kd.R_below (by (with_reducible repeat (first | apply Kd.R_alloc | apply Kd.R_drewN | apply Kd.R_drew)); exact HO495.out) hb); have n1_ := Aside0.mk (blk_below (g := gb490) (o := .cells #[.int .i64 t491, .int .i64 t492] 23 (0, 0)) (by (with_reducible repeat (first | refine blk_drewN ?_ _ | refine blk_drew ?_ | refine blk_alloc ?_ _)); exact BK490.out) hb); have n2_ := Aside0.mk (below_step (by repeat (first | (with_reducible first | exact HB.out | apply below_alloc | apply pw_below_drewN | apply below_drew1 | refine below_set ?_ GE490.out) | exact HB.out)) hb); clear HO495; clear BK490; clear HB; have HO495 := n0_; have BK490 := n1_; have HB := n2_; clear n0_ n1_ n2_; (try clear hb); (try clear hb2); (try clear hk); (try clear hi)) | ((with_reducible refine gate_dst (N := 5) rfl ?_); (try (refine gate_guard (by rfl) ?_; dsimp only)); refine box_event ?hg (N := 5) ?hd (cs := #[.int .i64 0, .int .i64 0]) (t := 23) ?hr ?_; (case hd => rfl); (case hg => rfl); (case hr => first | (go_simp; done) | (go_simp; rfl)); intro gb500 hg w13 hbox hb; have n0_ := Aside0.mk (Kd.R_below (by (with_reducible repeat (first | apply Kd.R_alloc | apply Kd.R_drewN | apply Kd.R_drew)); exact HO495.out) hb); have n1_ := Aside0.mk (blk_below (g := gb490) (o := .cells #[.int .i64 t491, .int .i64 t492] 23 (0, 0)) (by (with_reducible repeat (first | refine blk_drewN ?_ _ | refine blk_drew ?_ | refine blk_alloc ?_ _)); exact BK490.out) hb); have n2_ := Aside0.mk (below_step (by repeat (first | (with_reducible first | exact HB.out | apply below_alloc | apply pw_below_drewN | apply below_drew1 | refine below_set ?_ GE490.out) | exact HB.out)) hb); have n3_ := Aside0.mk (hbox); have n4_ := Aside0.mk ((by rw [hg]; exact (below_size (by repeat (first | (with_reducible first | exact HB.out | apply below_alloc | apply pw_below_drewN | apply below_drew1 | refine below_set ?_ GE490.out) | exact HB.out))) : w.heap.size ≤ gb500)); have n5_ := Aside0.mk ((by rw [hg]; exact (below_size (by repeat (first | (with_reducible first | exact HB.out | apply below_alloc | apply pw_below_drewN | apply below_drew1 | refine below_set ?_ GE490.out) | exact HB.out))) : w.heap.size ≤ gb500)); have n6_ := Aside0.mk ((by rw [hg]; exact Nat.ne_of_lt (blk_lt (g := gb490) (o := .cells #[.int .i64 t491, .int .i64 t492] 23 (0, 0)) (by (with_reducible repeat (first | refine blk_drewN ?_ _ | refine blk_drew ?_ | refine blk_alloc ?_ _)); exact BK490.out)) : gb490 ≠ gb500)); have n7_ := Aside0.mk ((by rw [hg]; exact Nat.ne_of_gt (blk_lt (g := gb490) (o := .cells #[.int .i64 t491, .int .i64 t492] 23 (0, 0)) (by (with_reducible repeat (first | refine blk_drewN ?_ _ | refine blk_drew ?_ | refine blk_alloc ?_ _)); exact BK490.out)) : gb500 ≠ gb490)); clear HO495; clear BK490; clear HB; have HO495 := n0_; have BK490 := n1_; have HB := n2_; have BK500 := n3_; have GW500 := n4_; have GE500 := n5_; have NB490_500 := n6_; have NB500_490 := n7_; clear n0_ n1_ n2_ n3_ n4_ n5_ n6_ n7_; clear hb hbox hg; have hnb14 := NB500_490.out; have hnc14 := NB490_500.out; have hcz15_0 : w13.cell? ⟨gb500, 0, none⟩ = some (.int .i64 0) := (blk_cell BK500.out 0).trans rfl; have hcz15_1 : w13.cell? ⟨gb500, 1, none⟩ = some (.int .i64 0) := (blk_cell BK500.out 1).trans rfl; have hfz15_0 := blk_frozen BK500.out 0; have hfz15_1 := blk_frozen BK500.out 1)); go_upto_region 4 with (first | ((with_reducible refine gate_dst (N := 1) rfl ?_); (try (refine gate_guard (by rfl) ?_; dsimp only)); refine box_event ?hg (N := 1) ?hd (cs := #[.int .i64 a0_0, .int .i64 a0_1]) (t := 23) ?hr ?_; (case hd => rfl); (case hg => rfl); (case hr => first | (go_simp; done) | (go_simp; rfl)); intro gb490 hg w6 hbox hb; have n0_ := Aside0.mk (below_step (by repeat (first | (with_reducible first | exact HB.out | apply below_alloc | apply pw_below_drewN | apply below_drew1) | exact HB.out)) hb); have n1_ := Aside0.mk (hbox); have n2_ := Aside0.mk ((by rw [hg]; exact (below_size (by repeat (first | (with_reducible first | exact HB.out | apply below_alloc | apply pw_below_drewN | apply below_drew1) | exact HB.out))) : w.heap.size ≤ gb490)); have n3_ := Aside0.mk ((by rw [hg]; exact (below_size (by repeat (first | (with_reducible first | exact HB.out | apply below_alloc | apply pw_below_drewN | apply below_drew1) | exact HB.out))) : w.heap.size ≤ gb490)); clear HB; have HB := n0_; have BK490 := n1_; have GW490 := n2_; have GE490 := n3_; clear n0_ n1_ n2_ n3_; clear hb hbox hg; have hcz7_0 : w6.cell? ⟨gb490, 0, none⟩ = some (.int .i64 a0_0) := (blk_cell BK490.out 0).trans rfl; have hcz7_1 : w6.cell? ⟨gb490, 1, none⟩ = some (.int .i64 a0_1) := (blk_cell BK490.out 1).trans rfl; have hfz7_0 := blk_frozen BK490.out 0; have hfz7_1 := blk_frozen BK490.out 1) | (go_at_call 26; (with_reducible refine (galloonlaw03_tame.calls k a0_0 a0_1 1000000 t491 t492 _ A2.out).mono ?_); rintro e w8 ⟨rfl, hb⟩; have n0_ := Aside0.mk (blk_below (g := gb490) (o := .cells #[.int .i64 a0_0, .int .i64 a0_1] 23 (0, 0)) (by (with_reducible repeat (first | refine blk_drewN ?_ _ | refine blk_drew ?_ | refine blk_alloc ?_ _)); exact BK490.out) hb); have n1_ := Aside0.mk (below_step (by repeat (first | (with_reducible first | exact HB.out | apply below_alloc | apply pw_below_drewN | apply below_drew1 | refine below_set ?_ GE490.out) | exact HB.out)) hb); clear BK490; clear HB; have BK490 := n0_; have HB := n1_; clear n0_ n1_; (try clear hb); (try clear hb2); (try clear hk); (try clear hi); have hcz9_0 : w8.cell? ⟨gb490, 0, none⟩ = some (.int .i64 a0_0) := (blk_cell BK490.out 0).trans rfl; have hcz9_1 : w8.cell? ⟨gb490, 1, none⟩ = some (.int .i64 a0_1) := (blk_cell BK490.out 1).trans rfl; have hfz9_0 := blk_frozen BK490.out 0; have hfz9_1 := blk_frozen BK490.out 1) | (go_at_call 18; (with_reducible refine (yard_Quotients.calls k t491 t492 t493 t496 _ A3.out).mono ?_); rintro e w10 ⟨v494, rfl, ho0, hb⟩; have n0_ := Aside0.mk (Kd.R_lower ho0 (below_size (by repeat (first | (with_reducible first | exact HB.out | apply below_alloc | apply pw_below_drewN | apply below_drew1 | refine below_set ?_ GE490.out) | exact HB.out)))); have n1_ := Aside0.mk (blk_below (g := gb490) (o := .cells #[.int .i64 t491, .int .i64 t492] 23 (0, 0)) (by (with_reducible repeat (first | refine blk_drewN ?_ _ | refine blk_drew ?_ | refine blk_alloc ?_ _)); refine blk_put (cs := #[.int .i64 t491, .int .i64 a0_1]) ?_ 1 _ rfl; (with_reducible repeat (first | refine blk_drewN ?_ _ | refine blk_drew ?_ | refine blk_alloc ?_ _)); refine blk_put (cs := #[.int .i64 a0_0, .int .i64 a0_1]) ?_ 0 _ rfl; (with_reducible repeat (first | refine blk_drewN ?_ _ | refine blk_drew ?_ | refine blk_alloc ?_ _)); exact BK490.out) hb); have n2_ := Aside0.mk (below_step (by repeat (first | (with_reducible first | exact HB.out | apply below_alloc | apply pw_below_drewN | apply below_drew1 | refine below_set ?_ GE490.out) | exact HB.out)) hb); clear BK490; clear HB; have HO495 := n0_; have BK490 := n1_; have HB := n2_; clear n0_ n1_ n2_; (try clear hb); (try clear hb2); (try clear hk); (try clear hi); (try clear ho0); obtain ⟨Ao11, co11, eo11⟩ := Kd.R_slice HO495.out; subst eo11) | (go_at_call 49; (with_reducible refine (yard_Fold.calls k _ _ t493 t497 t498 t499 _ ?side1 ?side2 A4.out).mono ?_); (case side1 => repeat (first | exact (Kd.R_reads' HO495.out).2.2 | (with_reducible refine Kd.C_alloc ?_ _) | (with_reducible refine Kd.C_drewN ?_ _) | (with_reducible refine Kd.C_drew ?_))); (case side2 => exact (Kd.R_reads' HO495.out).2.1); rintro e w12 ⟨rfl, hb⟩; have n0_ := Aside0.mk (Kd.R_below (by (with_reducible repeat (first | apply Kd.R_alloc | apply Kd.R_drewN | apply Kd.R_drew)); exact HO495.out) hb); have n1_ := Aside0.mk (blk_below (g := gb490) (o := .cells #[.int .i64 t491, .int .i64 t492] 23 (0, 0)) (by (with_reducible repeat (first | refine blk_drewN ?_ _ | refine blk_drew ?_ | refine blk_alloc ?_ _)); exact BK490.out) hb); have n2_ := Aside0.mk (below_step (by repeat (first | (with_reducible first | exact HB.out | apply below_alloc | apply pw_below_drewN | apply below_drew1 | refine below_set ?_ GE490.out) | exact HB.out)) hb); clear HO495; clear BK490; clear HB; have HO495 := n0_; have BK490 := n1_; have HB := n2_; clear n0_ n1_ n2_; (try clear hb); (try clear hb2); (try clear hk); (try clear hi)) | ((with_reducible refine gate_dst (N := 5) rfl ?_); (try (refine gate_guard (by rfl) ?_; dsimp only)); refine box_event ?hg (N := 5) ?hd (cs := #[.int .i64 0, .int .i64 0]) (t := 23) ?hr ?_; (case hd => rfl); (case hg => rfl); (case hr => first | (go_simp; done) | (go_simp; rfl)); intro gb500 hg w13 hbox hb; have n0_ := Aside0.mk (Kd.R_below (by (with_reducible repeat (first | apply Kd.R_alloc | apply Kd.R_drewN | apply Kd.R_drew)); exact HO495.out) hb); have n1_ := Aside0.mk (blk_below (g := gb490) (o := .cells #[.int .i64 t491, .int .i64 t492] 23 (0, 0)) (by (with_reducible repeat (first | refine blk_drewN ?_ _ | refine blk_drew ?_ | refine blk_alloc ?_ _)); exact BK490.out) hb); have n2_ := Aside0.mk (below_step (by repeat (first | (with_reducible first | exact HB.out | apply below_alloc | apply pw_below_drewN | apply below_drew1 | refine below_set ?_ GE490.out) | exact HB.out)) hb); have n3_ := Aside0.mk (hbox); have n4_ := Aside0.mk ((by rw [hg]; exact (below_size (by repeat (first | (with_reducible first | exact HB.out | apply below_alloc | apply pw_below_drewN | apply below_drew1 | refine below_set ?_ GE490.out) | exact HB.out))) : w.heap.size ≤ gb500)); have n5_ := Aside0.mk ((by rw [hg]; exact (below_size (by repeat (first | (with_reducible first | exact HB.out | apply below_alloc | apply pw_below_drewN | apply below_drew1 | refine below_set ?_ GE490.out) | exact HB.out))) : w.heap.size ≤ gb500)); have n6_ := Aside0.mk ((by rw [hg]; exact Nat.ne_of_lt (blk_lt (g := gb490) (o := .cells #[.int .i64 t491, .int .i64 t492] 23 (0, 0)) (by (with_reducible repeat (first | refine blk_drewN ?_ _ | refine blk_drew ?_ | refine blk_alloc ?_ _)); exact BK490.out)) : gb490 ≠ gb500)); have n7_ := Aside0.mk ((by rw [hg]; exact Nat.ne_of_gt (blk_lt (g := gb490) (o := .cells #[.int .i64 t491, .int .i64 t492] 23 (0, 0)) (by (with_reducible repeat (first | refine blk_drewN ?_ _ | refine blk_drew ?_ | refine blk_alloc ?_ _)); exact BK490.out)) : gb500 ≠ gb490)); clear HO495; clear BK490; clear HB; have HO495 := n0_; have BK490 := n1_; have HB := n2_; have BK500 := n3_; have GW500 := n4_; have GE500 := n5_; have NB490_500 := n6_; have NB500_490 := n7_; clear n0_ n1_ n2_ n3_ n4_ n5_ n6_ n7_; clear hb hbox hg; have hnb14 := NB500_490.out; have hnc14 := NB490_500.out; have hcz15_0 : w13.cell? ⟨gb500, 0, none⟩ = some (.int .i64 0) := (blk_cell BK500.out 0).trans rfl; have hcz15_1 : w13.cell? ⟨gb500, 1, none⟩ = some (.int .i64 0) := (blk_cell BK500.out 1).trans rfl; have hfz15_0 := blk_frozen BK500.out 0; have hfz15_1 := blk_frozen BK500.out 1)))
  (try simp only [Act.put, List.setIfInBounds_toArray, List.set_cons_zero, List.set_cons_succ])
  go_cut [38] (fun v38 wc => ∃ (kq : Nat) (x38_4 : Bool), v38 = .bool x38_4 ∧ Aside0 (galloonlaw03_YardThere.j0 kq t493 x38_4 t491 t492 = some r) ∧ Aside0 (kq ≤ k) ∧ Aside0 (Kd.R (Kd.int .i64) 3 wc w.heap.size (fun _ => True) (.slice Ao11 t493.length co11) t493) ∧ Aside0 (wc.heap[gb490]? = some (.cells #[.int .i64 t491, .int .i64 t492] 23 (0, 0))) ∧ Aside0 (wc.heap[gb500]? = some (.cells #[.int .i64 t497, .int .i64 t498] 23 (0, 0))) ∧ Aside0 (Below w.heap.size w wc))
  case first =>
    have H := HC5.out
    clear HC5
    by_cases c16 : t496 = 0
    · rw [if_pos c16] at H
      have c16b0 : (t496 == 0) = true := beq_iff_eq.mpr c16
      have c16b1 : (t496 != 0) = false := bne_eq_false_iff_eq.mpr c16
      clear c16
      (first | rw [c16b0] | (simp only [i64_w, i32_w]; rw [c16b0]) | skip)
      by_cases c17 : t499 = 0
      · rw [if_pos c17] at H
        have c17b0 : (t499 == 0) = true := beq_iff_eq.mpr c17
        have c17b1 : (t499 != 0) = false := bne_eq_false_iff_eq.mpr c17
        clear c17
        have H' := Aside0.mk H
        clear H
        have hnb18 := NB500_490.out
        have hnc18 := NB490_500.out
        have hcz19_0 : w13.cell? ⟨gb500, 0, none⟩ = some (.int .i64 0) := (blk_cell BK500.out 0).trans rfl
        have hcz19_1 : w13.cell? ⟨gb500, 1, none⟩ = some (.int .i64 0) := (blk_cell BK500.out 1).trans rfl
        have hfz19_0 := blk_frozen BK500.out 0
        have hfz19_1 := blk_frozen BK500.out 1
        have hcz20_0 : w13.cell? ⟨gb490, 0, none⟩ = some (.int .i64 t491) := (blk_cell BK490.out 0).trans rfl
        have hcz20_1 : w13.cell? ⟨gb490, 1, none⟩ = some (.int .i64 t492) := (blk_cell BK490.out 1).trans rfl
        have hfz20_0 := blk_frozen BK490.out 0
        have hfz20_1 := blk_frozen BK490.out 1
        go_wp2
        repeat (go_quiet (fail); try go_wp2)
        go_meet
        case rel => exact ⟨_, ((!(t497 == t491) || (!(t498 == t492)))), (by first | rfl | (simp; done) | (simp [*]; done)), H', ⟨by first | omega | exact Nat.le_refl _⟩, ⟨by (with_reducible repeat (first | apply Kd.R_alloc | apply Kd.R_drewN | apply Kd.R_drew)); exact Kd.R_mono (Kd.R_far (p := ⟨gb500, 1, none⟩) (Kd.R_far (p := ⟨gb500, 0, none⟩) (Kd.R_types HO495.out BK500.out (by decide)) (fun _ hk => hk.2) (.int .i64 t497)) (fun _ hk => hk.2) (.int .i64 t498)) (fun _ hk => trivial)⟩, ⟨by (with_reducible repeat (first | refine blk_drewN ?_ _ | refine blk_drew ?_ | refine blk_alloc ?_ _)); refine blk_far ?_ NB490_500.out _; (with_reducible repeat (first | refine blk_drewN ?_ _ | refine blk_drew ?_ | refine blk_alloc ?_ _)); refine blk_far ?_ NB490_500.out _; (with_reducible repeat (first | refine blk_drewN ?_ _ | refine blk_drew ?_ | refine blk_alloc ?_ _)); exact BK490.out⟩, ⟨by (with_reducible repeat (first | refine blk_drewN ?_ _ | refine blk_drew ?_ | refine blk_alloc ?_ _)); refine blk_put (cs := #[.int .i64 t497, .int .i64 0]) ?_ 1 _ rfl; (with_reducible repeat (first | refine blk_drewN ?_ _ | refine blk_drew ?_ | refine blk_alloc ?_ _)); refine blk_put (cs := #[.int .i64 0, .int .i64 0]) ?_ 0 _ rfl; (with_reducible repeat (first | refine blk_drewN ?_ _ | refine blk_drew ?_ | refine blk_alloc ?_ _)); exact BK500.out⟩, ⟨by repeat (first | (with_reducible first | exact HB.out | apply below_alloc | apply pw_below_drewN | apply below_drew1 | refine below_set ?_ GE490.out | refine below_set ?_ GE500.out) | exact HB.out)⟩⟩
      · rw [if_neg c17] at H
        have c17b0 : (t499 == 0) = false := beq_eq_false_iff_ne.mpr c17
        have c17b1 : (t499 != 0) = true := bne_iff_ne.mpr c17
        have H' := Aside0.mk H
        clear H
        go_wp2
        repeat (go_quiet (fail); try go_wp2)
        go_meet
        case rel => exact ⟨_, (true), (by first | rfl | (simp; done) | (simp [*]; done)), H', ⟨by first | omega | exact Nat.le_refl _⟩, ⟨by (with_reducible repeat (first | apply Kd.R_alloc | apply Kd.R_drewN | apply Kd.R_drew)); exact Kd.R_mono (Kd.R_far (p := ⟨gb500, 1, none⟩) (Kd.R_far (p := ⟨gb500, 0, none⟩) (Kd.R_types HO495.out BK500.out (by decide)) (fun _ hk => hk.2) (.int .i64 t497)) (fun _ hk => hk.2) (.int .i64 t498)) (fun _ hk => trivial)⟩, ⟨by (with_reducible repeat (first | refine blk_drewN ?_ _ | refine blk_drew ?_ | refine blk_alloc ?_ _)); refine blk_far ?_ NB490_500.out _; (with_reducible repeat (first | refine blk_drewN ?_ _ | refine blk_drew ?_ | refine blk_alloc ?_ _)); refine blk_far ?_ NB490_500.out _; (with_reducible repeat (first | refine blk_drewN ?_ _ | refine blk_drew ?_ | refine blk_alloc ?_ _)); exact BK490.out⟩, ⟨by (with_reducible repeat (first | refine blk_drewN ?_ _ | refine blk_drew ?_ | refine blk_alloc ?_ _)); refine blk_put (cs := #[.int .i64 t497, .int .i64 0]) ?_ 1 _ rfl; (with_reducible repeat (first | refine blk_drewN ?_ _ | refine blk_drew ?_ | refine blk_alloc ?_ _)); refine blk_put (cs := #[.int .i64 0, .int .i64 0]) ?_ 0 _ rfl; (with_reducible repeat (first | refine blk_drewN ?_ _ | refine blk_drew ?_ | refine blk_alloc ?_ _)); exact BK500.out⟩, ⟨by repeat (first | (with_reducible first | exact HB.out | apply below_alloc | apply pw_below_drewN | apply below_drew1 | refine below_set ?_ GE490.out | refine below_set ?_ GE500.out) | exact HB.out)⟩⟩
    · rw [if_neg c16] at H
      have c16b0 : (t496 == 0) = false := beq_eq_false_iff_ne.mpr c16
      have c16b1 : (t496 != 0) = true := bne_iff_ne.mpr c16
      (first | rw [c16b0] | (simp only [i64_w, i32_w]; rw [c16b0]) | skip)
      have H' := Aside0.mk H
      clear H
      go_wp2
      repeat (go_quiet (fail); try go_wp2)
      go_meet
      case rel => exact ⟨_, (true), (by first | rfl | (simp; done) | (simp [*]; done)), H', ⟨by first | omega | exact Nat.le_refl _⟩, ⟨by (with_reducible repeat (first | apply Kd.R_alloc | apply Kd.R_drewN | apply Kd.R_drew)); exact Kd.R_mono (Kd.R_far (p := ⟨gb500, 1, none⟩) (Kd.R_far (p := ⟨gb500, 0, none⟩) (Kd.R_types HO495.out BK500.out (by decide)) (fun _ hk => hk.2) (.int .i64 t497)) (fun _ hk => hk.2) (.int .i64 t498)) (fun _ hk => trivial)⟩, ⟨by (with_reducible repeat (first | refine blk_drewN ?_ _ | refine blk_drew ?_ | refine blk_alloc ?_ _)); refine blk_far ?_ NB490_500.out _; (with_reducible repeat (first | refine blk_drewN ?_ _ | refine blk_drew ?_ | refine blk_alloc ?_ _)); refine blk_far ?_ NB490_500.out _; (with_reducible repeat (first | refine blk_drewN ?_ _ | refine blk_drew ?_ | refine blk_alloc ?_ _)); exact BK490.out⟩, ⟨by (with_reducible repeat (first | refine blk_drewN ?_ _ | refine blk_drew ?_ | refine blk_alloc ?_ _)); refine blk_put (cs := #[.int .i64 t497, .int .i64 0]) ?_ 1 _ rfl; (with_reducible repeat (first | refine blk_drewN ?_ _ | refine blk_drew ?_ | refine blk_alloc ?_ _)); refine blk_put (cs := #[.int .i64 0, .int .i64 0]) ?_ 0 _ rfl; (with_reducible repeat (first | refine blk_drewN ?_ _ | refine blk_drew ?_ | refine blk_alloc ?_ _)); exact BK500.out⟩, ⟨by repeat (first | (with_reducible first | exact HB.out | apply below_alloc | apply pw_below_drewN | apply below_drew1 | refine below_set ?_ GE490.out | refine below_set ?_ GE500.out) | exact HB.out)⟩⟩
  case rest =>
    clear HC5
    try clear c1
    try clear p2
    try clear c13
    try clear c14
    try clear c16
    try clear c16b0
    try clear c16b1
    try clear c17
    try clear c17b0
    try clear c17b1
    try clear c18
    try clear hcz15_0
    try clear hcz15_1
    try clear hcz19_0
    try clear hcz19_1
    try clear hcz20_0
    try clear hcz20_1
    try clear hcz7_0
    try clear hcz7_1
    try clear hcz9_0
    try clear hcz9_1
    try clear hfz15_0
    try clear hfz15_1
    try clear hfz19_0
    try clear hfz19_1
    try clear hfz20_0
    try clear hfz20_1
    try clear hfz7_0
    try clear hfz7_1
    try clear hfz9_0
    try clear hfz9_1
    obtain ⟨kq, x38_4, rfl, HA, HJ4, HO_3, BK490, BK500, HB⟩ := hcut
    cases kq with
    | zero => exact absurd HA.out (by simp [galloonlaw03_YardThere.j0])
    | succ kj4 =>
      have H := HA.out
      clear HA
      simp only [galloonlaw03_YardThere.j0] at H
      by_cases c21 : x38_4 = true
      · subst c21
        have H1 : (some false) = some r := by rw [if_pos rfl] at H; exact H
        clear H
        have H := H1
        clear H1
        obtain rfl := Option.some.inj H
        exact absurd hr.out (by decide)
      · replace c21 := Bool.eq_false_iff.mpr c21
        subst c21
        have H1 : (if t492 = 1 then ((galloonlaw03_awake.f kj4).bind fun t501 => (some t501)) else (galloonlaw03_YardThere.l0 kj4 t493 0 0 t491 t492)) = some r := by rw [if_neg (show ¬ (false = true) by decide)] at H; exact H
        clear H
        have H := H1
        clear H1
        by_cases c22 : t492 = 1
        · rw [if_pos c22] at H
          have c22b0 : (t492 == 1) = true := beq_iff_eq.mpr c22
          have c22b1 : (t492 != 1) = false := bne_eq_false_iff_eq.mpr c22
          clear c22
          replace H := Option.bind_eq_some_iff.mp H
          obtain ⟨t501, A230, H⟩ := H
          replace H : (some t501) = some r := H
          have A23 := Aside0.mk A230
          clear A230
          obtain rfl := Option.some.inj H
          have hnb24 := NB490_500.out
          have hnc24 := NB500_490.out
          have hcz25_0 : wc.cell? ⟨gb490, 0, none⟩ = some (.int .i64 t491) := (blk_cell BK490.out 0).trans rfl
          have hcz25_1 : wc.cell? ⟨gb490, 1, none⟩ = some (.int .i64 t492) := (blk_cell BK490.out 1).trans rfl
          have hfz25_0 := blk_frozen BK490.out 0
          have hfz25_1 := blk_frozen BK490.out 1
          go_wp2_with (first | (go_at_call 21; (with_reducible refine (galloonlaw03_awake.calls kj4  t501 _ A23.out).mono ?_); rintro e w26 ⟨rfl, hb⟩; have n0_ := Aside0.mk (Kd.R_below (by (with_reducible repeat (first | apply Kd.R_alloc | apply Kd.R_drewN | apply Kd.R_drew)); exact HO_3.out) hb); have n1_ := Aside0.mk (blk_below (g := gb490) (o := .cells #[.int .i64 t491, .int .i64 t492] 23 (0, 0)) (by (with_reducible repeat (first | refine blk_drewN ?_ _ | refine blk_drew ?_ | refine blk_alloc ?_ _)); exact BK490.out) hb); have n2_ := Aside0.mk (blk_below (g := gb500) (o := .cells #[.int .i64 t497, .int .i64 t498] 23 (0, 0)) (by (with_reducible repeat (first | refine blk_drewN ?_ _ | refine blk_drew ?_ | refine blk_alloc ?_ _)); exact BK500.out) hb); have n3_ := Aside0.mk (below_step (by repeat (first | (with_reducible first | exact HB.out | apply below_alloc | apply pw_below_drewN | apply below_drew1 | refine below_set ?_ GE490.out | refine below_set ?_ GE500.out) | exact HB.out)) hb); clear HO_3; clear BK490; clear BK500; clear HB; have HO_3 := n0_; have BK490 := n1_; have BK500 := n2_; have HB := n3_; clear n0_ n1_ n2_ n3_; (try clear hb); (try clear hb2); (try clear hk); (try clear hi)))
          repeat (go_quiet (first | (go_at_call 21; (with_reducible refine (galloonlaw03_awake.calls kj4  t501 _ A23.out).mono ?_); rintro e w26 ⟨rfl, hb⟩; have n0_ := Aside0.mk (Kd.R_below (by (with_reducible repeat (first | apply Kd.R_alloc | apply Kd.R_drewN | apply Kd.R_drew)); exact HO_3.out) hb); have n1_ := Aside0.mk (blk_below (g := gb490) (o := .cells #[.int .i64 t491, .int .i64 t492] 23 (0, 0)) (by (with_reducible repeat (first | refine blk_drewN ?_ _ | refine blk_drew ?_ | refine blk_alloc ?_ _)); exact BK490.out) hb); have n2_ := Aside0.mk (blk_below (g := gb500) (o := .cells #[.int .i64 t497, .int .i64 t498] 23 (0, 0)) (by (with_reducible repeat (first | refine blk_drewN ?_ _ | refine blk_drew ?_ | refine blk_alloc ?_ _)); exact BK500.out) hb); have n3_ := Aside0.mk (below_step (by repeat (first | (with_reducible first | exact HB.out | apply below_alloc | apply pw_below_drewN | apply below_drew1 | refine below_set ?_ GE490.out | refine below_set ?_ GE500.out) | exact HB.out)) hb); clear HO_3; clear BK490; clear BK500; clear HB; have HO_3 := n0_; have BK490 := n1_; have BK500 := n2_; have HB := n3_; clear n0_ n1_ n2_ n3_; (try clear hb); (try clear hb2); (try clear hk); (try clear hi))); try go_wp2_with (first | (go_at_call 21; (with_reducible refine (galloonlaw03_awake.calls kj4  t501 _ A23.out).mono ?_); rintro e w26 ⟨rfl, hb⟩; have n0_ := Aside0.mk (Kd.R_below (by (with_reducible repeat (first | apply Kd.R_alloc | apply Kd.R_drewN | apply Kd.R_drew)); exact HO_3.out) hb); have n1_ := Aside0.mk (blk_below (g := gb490) (o := .cells #[.int .i64 t491, .int .i64 t492] 23 (0, 0)) (by (with_reducible repeat (first | refine blk_drewN ?_ _ | refine blk_drew ?_ | refine blk_alloc ?_ _)); exact BK490.out) hb); have n2_ := Aside0.mk (blk_below (g := gb500) (o := .cells #[.int .i64 t497, .int .i64 t498] 23 (0, 0)) (by (with_reducible repeat (first | refine blk_drewN ?_ _ | refine blk_drew ?_ | refine blk_alloc ?_ _)); exact BK500.out) hb); have n3_ := Aside0.mk (below_step (by repeat (first | (with_reducible first | exact HB.out | apply below_alloc | apply pw_below_drewN | apply below_drew1 | refine below_set ?_ GE490.out | refine below_set ?_ GE500.out) | exact HB.out)) hb); clear HO_3; clear BK490; clear BK500; clear HB; have HO_3 := n0_; have BK490 := n1_; have BK500 := n2_; have HB := n3_; clear n0_ n1_ n2_ n3_; (try clear hb); (try clear hb2); (try clear hk); (try clear hi))))
          go_ret
          exact ⟨by first | rfl | (simp [errW_none, errW_some] <;> rfl) | (simp [*, errW_none, errW_some] <;> rfl), by repeat (first | (with_reducible first | exact HB.out | apply below_alloc | apply pw_below_drewN | apply below_drew1 | refine below_set ?_ GE490.out | refine below_set ?_ GE500.out) | exact HB.out)⟩
        · rw [if_neg c22] at H
          have c22b0 : (t492 == 1) = false := beq_eq_false_iff_ne.mpr c22
          have c22b1 : (t492 != 1) = true := bne_iff_ne.mpr c22
          have H' := Aside0.mk H
          clear H
          have hnb27 := NB490_500.out
          have hnc27 := NB500_490.out
          have hcz28_0 : wc.cell? ⟨gb490, 0, none⟩ = some (.int .i64 t491) := (blk_cell BK490.out 0).trans rfl
          have hcz28_1 : wc.cell? ⟨gb490, 1, none⟩ = some (.int .i64 t492) := (blk_cell BK490.out 1).trans rfl
          have hfz28_0 := blk_frozen BK490.out 0
          have hfz28_1 := blk_frozen BK490.out 1
          go_wp2
          repeat (go_quiet (fail); try go_wp2)
          go_loopg [7, 8] kj4 (fun kq v7 v8 w' => ∃ (x7_2 : Int) (x8_2 : Int), v7 = .int .i64 x7_2 ∧ v8 = .int .i64 x8_2 ∧ Aside0 (galloonlaw03_YardThere.l0 kq t493 x7_2 x8_2 t491 t492 = some r) ∧ Aside0 (kq ≤ kj4) ∧ Aside0 (Kd.R (Kd.int .i64) 3 w' w.heap.size (fun _ => True) (.slice Ao11 t493.length co11) t493) ∧ Aside0 (w'.heap[gb490]? = some (.cells #[.int .i64 t491, .int .i64 t492] 23 (0, 0))) ∧ Aside0 (w'.heap[gb500]? = some (.cells #[.int .i64 t497, .int .i64 t498] 23 (0, 0))) ∧ Aside0 (Below w.heap.size w w'))
          case atStart => exact ⟨(0), (0), (by first | rfl | (simp; done) | (simp [*]; done)), (by first | rfl | (simp; done) | (simp [*]; done)), H', ⟨Nat.le_refl _⟩, ⟨by (with_reducible repeat (first | apply Kd.R_alloc | apply Kd.R_drewN | apply Kd.R_drew)); exact HO_3.out⟩, ⟨by (with_reducible repeat (first | refine blk_drewN ?_ _ | refine blk_drew ?_ | refine blk_alloc ?_ _)); exact BK490.out⟩, ⟨by (with_reducible repeat (first | refine blk_drewN ?_ _ | refine blk_drew ?_ | refine blk_alloc ?_ _)); exact BK500.out⟩, ⟨by repeat (first | (with_reducible first | exact HB.out | apply below_alloc | apply pw_below_drewN | apply below_drew1 | refine below_set ?_ GE490.out | refine below_set ?_ GE500.out) | exact HB.out)⟩⟩
          case round =>
            clear H'
            try clear c1
            try clear c2
            try clear p2
            try clear c13
            try clear c14
            try clear c16
            try clear c16b0
            try clear c16b1
            try clear c17
            try clear c17b0
            try clear c17b1
            try clear c18
            try clear c21
            try clear c22
            try clear c22b0
            try clear c22b1
            try clear c24
            try clear c27
            try clear hcz15_0
            try clear hcz15_1
            try clear hcz19_0
            try clear hcz19_1
            try clear hcz20_0
            try clear hcz20_1
            try clear hcz25_0
            try clear hcz25_1
            try clear hcz28_0
            try clear hcz28_1
            try clear hcz7_0
            try clear hcz7_1
            try clear hcz9_0
            try clear hcz9_1
            try clear hfz15_0
            try clear hfz15_1
            try clear hfz19_0
            try clear hfz19_1
            try clear hfz20_0
            try clear hfz20_1
            try clear hfz25_0
            try clear hfz25_1
            try clear hfz28_0
            try clear hfz28_1
            try clear hfz7_0
            try clear hfz7_1
            try clear hfz9_0
            try clear hfz9_1
            try clear p2
            obtain ⟨x7_2, x8_2, rfl, rfl, HA, HK2, HO_3, BK490, BK500, HB⟩ := hrel
            cases gk with
            | zero => exact absurd HA.out (by simp [galloonlaw03_YardThere.l0])
            | succ k2 =>
              have H := HA.out
              clear HA
              simp only [galloonlaw03_YardThere.l0] at H
              by_cases c29 : x8_2 < (t493.length : Int)
              · rw [if_pos c29] at H
                have c29b0 : decide (x8_2 < (t493.length : Int)) = true := decide_eq_true c29
                clear c29
                by_cases c30 : 0 ≤ x8_2
                · rw [if_pos c30] at H
                  have c30b0 : decide (0 ≤ x8_2) = true := decide_eq_true c30
                  clear c30
                  by_cases c31 : (rd t493 x8_2) < 1
                  · rw [if_pos c31] at H
                    have c31b0 : decide ((rd t493 x8_2) < 1) = true := decide_eq_true c31
                    clear c31
                    obtain rfl := Option.some.inj H
                    exact absurd hr.out (by decide)
                  · rw [if_neg c31] at H
                    have c31b0 : decide ((rd t493 x8_2) < 1) = false := decide_eq_false c31
                    clear c31
                    by_cases c32 : (rd t493 x8_2) > 1000000
                    · rw [if_pos c32] at H
                      have c32b0 : decide (1000000 < (rd t493 x8_2)) = true := decide_eq_true c32
                      clear c32
                      obtain rfl := Option.some.inj H
                      exact absurd hr.out (by decide)
                    · rw [if_neg c32] at H
                      have c32b0 : decide (1000000 < (rd t493 x8_2)) = false := decide_eq_false c32
                      clear c32
                      have H' := Aside0.mk H
                      clear H
                      have p502 : 0 ≤ (x8_2 : Int) := of_decide_eq_true (by first | (with_reducible assumption) | assumption)
                      have q502 : x8_2 < (t493.length : Int) := of_decide_eq_true (by first | (with_reducible assumption) | assumption)
                      obtain ⟨ad502, e502, hx502_0⟩ := Kd.at_int (Kd.R_reads' HO_3.out).2.2 x8_2 p502 q502
                      cases e502
                      replace p502 := eq_true p502
                      replace q502 := eq_true q502
                      have p503 : 0 ≤ (x8_2 : Int) := of_decide_eq_true (by first | (with_reducible assumption) | assumption)
                      have q503 : x8_2 < (t493.length : Int) := of_decide_eq_true (by first | (with_reducible assumption) | assumption)
                      obtain ⟨ad503, e503, hx503_0⟩ := Kd.at_int (Kd.R_reads' HO_3.out).2.2 x8_2 p503 q503
                      obtain rfl : ad502 = ad503 := (by injection e503)
                      replace p503 := eq_true p503
                      replace q503 := eq_true q503
                      have p504 : 0 ≤ (x8_2 : Int) := of_decide_eq_true (by first | (with_reducible assumption) | assumption)
                      have q504 : x8_2 < (t493.length : Int) := of_decide_eq_true (by first | (with_reducible assumption) | assumption)
                      obtain ⟨ad504, e504, hx504_0⟩ := Kd.at_int (Kd.R_reads' HO_3.out).2.2 x8_2 p504 q504
                      obtain rfl : ad502 = ad504 := (by injection e504)
                      replace p504 := eq_true p504
                      replace q504 := eq_true q504
                      go_wp2
                      repeat (go_quiet (fail); try go_wp2)
                      go_roundg k2
                      case measure => have := HJ4.out; have := HK2.out; omega
                      case rel => exact ⟨(wrap64 (x7_2 + (rd t493 x8_2))), (wrap64 (x8_2 + 1)), (by first | rfl | (simp; done) | (simp [*]; done)), (by first | rfl | (simp; done) | (simp [*]; done)), H', ⟨by have := HJ4.out; have := HK2.out; omega⟩, ⟨by (with_reducible repeat (first | apply Kd.R_alloc | apply Kd.R_drewN | apply Kd.R_drew)); exact HO_3.out⟩, ⟨by (with_reducible repeat (first | refine blk_drewN ?_ _ | refine blk_drew ?_ | refine blk_alloc ?_ _)); exact BK490.out⟩, ⟨by (with_reducible repeat (first | refine blk_drewN ?_ _ | refine blk_drew ?_ | refine blk_alloc ?_ _)); exact BK500.out⟩, ⟨by repeat (first | (with_reducible first | exact HB.out | apply below_alloc | apply pw_below_drewN | apply below_drew1 | refine below_set ?_ GE490.out | refine below_set ?_ GE500.out) | exact HB.out)⟩⟩
                · rw [if_neg c30] at H
                  exact absurd H (by simp)
              · rw [if_neg c29] at H
                have c29b0 : decide (x8_2 < (t493.length : Int)) = false := decide_eq_false c29
                clear c29
                replace H := Option.bind_eq_some_iff.mp H
                obtain ⟨⟨t505, t506⟩, A330, H⟩ := H
                replace H : ((galloonlaw03_rest.f t491 t492).bind fun bt507 => ((yard_Path.f k2 bt507.1 bt507.2).bind fun bt509 => (if t506 = bt509.2 then (if t506 = 0 then ((yard_Follow.f k2 t505).bind fun bt512 => (if (t505.size : Int) = (wrap64 (x7_2 - 2)) then (if (bt509.1.size : Int) = (t505.size : Int) then (if bt512.2.2 = 0 then (galloonlaw03_YardThere.j2 k2 t505 bt509.1 (!(bt512.1 == t491) || (!(bt512.2.1 == t492)))) else (galloonlaw03_YardThere.j2 k2 t505 bt509.1 true)) else (galloonlaw03_YardThere.j2 k2 t505 bt509.1 true)) else (galloonlaw03_YardThere.j2 k2 t505 bt509.1 true))) else (if t506 = 5 then (if (wrap64 (x7_2 - 2)) > 200 then ((galloonlaw03_awake.f k2).bind fun t511 => (some t511)) else (some false)) else (some false))) else (some false)))) = some r := H
                have A33 := Aside0.mk A330
                clear A330
                replace H := Option.bind_eq_some_iff.mp H
                obtain ⟨⟨t507, t508⟩, A340, H⟩ := H
                replace H : ((yard_Path.f k2 t507 t508).bind fun bt509 => (if t506 = bt509.2 then (if t506 = 0 then ((yard_Follow.f k2 t505).bind fun bt512 => (if (t505.size : Int) = (wrap64 (x7_2 - 2)) then (if (bt509.1.size : Int) = (t505.size : Int) then (if bt512.2.2 = 0 then (galloonlaw03_YardThere.j2 k2 t505 bt509.1 (!(bt512.1 == t491) || (!(bt512.2.1 == t492)))) else (galloonlaw03_YardThere.j2 k2 t505 bt509.1 true)) else (galloonlaw03_YardThere.j2 k2 t505 bt509.1 true)) else (galloonlaw03_YardThere.j2 k2 t505 bt509.1 true))) else (if t506 = 5 then (if (wrap64 (x7_2 - 2)) > 200 then ((galloonlaw03_awake.f k2).bind fun t511 => (some t511)) else (some false)) else (some false))) else (some false))) = some r := H
                have A34 := Aside0.mk A340
                clear A340
                replace H := Option.bind_eq_some_iff.mp H
                obtain ⟨⟨t509, t510⟩, A350, H⟩ := H
                replace H : (if t506 = t510 then (if t506 = 0 then ((yard_Follow.f k2 t505).bind fun bt512 => (if (t505.size : Int) = (wrap64 (x7_2 - 2)) then (if (t509.size : Int) = (t505.size : Int) then (if bt512.2.2 = 0 then (galloonlaw03_YardThere.j2 k2 t505 t509 (!(bt512.1 == t491) || (!(bt512.2.1 == t492)))) else (galloonlaw03_YardThere.j2 k2 t505 t509 true)) else (galloonlaw03_YardThere.j2 k2 t505 t509 true)) else (galloonlaw03_YardThere.j2 k2 t505 t509 true))) else (if t506 = 5 then (if (wrap64 (x7_2 - 2)) > 200 then ((galloonlaw03_awake.f k2).bind fun t511 => (some t511)) else (some false)) else (some false))) else (some false)) = some r := H
                have A35 := Aside0.mk A350
                clear A350
                by_cases c36 : t506 = t510
                · rw [if_pos c36] at H
                  have c36b0 : (t506 == t510) = true := beq_iff_eq.mpr c36
                  have c36b1 : (t506 != t510) = false := bne_eq_false_iff_eq.mpr c36
                  clear c36
                  by_cases c37 : t506 = 0
                  · rw [if_pos c37] at H
                    have c37b0 : (t506 == 0) = true := beq_iff_eq.mpr c37
                    have c37b1 : (t506 != 0) = false := bne_eq_false_iff_eq.mpr c37
                    clear c37
                    replace H := Option.bind_eq_some_iff.mp H
                    obtain ⟨⟨t512, t513, t514⟩, A380, H⟩ := H
                    replace H : (if (t505.size : Int) = (wrap64 (x7_2 - 2)) then (if (t509.size : Int) = (t505.size : Int) then (if t514 = 0 then (galloonlaw03_YardThere.j2 k2 t505 t509 (!(t512 == t491) || (!(t513 == t492)))) else (galloonlaw03_YardThere.j2 k2 t505 t509 true)) else (galloonlaw03_YardThere.j2 k2 t505 t509 true)) else (galloonlaw03_YardThere.j2 k2 t505 t509 true)) = some r := H
                    have A38 := Aside0.mk A380
                    clear A380
                    have HC39 := Aside0.mk H
                    clear H
                    have hnb40 := NB490_500.out
                    have hnc40 := NB500_490.out
                    have hcz41_0 : wr.cell? ⟨gb490, 0, none⟩ = some (.int .i64 t491) := (blk_cell BK490.out 0).trans rfl
                    have hcz41_1 : wr.cell? ⟨gb490, 1, none⟩ = some (.int .i64 t492) := (blk_cell BK490.out 1).trans rfl
                    have hfz41_0 := blk_frozen BK490.out 0
                    have hfz41_1 := blk_frozen BK490.out 1
                    go_upto_region 22 with (first | (go_at_call 17; (with_reducible refine (yard_Path.calls k2 t491 t492 t505 t506 _ A33.out).mono ?_); rintro e w42 ⟨rfl, hb⟩; have n0_ := Aside0.mk (Kd.R_below (by (with_reducible repeat (first | apply Kd.R_alloc | apply Kd.R_drewN | apply Kd.R_drew)); exact HO_3.out) hb); have n1_ := Aside0.mk (blk_below (g := gb490) (o := .cells #[.int .i64 t491, .int .i64 t492] 23 (0, 0)) (by (with_reducible repeat (first | refine blk_drewN ?_ _ | refine blk_drew ?_ | refine blk_alloc ?_ _)); exact BK490.out) hb); have n2_ := Aside0.mk (blk_below (g := gb500) (o := .cells #[.int .i64 t497, .int .i64 t498] 23 (0, 0)) (by (with_reducible repeat (first | refine blk_drewN ?_ _ | refine blk_drew ?_ | refine blk_alloc ?_ _)); exact BK500.out) hb); have n3_ := Aside0.mk (below_step (by repeat (first | (with_reducible first | exact HB.out | apply below_alloc | apply pw_below_drewN | apply below_drew1 | refine below_set ?_ GE490.out | refine below_set ?_ GE500.out) | exact HB.out)) hb); clear HO_3; clear BK490; clear BK500; clear HB; have HO_3 := n0_; have BK490 := n1_; have BK500 := n2_; have HB := n3_; clear n0_ n1_ n2_ n3_; (try clear hb); (try clear hb2); (try clear hk); (try clear hi); have hcz43_0 : w42.cell? ⟨gb490, 0, none⟩ = some (.int .i64 t491) := (blk_cell BK490.out 0).trans rfl; have hcz43_1 : w42.cell? ⟨gb490, 1, none⟩ = some (.int .i64 t492) := (blk_cell BK490.out 1).trans rfl; have hfz43_0 := blk_frozen BK490.out 0; have hfz43_1 := blk_frozen BK490.out 1) | (go_at_call 27; (with_reducible refine (galloonlaw03_rest.calls t491 t492 t507 t508 _ A34.out).mono ?_); rintro e w44 ⟨rfl, hb⟩; have n0_ := Aside0.mk (Kd.R_below (by (with_reducible repeat (first | apply Kd.R_alloc | apply Kd.R_drewN | apply Kd.R_drew)); exact HO_3.out) hb); have n1_ := Aside0.mk (blk_below (g := gb490) (o := .cells #[.int .i64 t491, .int .i64 t492] 23 (0, 0)) (by (with_reducible repeat (first | refine blk_drewN ?_ _ | refine blk_drew ?_ | refine blk_alloc ?_ _)); exact BK490.out) hb); have n2_ := Aside0.mk (blk_below (g := gb500) (o := .cells #[.int .i64 t497, .int .i64 t498] 23 (0, 0)) (by (with_reducible repeat (first | refine blk_drewN ?_ _ | refine blk_drew ?_ | refine blk_alloc ?_ _)); exact BK500.out) hb); have n3_ := Aside0.mk (below_step (by repeat (first | (with_reducible first | exact HB.out | apply below_alloc | apply pw_below_drewN | apply below_drew1 | refine below_set ?_ GE490.out | refine below_set ?_ GE500.out) | exact HB.out)) hb); clear HO_3; clear BK490; clear BK500; clear HB; have HO_3 := n0_; have BK490 := n1_; have BK500 := n2_; have HB := n3_; clear n0_ n1_ n2_ n3_; (try clear hb); (try clear hb2); (try clear hk); (try clear hi)) | (go_at_call 17; (with_reducible refine (yard_Path.calls k2 t507 t508 t509 t510 _ A35.out).mono ?_); rintro e w45 ⟨rfl, hb⟩; have n0_ := Aside0.mk (Kd.R_below (by (with_reducible repeat (first | apply Kd.R_alloc | apply Kd.R_drewN | apply Kd.R_drew)); exact HO_3.out) hb); have n1_ := Aside0.mk (blk_below (g := gb490) (o := .cells #[.int .i64 t491, .int .i64 t492] 23 (0, 0)) (by (with_reducible repeat (first | refine blk_drewN ?_ _ | refine blk_drew ?_ | refine blk_alloc ?_ _)); exact BK490.out) hb); have n2_ := Aside0.mk (blk_below (g := gb500) (o := .cells #[.int .i64 t497, .int .i64 t498] 23 (0, 0)) (by (with_reducible repeat (first | refine blk_drewN ?_ _ | refine blk_drew ?_ | refine blk_alloc ?_ _)); exact BK500.out) hb); have n3_ := Aside0.mk (below_step (by repeat (first | (with_reducible first | exact HB.out | apply below_alloc | apply pw_below_drewN | apply below_drew1 | refine below_set ?_ GE490.out | refine below_set ?_ GE500.out) | exact HB.out)) hb); clear HO_3; clear BK490; clear BK500; clear HB; have HO_3 := n0_; have BK490 := n1_; have BK500 := n2_; have HB := n3_; clear n0_ n1_ n2_ n3_; (try clear hb); (try clear hb2); (try clear hk); (try clear hi)) | (go_at_call 39; (with_reducible refine (yard_Follow.calls k2 t505 t512 t513 t514 _ A38.out).mono ?_); rintro e w46 ⟨rfl, hb⟩; have n0_ := Aside0.mk (Kd.R_below (by (with_reducible repeat (first | apply Kd.R_alloc | apply Kd.R_drewN | apply Kd.R_drew)); exact HO_3.out) hb); have n1_ := Aside0.mk (blk_below (g := gb490) (o := .cells #[.int .i64 t491, .int .i64 t492] 23 (0, 0)) (by (with_reducible repeat (first | refine blk_drewN ?_ _ | refine blk_drew ?_ | refine blk_alloc ?_ _)); exact BK490.out) hb); have n2_ := Aside0.mk (blk_below (g := gb500) (o := .cells #[.int .i64 t497, .int .i64 t498] 23 (0, 0)) (by (with_reducible repeat (first | refine blk_drewN ?_ _ | refine blk_drew ?_ | refine blk_alloc ?_ _)); exact BK500.out) hb); have n3_ := Aside0.mk (below_step (by repeat (first | (with_reducible first | exact HB.out | apply below_alloc | apply pw_below_drewN | apply below_drew1 | refine below_set ?_ GE490.out | refine below_set ?_ GE500.out) | exact HB.out)) hb); clear HO_3; clear BK490; clear BK500; clear HB; have HO_3 := n0_; have BK490 := n1_; have BK500 := n2_; have HB := n3_; clear n0_ n1_ n2_ n3_; (try clear hb); (try clear hb2); (try clear hk); (try clear hi)) | ((with_reducible refine gate_dst (N := 13) rfl ?_); (try (refine gate_guard (by rfl) ?_; dsimp only)); refine box_event ?hg (N := 13) ?hd (cs := #[.int .i64 0, .int .i64 0]) (t := 23) ?hr ?_; (case hd => rfl); (case hg => rfl); (case hr => first | (go_simp; done) | (go_simp; rfl)); intro gb515 hg w47 hbox hb; have n0_ := Aside0.mk (Kd.R_below (by (with_reducible repeat (first | apply Kd.R_alloc | apply Kd.R_drewN | apply Kd.R_drew)); exact HO_3.out) hb); have n1_ := Aside0.mk (blk_below (g := gb490) (o := .cells #[.int .i64 t491, .int .i64 t492] 23 (0, 0)) (by (with_reducible repeat (first | refine blk_drewN ?_ _ | refine blk_drew ?_ | refine blk_alloc ?_ _)); exact BK490.out) hb); have n2_ := Aside0.mk (blk_below (g := gb500) (o := .cells #[.int .i64 t497, .int .i64 t498] 23 (0, 0)) (by (with_reducible repeat (first | refine blk_drewN ?_ _ | refine blk_drew ?_ | refine blk_alloc ?_ _)); exact BK500.out) hb); have n3_ := Aside0.mk (below_step (by repeat (first | (with_reducible first | exact HB.out | apply below_alloc | apply pw_below_drewN | apply below_drew1 | refine below_set ?_ GE490.out | refine below_set ?_ GE500.out) | exact HB.out)) hb); have n4_ := Aside0.mk (hbox); have n5_ := Aside0.mk ((by rw [hg]; exact (below_size (by repeat (first | (with_reducible first | exact HB.out | apply below_alloc | apply pw_below_drewN | apply below_drew1 | refine below_set ?_ GE490.out | refine below_set ?_ GE500.out) | exact HB.out))) : w.heap.size ≤ gb515)); have n6_ := Aside0.mk ((by rw [hg]; exact (below_size (by repeat (first | (with_reducible first | exact HB.out | apply below_alloc | apply pw_below_drewN | apply below_drew1 | refine below_set ?_ GE490.out | refine below_set ?_ GE500.out) | exact HB.out))) : w.heap.size ≤ gb515)); have n7_ := Aside0.mk ((by rw [hg]; exact Nat.ne_of_lt (blk_lt (g := gb490) (o := .cells #[.int .i64 t491, .int .i64 t492] 23 (0, 0)) (by (with_reducible repeat (first | refine blk_drewN ?_ _ | refine blk_drew ?_ | refine blk_alloc ?_ _)); exact BK490.out)) : gb490 ≠ gb515)); have n8_ := Aside0.mk ((by rw [hg]; exact Nat.ne_of_gt (blk_lt (g := gb490) (o := .cells #[.int .i64 t491, .int .i64 t492] 23 (0, 0)) (by (with_reducible repeat (first | refine blk_drewN ?_ _ | refine blk_drew ?_ | refine blk_alloc ?_ _)); exact BK490.out)) : gb515 ≠ gb490)); have n9_ := Aside0.mk ((by rw [hg]; exact Nat.ne_of_lt (blk_lt (g := gb500) (o := .cells #[.int .i64 t497, .int .i64 t498] 23 (0, 0)) (by (with_reducible repeat (first | refine blk_drewN ?_ _ | refine blk_drew ?_ | refine blk_alloc ?_ _)); exact BK500.out)) : gb500 ≠ gb515)); have n10_ := Aside0.mk ((by rw [hg]; exact Nat.ne_of_gt (blk_lt (g := gb500) (o := .cells #[.int .i64 t497, .int .i64 t498] 23 (0, 0)) (by (with_reducible repeat (first | refine blk_drewN ?_ _ | refine blk_drew ?_ | refine blk_alloc ?_ _)); exact BK500.out)) : gb515 ≠ gb500)); clear HO_3; clear BK490; clear BK500; clear HB; have HO_3 := n0_; have BK490 := n1_; have BK500 := n2_; have HB := n3_; have BK515 := n4_; have GW515 := n5_; have GE515 := n6_; have NB490_515 := n7_; have NB515_490 := n8_; have NB500_515 := n9_; have NB515_500 := n10_; clear n0_ n1_ n2_ n3_ n4_ n5_ n6_ n7_ n8_ n9_ n10_; clear hb hbox hg; have hnb48 := NB515_490.out; have hnc48 := NB490_515.out; have hnb49 := NB515_500.out; have hnc49 := NB500_515.out; have hcz50_0 : w47.cell? ⟨gb515, 0, none⟩ = some (.int .i64 0) := (blk_cell BK515.out 0).trans rfl; have hcz50_1 : w47.cell? ⟨gb515, 1, none⟩ = some (.int .i64 0) := (blk_cell BK515.out 1).trans rfl; have hfz50_0 := blk_frozen BK515.out 0; have hfz50_1 := blk_frozen BK515.out 1))
                    repeat (go_quiet (first | (go_at_call 17; (with_reducible refine (yard_Path.calls k2 t491 t492 t505 t506 _ A33.out).mono ?_); rintro e w42 ⟨rfl, hb⟩; have n0_ := Aside0.mk (Kd.R_below (by (with_reducible repeat (first | apply Kd.R_alloc | apply Kd.R_drewN | apply Kd.R_drew)); exact HO_3.out) hb); have n1_ := Aside0.mk (blk_below (g := gb490) (o := .cells #[.int .i64 t491, .int .i64 t492] 23 (0, 0)) (by (with_reducible repeat (first | refine blk_drewN ?_ _ | refine blk_drew ?_ | refine blk_alloc ?_ _)); exact BK490.out) hb); have n2_ := Aside0.mk (blk_below (g := gb500) (o := .cells #[.int .i64 t497, .int .i64 t498] 23 (0, 0)) (by (with_reducible repeat (first | refine blk_drewN ?_ _ | refine blk_drew ?_ | refine blk_alloc ?_ _)); exact BK500.out) hb); have n3_ := Aside0.mk (below_step (by repeat (first | (with_reducible first | exact HB.out | apply below_alloc | apply pw_below_drewN | apply below_drew1 | refine below_set ?_ GE490.out | refine below_set ?_ GE500.out) | exact HB.out)) hb); clear HO_3; clear BK490; clear BK500; clear HB; have HO_3 := n0_; have BK490 := n1_; have BK500 := n2_; have HB := n3_; clear n0_ n1_ n2_ n3_; (try clear hb); (try clear hb2); (try clear hk); (try clear hi); have hcz43_0 : w42.cell? ⟨gb490, 0, none⟩ = some (.int .i64 t491) := (blk_cell BK490.out 0).trans rfl; have hcz43_1 : w42.cell? ⟨gb490, 1, none⟩ = some (.int .i64 t492) := (blk_cell BK490.out 1).trans rfl; have hfz43_0 := blk_frozen BK490.out 0; have hfz43_1 := blk_frozen BK490.out 1) | (go_at_call 27; (with_reducible refine (galloonlaw03_rest.calls t491 t492 t507 t508 _ A34.out).mono ?_); rintro e w44 ⟨rfl, hb⟩; have n0_ := Aside0.mk (Kd.R_below (by (with_reducible repeat (first | apply Kd.R_alloc | apply Kd.R_drewN | apply Kd.R_drew)); exact HO_3.out) hb); have n1_ := Aside0.mk (blk_below (g := gb490) (o := .cells #[.int .i64 t491, .int .i64 t492] 23 (0, 0)) (by (with_reducible repeat (first | refine blk_drewN ?_ _ | refine blk_drew ?_ | refine blk_alloc ?_ _)); exact BK490.out) hb); have n2_ := Aside0.mk (blk_below (g := gb500) (o := .cells #[.int .i64 t497, .int .i64 t498] 23 (0, 0)) (by (with_reducible repeat (first | refine blk_drewN ?_ _ | refine blk_drew ?_ | refine blk_alloc ?_ _)); exact BK500.out) hb); have n3_ := Aside0.mk (below_step (by repeat (first | (with_reducible first | exact HB.out | apply below_alloc | apply pw_below_drewN | apply below_drew1 | refine below_set ?_ GE490.out | refine below_set ?_ GE500.out) | exact HB.out)) hb); clear HO_3; clear BK490; clear BK500; clear HB; have HO_3 := n0_; have BK490 := n1_; have BK500 := n2_; have HB := n3_; clear n0_ n1_ n2_ n3_; (try clear hb); (try clear hb2); (try clear hk); (try clear hi)) | (go_at_call 17; (with_reducible refine (yard_Path.calls k2 t507 t508 t509 t510 _ A35.out).mono ?_); rintro e w45 ⟨rfl, hb⟩; have n0_ := Aside0.mk (Kd.R_below (by (with_reducible repeat (first | apply Kd.R_alloc | apply Kd.R_drewN | apply Kd.R_drew)); exact HO_3.out) hb); have n1_ := Aside0.mk (blk_below (g := gb490) (o := .cells #[.int .i64 t491, .int .i64 t492] 23 (0, 0)) (by (with_reducible repeat (first | refine blk_drewN ?_ _ | refine blk_drew ?_ | refine blk_alloc ?_ _)); exact BK490.out) hb); have n2_ := Aside0.mk (blk_below (g := gb500) (o := .cells #[.int .i64 t497, .int .i64 t498] 23 (0, 0)) (by (with_reducible repeat (first | refine blk_drewN ?_ _ | refine blk_drew ?_ | refine blk_alloc ?_ _)); exact BK500.out) hb); have n3_ := Aside0.mk (below_step (by repeat (first | (with_reducible first | exact HB.out | apply below_alloc | apply pw_below_drewN | apply below_drew1 | refine below_set ?_ GE490.out | refine below_set ?_ GE500.out) | exact HB.out)) hb); clear HO_3; clear BK490; clear BK500; clear HB; have HO_3 := n0_; have BK490 := n1_; have BK500 := n2_; have HB := n3_; clear n0_ n1_ n2_ n3_; (try clear hb); (try clear hb2); (try clear hk); (try clear hi)) | (go_at_call 39; (with_reducible refine (yard_Follow.calls k2 t505 t512 t513 t514 _ A38.out).mono ?_); rintro e w46 ⟨rfl, hb⟩; have n0_ := Aside0.mk (Kd.R_below (by (with_reducible repeat (first | apply Kd.R_alloc | apply Kd.R_drewN | apply Kd.R_drew)); exact HO_3.out) hb); have n1_ := Aside0.mk (blk_below (g := gb490) (o := .cells #[.int .i64 t491, .int .i64 t492] 23 (0, 0)) (by (with_reducible repeat (first | refine blk_drewN ?_ _ | refine blk_drew ?_ | refine blk_alloc ?_ _)); exact BK490.out) hb); have n2_ := Aside0.mk (blk_below (g := gb500) (o := .cells #[.int .i64 t497, .int .i64 t498] 23 (0, 0)) (by (with_reducible repeat (first | refine blk_drewN ?_ _ | refine blk_drew ?_ | refine blk_alloc ?_ _)); exact BK500.out) hb); have n3_ := Aside0.mk (below_step (by repeat (first | (with_reducible first | exact HB.out | apply below_alloc | apply pw_below_drewN | apply below_drew1 | refine below_set ?_ GE490.out | refine below_set ?_ GE500.out) | exact HB.out)) hb); clear HO_3; clear BK490; clear BK500; clear HB; have HO_3 := n0_; have BK490 := n1_; have BK500 := n2_; have HB := n3_; clear n0_ n1_ n2_ n3_; (try clear hb); (try clear hb2); (try clear hk); (try clear hi)) | ((with_reducible refine gate_dst (N := 13) rfl ?_); (try (refine gate_guard (by rfl) ?_; dsimp only)); refine box_event ?hg (N := 13) ?hd (cs := #[.int .i64 0, .int .i64 0]) (t := 23) ?hr ?_; (case hd => rfl); (case hg => rfl); (case hr => first | (go_simp; done) | (go_simp; rfl)); intro gb515 hg w47 hbox hb; have n0_ := Aside0.mk (Kd.R_below (by (with_reducible repeat (first | apply Kd.R_alloc | apply Kd.R_drewN | apply Kd.R_drew)); exact HO_3.out) hb); have n1_ := Aside0.mk (blk_below (g := gb490) (o := .cells #[.int .i64 t491, .int .i64 t492] 23 (0, 0)) (by (with_reducible repeat (first | refine blk_drewN ?_ _ | refine blk_drew ?_ | refine blk_alloc ?_ _)); exact BK490.out) hb); have n2_ := Aside0.mk (blk_below (g := gb500) (o := .cells #[.int .i64 t497, .int .i64 t498] 23 (0, 0)) (by (with_reducible repeat (first | refine blk_drewN ?_ _ | refine blk_drew ?_ | refine blk_alloc ?_ _)); exact BK500.out) hb); have n3_ := Aside0.mk (below_step (by repeat (first | (with_reducible first | exact HB.out | apply below_alloc | apply pw_below_drewN | apply below_drew1 | refine below_set ?_ GE490.out | refine below_set ?_ GE500.out) | exact HB.out)) hb); have n4_ := Aside0.mk (hbox); have n5_ := Aside0.mk ((by rw [hg]; exact (below_size (by repeat (first | (with_reducible first | exact HB.out | apply below_alloc | apply pw_below_drewN | apply below_drew1 | refine below_set ?_ GE490.out | refine below_set ?_ GE500.out) | exact HB.out))) : w.heap.size ≤ gb515)); have n6_ := Aside0.mk ((by rw [hg]; exact (below_size (by repeat (first | (with_reducible first | exact HB.out | apply below_alloc | apply pw_below_drewN | apply below_drew1 | refine below_set ?_ GE490.out | refine below_set ?_ GE500.out) | exact HB.out))) : w.heap.size ≤ gb515)); have n7_ := Aside0.mk ((by rw [hg]; exact Nat.ne_of_lt (blk_lt (g := gb490) (o := .cells #[.int .i64 t491, .int .i64 t492] 23 (0, 0)) (by (with_reducible repeat (first | refine blk_drewN ?_ _ | refine blk_drew ?_ | refine blk_alloc ?_ _)); exact BK490.out)) : gb490 ≠ gb515)); have n8_ := Aside0.mk ((by rw [hg]; exact Nat.ne_of_gt (blk_lt (g := gb490) (o := .cells #[.int .i64 t491, .int .i64 t492] 23 (0, 0)) (by (with_reducible repeat (first | refine blk_drewN ?_ _ | refine blk_drew ?_ | refine blk_alloc ?_ _)); exact BK490.out)) : gb515 ≠ gb490)); have n9_ := Aside0.mk ((by rw [hg]; exact Nat.ne_of_lt (blk_lt (g := gb500) (o := .cells #[.int .i64 t497, .int .i64 t498] 23 (0, 0)) (by (with_reducible repeat (first | refine blk_drewN ?_ _ | refine blk_drew ?_ | refine blk_alloc ?_ _)); exact BK500.out)) : gb500 ≠ gb515)); have n10_ := Aside0.mk ((by rw [hg]; exact Nat.ne_of_gt (blk_lt (g := gb500) (o := .cells #[.int .i64 t497, .int .i64 t498] 23 (0, 0)) (by (with_reducible repeat (first | refine blk_drewN ?_ _ | refine blk_drew ?_ | refine blk_alloc ?_ _)); exact BK500.out)) : gb515 ≠ gb500)); clear HO_3; clear BK490; clear BK500; clear HB; have HO_3 := n0_; have BK490 := n1_; have BK500 := n2_; have HB := n3_; have BK515 := n4_; have GW515 := n5_; have GE515 := n6_; have NB490_515 := n7_; have NB515_490 := n8_; have NB500_515 := n9_; have NB515_500 := n10_; clear n0_ n1_ n2_ n3_ n4_ n5_ n6_ n7_ n8_ n9_ n10_; clear hb hbox hg; have hnb48 := NB515_490.out; have hnc48 := NB490_515.out; have hnb49 := NB515_500.out; have hnc49 := NB500_515.out; have hcz50_0 : w47.cell? ⟨gb515, 0, none⟩ = some (.int .i64 0) := (blk_cell BK515.out 0).trans rfl; have hcz50_1 : w47.cell? ⟨gb515, 1, none⟩ = some (.int .i64 0) := (blk_cell BK515.out 1).trans rfl; have hfz50_0 := blk_frozen BK515.out 0; have hfz50_1 := blk_frozen BK515.out 1)); go_upto_region 22 with (first | (go_at_call 17; (with_reducible refine (yard_Path.calls k2 t491 t492 t505 t506 _ A33.out).mono ?_); rintro e w42 ⟨rfl, hb⟩; have n0_ := Aside0.mk (Kd.R_below (by (with_reducible repeat (first | apply Kd.R_alloc | apply Kd.R_drewN | apply Kd.R_drew)); exact HO_3.out) hb); have n1_ := Aside0.mk (blk_below (g := gb490) (o := .cells #[.int .i64 t491, .int .i64 t492] 23 (0, 0)) (by (with_reducible repeat (first | refine blk_drewN ?_ _ | refine blk_drew ?_ | refine blk_alloc ?_ _)); exact BK490.out) hb); have n2_ := Aside0.mk (blk_below (g := gb500) (o := .cells #[.int .i64 t497, .int .i64 t498] 23 (0, 0)) (by (with_reducible repeat (first | refine blk_drewN ?_ _ | refine blk_drew ?_ | refine blk_alloc ?_ _)); exact BK500.out) hb); have n3_ := Aside0.mk (below_step (by repeat (first | (with_reducible first | exact HB.out | apply below_alloc | apply pw_below_drewN | apply below_drew1 | refine below_set ?_ GE490.out | refine below_set ?_ GE500.out) | exact HB.out)) hb); clear HO_3; clear BK490; clear BK500; clear HB; have HO_3 := n0_; have BK490 := n1_; have BK500 := n2_; have HB := n3_; clear n0_ n1_ n2_ n3_; (try clear hb); (try clear hb2); (try clear hk); (try clear hi); have hcz43_0 : w42.cell? ⟨gb490, 0, none⟩ = some (.int .i64 t491) := (blk_cell BK490.out 0).trans rfl; have hcz43_1 : w42.cell? ⟨gb490, 1, none⟩ = some (.int .i64 t492) := (blk_cell BK490.out 1).trans rfl; have hfz43_0 := blk_frozen BK490.out 0; have hfz43_1 := blk_frozen BK490.out 1) | (go_at_call 27; (with_reducible refine (galloonlaw03_rest.calls t491 t492 t507 t508 _ A34.out).mono ?_); rintro e w44 ⟨rfl, hb⟩; have n0_ := Aside0.mk (Kd.R_below (by (with_reducible repeat (first | apply Kd.R_alloc | apply Kd.R_drewN | apply Kd.R_drew)); exact HO_3.out) hb); have n1_ := Aside0.mk (blk_below (g := gb490) (o := .cells #[.int .i64 t491, .int .i64 t492] 23 (0, 0)) (by (with_reducible repeat (first | refine blk_drewN ?_ _ | refine blk_drew ?_ | refine blk_alloc ?_ _)); exact BK490.out) hb); have n2_ := Aside0.mk (blk_below (g := gb500) (o := .cells #[.int .i64 t497, .int .i64 t498] 23 (0, 0)) (by (with_reducible repeat (first | refine blk_drewN ?_ _ | refine blk_drew ?_ | refine blk_alloc ?_ _)); exact BK500.out) hb); have n3_ := Aside0.mk (below_step (by repeat (first | (with_reducible first | exact HB.out | apply below_alloc | apply pw_below_drewN | apply below_drew1 | refine below_set ?_ GE490.out | refine below_set ?_ GE500.out) | exact HB.out)) hb); clear HO_3; clear BK490; clear BK500; clear HB; have HO_3 := n0_; have BK490 := n1_; have BK500 := n2_; have HB := n3_; clear n0_ n1_ n2_ n3_; (try clear hb); (try clear hb2); (try clear hk); (try clear hi)) | (go_at_call 17; (with_reducible refine (yard_Path.calls k2 t507 t508 t509 t510 _ A35.out).mono ?_); rintro e w45 ⟨rfl, hb⟩; have n0_ := Aside0.mk (Kd.R_below (by (with_reducible repeat (first | apply Kd.R_alloc | apply Kd.R_drewN | apply Kd.R_drew)); exact HO_3.out) hb); have n1_ := Aside0.mk (blk_below (g := gb490) (o := .cells #[.int .i64 t491, .int .i64 t492] 23 (0, 0)) (by (with_reducible repeat (first | refine blk_drewN ?_ _ | refine blk_drew ?_ | refine blk_alloc ?_ _)); exact BK490.out) hb); have n2_ := Aside0.mk (blk_below (g := gb500) (o := .cells #[.int .i64 t497, .int .i64 t498] 23 (0, 0)) (by (with_reducible repeat (first | refine blk_drewN ?_ _ | refine blk_drew ?_ | refine blk_alloc ?_ _)); exact BK500.out) hb); have n3_ := Aside0.mk (below_step (by repeat (first | (with_reducible first | exact HB.out | apply below_alloc | apply pw_below_drewN | apply below_drew1 | refine below_set ?_ GE490.out | refine below_set ?_ GE500.out) | exact HB.out)) hb); clear HO_3; clear BK490; clear BK500; clear HB; have HO_3 := n0_; have BK490 := n1_; have BK500 := n2_; have HB := n3_; clear n0_ n1_ n2_ n3_; (try clear hb); (try clear hb2); (try clear hk); (try clear hi)) | (go_at_call 39; (with_reducible refine (yard_Follow.calls k2 t505 t512 t513 t514 _ A38.out).mono ?_); rintro e w46 ⟨rfl, hb⟩; have n0_ := Aside0.mk (Kd.R_below (by (with_reducible repeat (first | apply Kd.R_alloc | apply Kd.R_drewN | apply Kd.R_drew)); exact HO_3.out) hb); have n1_ := Aside0.mk (blk_below (g := gb490) (o := .cells #[.int .i64 t491, .int .i64 t492] 23 (0, 0)) (by (with_reducible repeat (first | refine blk_drewN ?_ _ | refine blk_drew ?_ | refine blk_alloc ?_ _)); exact BK490.out) hb); have n2_ := Aside0.mk (blk_below (g := gb500) (o := .cells #[.int .i64 t497, .int .i64 t498] 23 (0, 0)) (by (with_reducible repeat (first | refine blk_drewN ?_ _ | refine blk_drew ?_ | refine blk_alloc ?_ _)); exact BK500.out) hb); have n3_ := Aside0.mk (below_step (by repeat (first | (with_reducible first | exact HB.out | apply below_alloc | apply pw_below_drewN | apply below_drew1 | refine below_set ?_ GE490.out | refine below_set ?_ GE500.out) | exact HB.out)) hb); clear HO_3; clear BK490; clear BK500; clear HB; have HO_3 := n0_; have BK490 := n1_; have BK500 := n2_; have HB := n3_; clear n0_ n1_ n2_ n3_; (try clear hb); (try clear hb2); (try clear hk); (try clear hi)) | ((with_reducible refine gate_dst (N := 13) rfl ?_); (try (refine gate_guard (by rfl) ?_; dsimp only)); refine box_event ?hg (N := 13) ?hd (cs := #[.int .i64 0, .int .i64 0]) (t := 23) ?hr ?_; (case hd => rfl); (case hg => rfl); (case hr => first | (go_simp; done) | (go_simp; rfl)); intro gb515 hg w47 hbox hb; have n0_ := Aside0.mk (Kd.R_below (by (with_reducible repeat (first | apply Kd.R_alloc | apply Kd.R_drewN | apply Kd.R_drew)); exact HO_3.out) hb); have n1_ := Aside0.mk (blk_below (g := gb490) (o := .cells #[.int .i64 t491, .int .i64 t492] 23 (0, 0)) (by (with_reducible repeat (first | refine blk_drewN ?_ _ | refine blk_drew ?_ | refine blk_alloc ?_ _)); exact BK490.out) hb); have n2_ := Aside0.mk (blk_below (g := gb500) (o := .cells #[.int .i64 t497, .int .i64 t498] 23 (0, 0)) (by (with_reducible repeat (first | refine blk_drewN ?_ _ | refine blk_drew ?_ | refine blk_alloc ?_ _)); exact BK500.out) hb); have n3_ := Aside0.mk (below_step (by repeat (first | (with_reducible first | exact HB.out | apply below_alloc | apply pw_below_drewN | apply below_drew1 | refine below_set ?_ GE490.out | refine below_set ?_ GE500.out) | exact HB.out)) hb); have n4_ := Aside0.mk (hbox); have n5_ := Aside0.mk ((by rw [hg]; exact (below_size (by repeat (first | (with_reducible first | exact HB.out | apply below_alloc | apply pw_below_drewN | apply below_drew1 | refine below_set ?_ GE490.out | refine below_set ?_ GE500.out) | exact HB.out))) : w.heap.size ≤ gb515)); have n6_ := Aside0.mk ((by rw [hg]; exact (below_size (by repeat (first | (with_reducible first | exact HB.out | apply below_alloc | apply pw_below_drewN | apply below_drew1 | refine below_set ?_ GE490.out | refine below_set ?_ GE500.out) | exact HB.out))) : w.heap.size ≤ gb515)); have n7_ := Aside0.mk ((by rw [hg]; exact Nat.ne_of_lt (blk_lt (g := gb490) (o := .cells #[.int .i64 t491, .int .i64 t492] 23 (0, 0)) (by (with_reducible repeat (first | refine blk_drewN ?_ _ | refine blk_drew ?_ | refine blk_alloc ?_ _)); exact BK490.out)) : gb490 ≠ gb515)); have n8_ := Aside0.mk ((by rw [hg]; exact Nat.ne_of_gt (blk_lt (g := gb490) (o := .cells #[.int .i64 t491, .int .i64 t492] 23 (0, 0)) (by (with_reducible repeat (first | refine blk_drewN ?_ _ | refine blk_drew ?_ | refine blk_alloc ?_ _)); exact BK490.out)) : gb515 ≠ gb490)); have n9_ := Aside0.mk ((by rw [hg]; exact Nat.ne_of_lt (blk_lt (g := gb500) (o := .cells #[.int .i64 t497, .int .i64 t498] 23 (0, 0)) (by (with_reducible repeat (first | refine blk_drewN ?_ _ | refine blk_drew ?_ | refine blk_alloc ?_ _)); exact BK500.out)) : gb500 ≠ gb515)); have n10_ := Aside0.mk ((by rw [hg]; exact Nat.ne_of_gt (blk_lt (g := gb500) (o := .cells #[.int .i64 t497, .int .i64 t498] 23 (0, 0)) (by (with_reducible repeat (first | refine blk_drewN ?_ _ | refine blk_drew ?_ | refine blk_alloc ?_ _)); exact BK500.out)) : gb515 ≠ gb500)); clear HO_3; clear BK490; clear BK500; clear HB; have HO_3 := n0_; have BK490 := n1_; have BK500 := n2_; have HB := n3_; have BK515 := n4_; have GW515 := n5_; have GE515 := n6_; have NB490_515 := n7_; have NB515_490 := n8_; have NB500_515 := n9_; have NB515_500 := n10_; clear n0_ n1_ n2_ n3_ n4_ n5_ n6_ n7_ n8_ n9_ n10_; clear hb hbox hg; have hnb48 := NB515_490.out; have hnc48 := NB490_515.out; have hnb49 := NB515_500.out; have hnc49 := NB500_515.out; have hcz50_0 : w47.cell? ⟨gb515, 0, none⟩ = some (.int .i64 0) := (blk_cell BK515.out 0).trans rfl; have hcz50_1 : w47.cell? ⟨gb515, 1, none⟩ = some (.int .i64 0) := (blk_cell BK515.out 1).trans rfl; have hfz50_0 := blk_frozen BK515.out 0; have hfz50_1 := blk_frozen BK515.out 1)))
                    (try simp only [Act.put, List.setIfInBounds_toArray, List.set_cons_zero, List.set_cons_succ])
                    go_cut [118] (fun v118 wc => ∃ (kq : Nat) (x118_38 : Bool), v118 = .bool x118_38 ∧ Aside0 (galloonlaw03_YardThere.j2 kq t505 t509 x118_38 = some r) ∧ Aside0 (kq ≤ k2) ∧ Aside0 (wc.heap[gb490]? = some (.cells #[.int .i64 t491, .int .i64 t492] 23 (0, 0))) ∧ Aside0 (wc.heap[gb500]? = some (.cells #[.int .i64 t497, .int .i64 t498] 23 (0, 0))) ∧ Aside0 (wc.heap[gb515]? = some (.cells #[.int .i64 t512, .int .i64 t513] 23 (0, 0))) ∧ Aside0 (Below w.heap.size w wc))
                    case first =>
                      have H := HC39.out
                      clear HC39
                      by_cases c51 : (t505.size : Int) = (wrap64 (x7_2 - 2))
                      · rw [if_pos c51] at H
                        have c51b0 : ((t505.size : Int) == (wrap64 (x7_2 - 2))) = true := beq_iff_eq.mpr c51
                        have c51b1 : ((t505.size : Int) != (wrap64 (x7_2 - 2))) = false := bne_eq_false_iff_eq.mpr c51
                        clear c51
                        (first | rw [c51b0] | (simp only [i64_w, i32_w]; rw [c51b0]) | skip)
                        by_cases c52 : (t509.size : Int) = (t505.size : Int)
                        · rw [if_pos c52] at H
                          have c52b0 : ((t509.size : Int) == (t505.size : Int)) = true := beq_iff_eq.mpr c52
                          have c52b1 : ((t509.size : Int) != (t505.size : Int)) = false := bne_eq_false_iff_eq.mpr c52
                          have c52b2 : (t509.size == t505.size) = true := by first | simpa using c52 | (simp at c52 ⊢; omega)
                          clear c52
                          by_cases c53 : t514 = 0
                          · rw [if_pos c53] at H
                            have c53b0 : (t514 == 0) = true := beq_iff_eq.mpr c53
                            have c53b1 : (t514 != 0) = false := bne_eq_false_iff_eq.mpr c53
                            clear c53
                            have H' := Aside0.mk H
                            clear H
                            have hnb54 := NB515_490.out
                            have hnc54 := NB490_515.out
                            have hnb55 := NB515_500.out
                            have hnc55 := NB500_515.out
                            have hcz56_0 : w47.cell? ⟨gb515, 0, none⟩ = some (.int .i64 0) := (blk_cell BK515.out 0).trans rfl
                            have hcz56_1 : w47.cell? ⟨gb515, 1, none⟩ = some (.int .i64 0) := (blk_cell BK515.out 1).trans rfl
                            have hfz56_0 := blk_frozen BK515.out 0
                            have hfz56_1 := blk_frozen BK515.out 1
                            have hnb57 := NB490_500.out
                            have hnc57 := NB500_490.out
                            have hcz58_0 : w47.cell? ⟨gb490, 0, none⟩ = some (.int .i64 t491) := (blk_cell BK490.out 0).trans rfl
                            have hcz58_1 : w47.cell? ⟨gb490, 1, none⟩ = some (.int .i64 t492) := (blk_cell BK490.out 1).trans rfl
                            have hfz58_0 := blk_frozen BK490.out 0
                            have hfz58_1 := blk_frozen BK490.out 1
                            go_wp2
                            repeat (go_quiet (fail); try go_wp2)
                            go_meet
                            case rel => exact ⟨_, ((!(t512 == t491) || (!(t513 == t492)))), (by first | rfl | (simp; done) | (simp [*]; done)), H', ⟨by have := HJ4.out; have := HK2.out; first | omega | exact Nat.le_refl _⟩, ⟨by (with_reducible repeat (first | refine blk_drewN ?_ _ | refine blk_drew ?_ | refine blk_alloc ?_ _)); refine blk_far ?_ NB490_515.out _; (with_reducible repeat (first | refine blk_drewN ?_ _ | refine blk_drew ?_ | refine blk_alloc ?_ _)); refine blk_far ?_ NB490_515.out _; (with_reducible repeat (first | refine blk_drewN ?_ _ | refine blk_drew ?_ | refine blk_alloc ?_ _)); exact BK490.out⟩, ⟨by (with_reducible repeat (first | refine blk_drewN ?_ _ | refine blk_drew ?_ | refine blk_alloc ?_ _)); refine blk_far ?_ NB500_515.out _; (with_reducible repeat (first | refine blk_drewN ?_ _ | refine blk_drew ?_ | refine blk_alloc ?_ _)); refine blk_far ?_ NB500_515.out _; (with_reducible repeat (first | refine blk_drewN ?_ _ | refine blk_drew ?_ | refine blk_alloc ?_ _)); exact BK500.out⟩, ⟨by (with_reducible repeat (first | refine blk_drewN ?_ _ | refine blk_drew ?_ | refine blk_alloc ?_ _)); refine blk_put (cs := #[.int .i64 t512, .int .i64 0]) ?_ 1 _ rfl; (with_reducible repeat (first | refine blk_drewN ?_ _ | refine blk_drew ?_ | refine blk_alloc ?_ _)); refine blk_put (cs := #[.int .i64 0, .int .i64 0]) ?_ 0 _ rfl; (with_reducible repeat (first | refine blk_drewN ?_ _ | refine blk_drew ?_ | refine blk_alloc ?_ _)); exact BK515.out⟩, ⟨by repeat (first | (with_reducible first | exact HB.out | apply below_alloc | apply pw_below_drewN | apply below_drew1 | refine below_set ?_ GE490.out | refine below_set ?_ GE500.out | refine below_set ?_ GE515.out) | exact HB.out)⟩⟩
                          · rw [if_neg c53] at H
                            have c53b0 : (t514 == 0) = false := beq_eq_false_iff_ne.mpr c53
                            have c53b1 : (t514 != 0) = true := bne_iff_ne.mpr c53
                            have H' := Aside0.mk H
                            clear H
                            go_wp2
                            repeat (go_quiet (fail); try go_wp2)
                            go_meet
                            case rel => exact ⟨_, (true), (by first | rfl | (simp; done) | (simp [*]; done)), H', ⟨by have := HJ4.out; have := HK2.out; first | omega | exact Nat.le_refl _⟩, ⟨by (with_reducible repeat (first | refine blk_drewN ?_ _ | refine blk_drew ?_ | refine blk_alloc ?_ _)); refine blk_far ?_ NB490_515.out _; (with_reducible repeat (first | refine blk_drewN ?_ _ | refine blk_drew ?_ | refine blk_alloc ?_ _)); refine blk_far ?_ NB490_515.out _; (with_reducible repeat (first | refine blk_drewN ?_ _ | refine blk_drew ?_ | refine blk_alloc ?_ _)); exact BK490.out⟩, ⟨by (with_reducible repeat (first | refine blk_drewN ?_ _ | refine blk_drew ?_ | refine blk_alloc ?_ _)); refine blk_far ?_ NB500_515.out _; (with_reducible repeat (first | refine blk_drewN ?_ _ | refine blk_drew ?_ | refine blk_alloc ?_ _)); refine blk_far ?_ NB500_515.out _; (with_reducible repeat (first | refine blk_drewN ?_ _ | refine blk_drew ?_ | refine blk_alloc ?_ _)); exact BK500.out⟩, ⟨by (with_reducible repeat (first | refine blk_drewN ?_ _ | refine blk_drew ?_ | refine blk_alloc ?_ _)); refine blk_put (cs := #[.int .i64 t512, .int .i64 0]) ?_ 1 _ rfl; (with_reducible repeat (first | refine blk_drewN ?_ _ | refine blk_drew ?_ | refine blk_alloc ?_ _)); refine blk_put (cs := #[.int .i64 0, .int .i64 0]) ?_ 0 _ rfl; (with_reducible repeat (first | refine blk_drewN ?_ _ | refine blk_drew ?_ | refine blk_alloc ?_ _)); exact BK515.out⟩, ⟨by repeat (first | (with_reducible first | exact HB.out | apply below_alloc | apply pw_below_drewN | apply below_drew1 | refine below_set ?_ GE490.out | refine below_set ?_ GE500.out | refine below_set ?_ GE515.out) | exact HB.out)⟩⟩
                        · rw [if_neg c52] at H
                          have c52b0 : ((t509.size : Int) == (t505.size : Int)) = false := beq_eq_false_iff_ne.mpr c52
                          have c52b1 : ((t509.size : Int) != (t505.size : Int)) = true := bne_iff_ne.mpr c52
                          have c52b2 : (t509.size == t505.size) = false := by first | simpa using c52 | (simp at c52 ⊢; omega)
                          have H' := Aside0.mk H
                          clear H
                          go_wp2
                          repeat (go_quiet (fail); try go_wp2)
                          go_meet
                          case rel => exact ⟨_, (true), (by first | rfl | (simp; done) | (simp [*]; done)), H', ⟨by have := HJ4.out; have := HK2.out; first | omega | exact Nat.le_refl _⟩, ⟨by (with_reducible repeat (first | refine blk_drewN ?_ _ | refine blk_drew ?_ | refine blk_alloc ?_ _)); refine blk_far ?_ NB490_515.out _; (with_reducible repeat (first | refine blk_drewN ?_ _ | refine blk_drew ?_ | refine blk_alloc ?_ _)); refine blk_far ?_ NB490_515.out _; (with_reducible repeat (first | refine blk_drewN ?_ _ | refine blk_drew ?_ | refine blk_alloc ?_ _)); exact BK490.out⟩, ⟨by (with_reducible repeat (first | refine blk_drewN ?_ _ | refine blk_drew ?_ | refine blk_alloc ?_ _)); refine blk_far ?_ NB500_515.out _; (with_reducible repeat (first | refine blk_drewN ?_ _ | refine blk_drew ?_ | refine blk_alloc ?_ _)); refine blk_far ?_ NB500_515.out _; (with_reducible repeat (first | refine blk_drewN ?_ _ | refine blk_drew ?_ | refine blk_alloc ?_ _)); exact BK500.out⟩, ⟨by (with_reducible repeat (first | refine blk_drewN ?_ _ | refine blk_drew ?_ | refine blk_alloc ?_ _)); refine blk_put (cs := #[.int .i64 t512, .int .i64 0]) ?_ 1 _ rfl; (with_reducible repeat (first | refine blk_drewN ?_ _ | refine blk_drew ?_ | refine blk_alloc ?_ _)); refine blk_put (cs := #[.int .i64 0, .int .i64 0]) ?_ 0 _ rfl; (with_reducible repeat (first | refine blk_drewN ?_ _ | refine blk_drew ?_ | refine blk_alloc ?_ _)); exact BK515.out⟩, ⟨by repeat (first | (with_reducible first | exact HB.out | apply below_alloc | apply pw_below_drewN | apply below_drew1 | refine below_set ?_ GE490.out | refine below_set ?_ GE500.out | refine below_set ?_ GE515.out) | exact HB.out)⟩⟩
                      · rw [if_neg c51] at H
                        have c51b0 : ((t505.size : Int) == (wrap64 (x7_2 - 2))) = false := beq_eq_false_iff_ne.mpr c51
                        have c51b1 : ((t505.size : Int) != (wrap64 (x7_2 - 2))) = true := bne_iff_ne.mpr c51
                        (first | rw [c51b0] | (simp only [i64_w, i32_w]; rw [c51b0]) | skip)
                        have H' := Aside0.mk H
                        clear H
                        go_wp2
                        repeat (go_quiet (fail); try go_wp2)
                        go_meet
                        case rel => exact ⟨_, (true), (by first | rfl | (simp; done) | (simp [*]; done)), H', ⟨by have := HJ4.out; have := HK2.out; first | omega | exact Nat.le_refl _⟩, ⟨by (with_reducible repeat (first | refine blk_drewN ?_ _ | refine blk_drew ?_ | refine blk_alloc ?_ _)); refine blk_far ?_ NB490_515.out _; (with_reducible repeat (first | refine blk_drewN ?_ _ | refine blk_drew ?_ | refine blk_alloc ?_ _)); refine blk_far ?_ NB490_515.out _; (with_reducible repeat (first | refine blk_drewN ?_ _ | refine blk_drew ?_ | refine blk_alloc ?_ _)); exact BK490.out⟩, ⟨by (with_reducible repeat (first | refine blk_drewN ?_ _ | refine blk_drew ?_ | refine blk_alloc ?_ _)); refine blk_far ?_ NB500_515.out _; (with_reducible repeat (first | refine blk_drewN ?_ _ | refine blk_drew ?_ | refine blk_alloc ?_ _)); refine blk_far ?_ NB500_515.out _; (with_reducible repeat (first | refine blk_drewN ?_ _ | refine blk_drew ?_ | refine blk_alloc ?_ _)); exact BK500.out⟩, ⟨by (with_reducible repeat (first | refine blk_drewN ?_ _ | refine blk_drew ?_ | refine blk_alloc ?_ _)); refine blk_put (cs := #[.int .i64 t512, .int .i64 0]) ?_ 1 _ rfl; (with_reducible repeat (first | refine blk_drewN ?_ _ | refine blk_drew ?_ | refine blk_alloc ?_ _)); refine blk_put (cs := #[.int .i64 0, .int .i64 0]) ?_ 0 _ rfl; (with_reducible repeat (first | refine blk_drewN ?_ _ | refine blk_drew ?_ | refine blk_alloc ?_ _)); exact BK515.out⟩, ⟨by repeat (first | (with_reducible first | exact HB.out | apply below_alloc | apply pw_below_drewN | apply below_drew1 | refine below_set ?_ GE490.out | refine below_set ?_ GE500.out | refine below_set ?_ GE515.out) | exact HB.out)⟩⟩
                    case rest =>
                      clear HC39
                      try clear c1
                      try clear c2
                      try clear p2
                      try clear c3
                      try clear c4
                      try clear c5
                      try clear p5
                      try clear q5
                      try clear hx5
                      try clear p6
                      try clear c13
                      try clear c14
                      try clear c16
                      try clear c16b0
                      try clear c16b1
                      try clear c17
                      try clear c17b0
                      try clear c17b1
                      try clear c18
                      try clear c21
                      try clear c22
                      try clear c22b0
                      try clear c22b1
                      try clear c24
                      try clear c27
                      try clear c29
                      try clear c29b0
                      try clear c30
                      try clear c30b0
                      try clear c31
                      try clear c31b0
                      try clear c32
                      try clear c32b0
                      try clear c36
                      try clear c36b0
                      try clear c36b1
                      try clear c37
                      try clear c37b0
                      try clear c37b1
                      try clear c40
                      try clear c48
                      try clear c49
                      try clear p50
                      try clear q50
                      try clear hx50
                      try clear c51
                      try clear c51b0
                      try clear c51b1
                      try clear c52
                      try clear c52b0
                      try clear c52b1
                      try clear c52b2
                      try clear c53
                      try clear c53b0
                      try clear c53b1
                      try clear c54
                      try clear c55
                      try clear c57
                      try clear hcz15_0
                      try clear hcz15_1
                      try clear hcz19_0
                      try clear hcz19_1
                      try clear hcz20_0
                      try clear hcz20_1
                      try clear hcz25_0
                      try clear hcz25_1
                      try clear hcz28_0
                      try clear hcz28_1
                      try clear hcz41_0
                      try clear hcz41_1
                      try clear hcz43_0
                      try clear hcz43_1
                      try clear hcz50_0
                      try clear hcz50_1
                      try clear hcz56_0
                      try clear hcz56_1
                      try clear hcz58_0
                      try clear hcz58_1
                      try clear hcz7_0
                      try clear hcz7_1
                      try clear hcz9_0
                      try clear hcz9_1
                      try clear hfz15_0
                      try clear hfz15_1
                      try clear hfz19_0
                      try clear hfz19_1
                      try clear hfz20_0
                      try clear hfz20_1
                      try clear hfz25_0
                      try clear hfz25_1
                      try clear hfz28_0
                      try clear hfz28_1
                      try clear hfz41_0
                      try clear hfz41_1
                      try clear hfz43_0
                      try clear hfz43_1
                      try clear hfz50_0
                      try clear hfz50_1
                      try clear hfz56_0
                      try clear hfz56_1
                      try clear hfz58_0
                      try clear hfz58_1
                      try clear hfz7_0
                      try clear hfz7_1
                      try clear hfz9_0
                      try clear hfz9_1
                      try clear hx502_0
                      try clear hx503_0
                      try clear hx504_0
                      try clear p2
                      try clear p502
                      try clear p503
                      try clear p504
                      try clear q502
                      try clear q503
                      try clear q504
                      obtain ⟨kq, x118_38, rfl, HA, HJ38, BK490, BK500, BK515, HB⟩ := hcut
                      cases kq with
                      | zero => exact absurd HA.out (by simp [galloonlaw03_YardThere.j2])
                      | succ kj38 =>
                        have H := HA.out
                        clear HA
                        simp only [galloonlaw03_YardThere.j2] at H
                        by_cases c59 : x118_38 = true
                        · subst c59
                          have H1 : (some false) = some r := by rw [if_pos rfl] at H; exact H
                          clear H
                          have H := H1
                          clear H1
                          obtain rfl := Option.some.inj H
                          exact absurd hr.out (by decide)
                        · replace c59 := Bool.eq_false_iff.mpr c59
                          subst c59
                          have H1 : (galloonlaw03_YardThere.l1 kj38 t505 t509 0) = some r := by rw [if_neg (show ¬ (false = true) by decide)] at H; exact H
                          clear H
                          have H := H1
                          clear H1
                          have H' := Aside0.mk H
                          clear H
                          go_wp2
                          repeat (go_quiet (fail); try go_wp2)
                          go_loopg [15] kj38 (fun kq v15 w' => ∃ (x15_4 : Int), v15 = .int .i64 x15_4 ∧ Aside0 (galloonlaw03_YardThere.l1 kq t505 t509 x15_4 = some r) ∧ Aside0 (kq ≤ kj38) ∧ Aside0 (w'.heap[gb490]? = some (.cells #[.int .i64 t491, .int .i64 t492] 23 (0, 0))) ∧ Aside0 (w'.heap[gb500]? = some (.cells #[.int .i64 t497, .int .i64 t498] 23 (0, 0))) ∧ Aside0 (w'.heap[gb515]? = some (.cells #[.int .i64 t512, .int .i64 t513] 23 (0, 0))) ∧ Aside0 (Below w.heap.size w w'))
                          case atStart => exact ⟨(0), (by first | rfl | (simp; done) | (simp [*]; done)), H', ⟨Nat.le_refl _⟩, ⟨by (with_reducible repeat (first | refine blk_drewN ?_ _ | refine blk_drew ?_ | refine blk_alloc ?_ _)); exact BK490.out⟩, ⟨by (with_reducible repeat (first | refine blk_drewN ?_ _ | refine blk_drew ?_ | refine blk_alloc ?_ _)); exact BK500.out⟩, ⟨by (with_reducible repeat (first | refine blk_drewN ?_ _ | refine blk_drew ?_ | refine blk_alloc ?_ _)); exact BK515.out⟩, ⟨by repeat (first | (with_reducible first | exact HB.out | apply below_alloc | apply pw_below_drewN | apply below_drew1 | refine below_set ?_ GE490.out | refine below_set ?_ GE500.out | refine below_set ?_ GE515.out) | exact HB.out)⟩⟩
                          case round =>
                            clear H'
                            try clear c1
                            try clear c2
                            try clear p2
                            try clear c3
                            try clear c4
                            try clear c5
                            try clear p5
                            try clear q5
                            try clear hx5
                            try clear p6
                            try clear c13
                            try clear c14
                            try clear c16
                            try clear c16b0
                            try clear c16b1
                            try clear c17
                            try clear c17b0
                            try clear c17b1
                            try clear c18
                            try clear c21
                            try clear c22
                            try clear c22b0
                            try clear c22b1
                            try clear c24
                            try clear c27
                            try clear c29
                            try clear c29b0
                            try clear c30
                            try clear c30b0
                            try clear c31
                            try clear c31b0
                            try clear c32
                            try clear c32b0
                            try clear c36
                            try clear c36b0
                            try clear c36b1
                            try clear c37
                            try clear c37b0
                            try clear c37b1
                            try clear c40
                            try clear c48
                            try clear c49
                            try clear p50
                            try clear q50
                            try clear hx50
                            try clear c51
                            try clear c51b0
                            try clear c51b1
                            try clear c52
                            try clear c52b0
                            try clear c52b1
                            try clear c52b2
                            try clear c53
                            try clear c53b0
                            try clear c53b1
                            try clear c54
                            try clear c55
                            try clear c57
                            try clear c59
                            try clear hcz15_0
                            try clear hcz15_1
                            try clear hcz19_0
                            try clear hcz19_1
                            try clear hcz20_0
                            try clear hcz20_1
                            try clear hcz25_0
                            try clear hcz25_1
                            try clear hcz28_0
                            try clear hcz28_1
                            try clear hcz41_0
                            try clear hcz41_1
                            try clear hcz43_0
                            try clear hcz43_1
                            try clear hcz50_0
                            try clear hcz50_1
                            try clear hcz56_0
                            try clear hcz56_1
                            try clear hcz58_0
                            try clear hcz58_1
                            try clear hcz7_0
                            try clear hcz7_1
                            try clear hcz9_0
                            try clear hcz9_1
                            try clear hfz15_0
                            try clear hfz15_1
                            try clear hfz19_0
                            try clear hfz19_1
                            try clear hfz20_0
                            try clear hfz20_1
                            try clear hfz25_0
                            try clear hfz25_1
                            try clear hfz28_0
                            try clear hfz28_1
                            try clear hfz41_0
                            try clear hfz41_1
                            try clear hfz43_0
                            try clear hfz43_1
                            try clear hfz50_0
                            try clear hfz50_1
                            try clear hfz56_0
                            try clear hfz56_1
                            try clear hfz58_0
                            try clear hfz58_1
                            try clear hfz7_0
                            try clear hfz7_1
                            try clear hfz9_0
                            try clear hfz9_1
                            try clear hx502_0
                            try clear hx503_0
                            try clear hx504_0
                            try clear p2
                            try clear p5
                            try clear p50
                            try clear p502
                            try clear p503
                            try clear p504
                            try clear p6
                            try clear q5
                            try clear q50
                            try clear q502
                            try clear q503
                            try clear q504
                            obtain ⟨x15_4, rfl, HA, HK4, BK490, BK500, BK515, HB⟩ := hrel
                            cases gk with
                            | zero => exact absurd HA.out (by simp [galloonlaw03_YardThere.l1])
                            | succ k4 =>
                              have H := HA.out
                              clear HA
                              simp only [galloonlaw03_YardThere.l1] at H
                              by_cases c60 : x15_4 < (t505.size : Int)
                              · rw [if_pos c60] at H
                                have c60b0 : decide (x15_4 < (t505.size : Int)) = true := decide_eq_true c60
                                clear c60
                                by_cases c61 : 0 ≤ x15_4
                                · rw [if_pos c61] at H
                                  have c61b0 : decide (0 ≤ x15_4) = true := decide_eq_true c61
                                  clear c61
                                  by_cases c63 : x15_4 < (t509.size : Int)
                                  · rw [if_pos c63] at H
                                    have c63b0 : decide (x15_4 < (t509.size : Int)) = true := decide_eq_true c63
                                    clear c63
                                    by_cases c65 : (bt t505 x15_4) = (bt t509 x15_4)
                                    · rw [if_pos c65] at H
                                      have c65b0 : ((bt t505 x15_4) == (bt t509 x15_4)) = true := beq_iff_eq.mpr c65
                                      have c65b1 : ((bt t505 x15_4) != (bt t509 x15_4)) = false := bne_eq_false_iff_eq.mpr c65
                                      clear c65
                                      obtain rfl := Option.some.inj H
                                      exact absurd hr.out (by decide)
                                    · rw [if_neg c65] at H
                                      have c65b0 : ((bt t505 x15_4) == (bt t509 x15_4)) = false := beq_eq_false_iff_ne.mpr c65
                                      have c65b1 : ((bt t505 x15_4) != (bt t509 x15_4)) = true := bne_iff_ne.mpr c65
                                      have H' := Aside0.mk H
                                      clear H
                                      have p62 : 0 ≤ (x15_4 : Int) := of_decide_eq_true (by first | (with_reducible assumption) | assumption)
                                      have q62 : x15_4 < (t505.size : Int) := of_decide_eq_true (by first | (with_reducible assumption) | assumption)
                                      have hx62 := bt_at t505 x15_4
                                      replace p62 := eq_true p62
                                      replace q62 := eq_true q62
                                      have p64 : 0 ≤ (x15_4 : Int) := of_decide_eq_true (by first | (with_reducible assumption) | assumption)
                                      have q64 : x15_4 < (t509.size : Int) := of_decide_eq_true (by first | (with_reducible assumption) | assumption)
                                      have hx64 := bt_at t509 x15_4
                                      replace p64 := eq_true p64
                                      replace q64 := eq_true q64
                                      go_wp2
                                      repeat (go_quiet (fail); try go_wp2)
                                      go_roundg k4
                                      case measure => have := HJ4.out; have := HK2.out; have := HJ38.out; have := HK4.out; omega
                                      case rel => exact ⟨(wrap64 (x15_4 + 1)), (by first | rfl | (simp; done) | (simp [*]; done)), H', ⟨by have := HJ4.out; have := HK2.out; have := HJ38.out; have := HK4.out; omega⟩, ⟨by (with_reducible repeat (first | refine blk_drewN ?_ _ | refine blk_drew ?_ | refine blk_alloc ?_ _)); exact BK490.out⟩, ⟨by (with_reducible repeat (first | refine blk_drewN ?_ _ | refine blk_drew ?_ | refine blk_alloc ?_ _)); exact BK500.out⟩, ⟨by (with_reducible repeat (first | refine blk_drewN ?_ _ | refine blk_drew ?_ | refine blk_alloc ?_ _)); exact BK515.out⟩, ⟨by repeat (first | (with_reducible first | exact HB.out | apply below_alloc | apply pw_below_drewN | apply below_drew1 | refine below_set ?_ GE490.out | refine below_set ?_ GE500.out | refine below_set ?_ GE515.out) | exact HB.out)⟩⟩
                                  · rw [if_neg c63] at H
                                    exact absurd H (by simp)
                                · rw [if_neg c61] at H
                                  exact absurd H (by simp)
                              · rw [if_neg c60] at H
                                have c60b0 : decide (x15_4 < (t505.size : Int)) = false := decide_eq_false c60
                                clear c60
                                replace H := Option.bind_eq_some_iff.mp H
                                obtain ⟨t516, A660, H⟩ := H
                                replace H : (some t516) = some r := H
                                have A66 := Aside0.mk A660
                                clear A660
                                obtain rfl := Option.some.inj H
                                go_wp2_with (first | (go_at_call 21; (with_reducible refine (galloonlaw03_awake.calls k4  t516 _ A66.out).mono ?_); rintro e w67 ⟨rfl, hb⟩; have n0_ := Aside0.mk (blk_below (g := gb490) (o := .cells #[.int .i64 t491, .int .i64 t492] 23 (0, 0)) (by (with_reducible repeat (first | refine blk_drewN ?_ _ | refine blk_drew ?_ | refine blk_alloc ?_ _)); exact BK490.out) hb); have n1_ := Aside0.mk (blk_below (g := gb500) (o := .cells #[.int .i64 t497, .int .i64 t498] 23 (0, 0)) (by (with_reducible repeat (first | refine blk_drewN ?_ _ | refine blk_drew ?_ | refine blk_alloc ?_ _)); exact BK500.out) hb); have n2_ := Aside0.mk (blk_below (g := gb515) (o := .cells #[.int .i64 t512, .int .i64 t513] 23 (0, 0)) (by (with_reducible repeat (first | refine blk_drewN ?_ _ | refine blk_drew ?_ | refine blk_alloc ?_ _)); exact BK515.out) hb); have n3_ := Aside0.mk (below_step (by repeat (first | (with_reducible first | exact HB.out | apply below_alloc | apply pw_below_drewN | apply below_drew1 | refine below_set ?_ GE490.out | refine below_set ?_ GE500.out | refine below_set ?_ GE515.out) | exact HB.out)) hb); clear BK490; clear BK500; clear BK515; clear HB; have BK490 := n0_; have BK500 := n1_; have BK515 := n2_; have HB := n3_; clear n0_ n1_ n2_ n3_; (try clear hb); (try clear hb2); (try clear hk); (try clear hi)))
                                repeat (go_quiet (first | (go_at_call 21; (with_reducible refine (galloonlaw03_awake.calls k4  t516 _ A66.out).mono ?_); rintro e w67 ⟨rfl, hb⟩; have n0_ := Aside0.mk (blk_below (g := gb490) (o := .cells #[.int .i64 t491, .int .i64 t492] 23 (0, 0)) (by (with_reducible repeat (first | refine blk_drewN ?_ _ | refine blk_drew ?_ | refine blk_alloc ?_ _)); exact BK490.out) hb); have n1_ := Aside0.mk (blk_below (g := gb500) (o := .cells #[.int .i64 t497, .int .i64 t498] 23 (0, 0)) (by (with_reducible repeat (first | refine blk_drewN ?_ _ | refine blk_drew ?_ | refine blk_alloc ?_ _)); exact BK500.out) hb); have n2_ := Aside0.mk (blk_below (g := gb515) (o := .cells #[.int .i64 t512, .int .i64 t513] 23 (0, 0)) (by (with_reducible repeat (first | refine blk_drewN ?_ _ | refine blk_drew ?_ | refine blk_alloc ?_ _)); exact BK515.out) hb); have n3_ := Aside0.mk (below_step (by repeat (first | (with_reducible first | exact HB.out | apply below_alloc | apply pw_below_drewN | apply below_drew1 | refine below_set ?_ GE490.out | refine below_set ?_ GE500.out | refine below_set ?_ GE515.out) | exact HB.out)) hb); clear BK490; clear BK500; clear BK515; clear HB; have BK490 := n0_; have BK500 := n1_; have BK515 := n2_; have HB := n3_; clear n0_ n1_ n2_ n3_; (try clear hb); (try clear hb2); (try clear hk); (try clear hi))); try go_wp2_with (first | (go_at_call 21; (with_reducible refine (galloonlaw03_awake.calls k4  t516 _ A66.out).mono ?_); rintro e w67 ⟨rfl, hb⟩; have n0_ := Aside0.mk (blk_below (g := gb490) (o := .cells #[.int .i64 t491, .int .i64 t492] 23 (0, 0)) (by (with_reducible repeat (first | refine blk_drewN ?_ _ | refine blk_drew ?_ | refine blk_alloc ?_ _)); exact BK490.out) hb); have n1_ := Aside0.mk (blk_below (g := gb500) (o := .cells #[.int .i64 t497, .int .i64 t498] 23 (0, 0)) (by (with_reducible repeat (first | refine blk_drewN ?_ _ | refine blk_drew ?_ | refine blk_alloc ?_ _)); exact BK500.out) hb); have n2_ := Aside0.mk (blk_below (g := gb515) (o := .cells #[.int .i64 t512, .int .i64 t513] 23 (0, 0)) (by (with_reducible repeat (first | refine blk_drewN ?_ _ | refine blk_drew ?_ | refine blk_alloc ?_ _)); exact BK515.out) hb); have n3_ := Aside0.mk (below_step (by repeat (first | (with_reducible first | exact HB.out | apply below_alloc | apply pw_below_drewN | apply below_drew1 | refine below_set ?_ GE490.out | refine below_set ?_ GE500.out | refine below_set ?_ GE515.out) | exact HB.out)) hb); clear BK490; clear BK500; clear BK515; clear HB; have BK490 := n0_; have BK500 := n1_; have BK515 := n2_; have HB := n3_; clear n0_ n1_ n2_ n3_; (try clear hb); (try clear hb2); (try clear hk); (try clear hi))))
                                go_ret
                                exact ⟨by first | rfl | (simp [errW_none, errW_some] <;> rfl) | (simp [*, errW_none, errW_some] <;> rfl), by repeat (first | (with_reducible first | exact HB.out | apply below_alloc | apply pw_below_drewN | apply below_drew1 | refine below_set ?_ GE490.out | refine below_set ?_ GE500.out | refine below_set ?_ GE515.out) | exact HB.out)⟩
                  · rw [if_neg c37] at H
                    have c37b0 : (t506 == 0) = false := beq_eq_false_iff_ne.mpr c37
                    have c37b1 : (t506 != 0) = true := bne_iff_ne.mpr c37
                    by_cases c68 : t506 = 5
                    · rw [if_pos c68] at H
                      have c68b0 : (t506 == 5) = true := beq_iff_eq.mpr c68
                      have c68b1 : (t506 != 5) = false := bne_eq_false_iff_eq.mpr c68
                      clear c68
                      by_cases c69 : (wrap64 (x7_2 - 2)) > 200
                      · rw [if_pos c69] at H
                        have c69b0 : decide (200 < (wrap64 (x7_2 - 2))) = true := decide_eq_true c69
                        clear c69
                        replace H := Option.bind_eq_some_iff.mp H
                        obtain ⟨t511, A700, H⟩ := H
                        replace H : (some t511) = some r := H
                        have A70 := Aside0.mk A700
                        clear A700
                        obtain rfl := Option.some.inj H
                        have hnb71 := NB490_500.out
                        have hnc71 := NB500_490.out
                        have hcz72_0 : wr.cell? ⟨gb490, 0, none⟩ = some (.int .i64 t491) := (blk_cell BK490.out 0).trans rfl
                        have hcz72_1 : wr.cell? ⟨gb490, 1, none⟩ = some (.int .i64 t492) := (blk_cell BK490.out 1).trans rfl
                        have hfz72_0 := blk_frozen BK490.out 0
                        have hfz72_1 := blk_frozen BK490.out 1
                        go_wp2_with (first | (go_at_call 17; (with_reducible refine (yard_Path.calls k2 t491 t492 t505 t506 _ A33.out).mono ?_); rintro e w73 ⟨rfl, hb⟩; have n0_ := Aside0.mk (Kd.R_below (by (with_reducible repeat (first | apply Kd.R_alloc | apply Kd.R_drewN | apply Kd.R_drew)); exact HO_3.out) hb); have n1_ := Aside0.mk (blk_below (g := gb490) (o := .cells #[.int .i64 t491, .int .i64 t492] 23 (0, 0)) (by (with_reducible repeat (first | refine blk_drewN ?_ _ | refine blk_drew ?_ | refine blk_alloc ?_ _)); exact BK490.out) hb); have n2_ := Aside0.mk (blk_below (g := gb500) (o := .cells #[.int .i64 t497, .int .i64 t498] 23 (0, 0)) (by (with_reducible repeat (first | refine blk_drewN ?_ _ | refine blk_drew ?_ | refine blk_alloc ?_ _)); exact BK500.out) hb); have n3_ := Aside0.mk (below_step (by repeat (first | (with_reducible first | exact HB.out | apply below_alloc | apply pw_below_drewN | apply below_drew1 | refine below_set ?_ GE490.out | refine below_set ?_ GE500.out) | exact HB.out)) hb); clear HO_3; clear BK490; clear BK500; clear HB; have HO_3 := n0_; have BK490 := n1_; have BK500 := n2_; have HB := n3_; clear n0_ n1_ n2_ n3_; (try clear hb); (try clear hb2); (try clear hk); (try clear hi); have hcz74_0 : w73.cell? ⟨gb490, 0, none⟩ = some (.int .i64 t491) := (blk_cell BK490.out 0).trans rfl; have hcz74_1 : w73.cell? ⟨gb490, 1, none⟩ = some (.int .i64 t492) := (blk_cell BK490.out 1).trans rfl; have hfz74_0 := blk_frozen BK490.out 0; have hfz74_1 := blk_frozen BK490.out 1) | (go_at_call 27; (with_reducible refine (galloonlaw03_rest.calls t491 t492 t507 t508 _ A34.out).mono ?_); rintro e w75 ⟨rfl, hb⟩; have n0_ := Aside0.mk (Kd.R_below (by (with_reducible repeat (first | apply Kd.R_alloc | apply Kd.R_drewN | apply Kd.R_drew)); exact HO_3.out) hb); have n1_ := Aside0.mk (blk_below (g := gb490) (o := .cells #[.int .i64 t491, .int .i64 t492] 23 (0, 0)) (by (with_reducible repeat (first | refine blk_drewN ?_ _ | refine blk_drew ?_ | refine blk_alloc ?_ _)); exact BK490.out) hb); have n2_ := Aside0.mk (blk_below (g := gb500) (o := .cells #[.int .i64 t497, .int .i64 t498] 23 (0, 0)) (by (with_reducible repeat (first | refine blk_drewN ?_ _ | refine blk_drew ?_ | refine blk_alloc ?_ _)); exact BK500.out) hb); have n3_ := Aside0.mk (below_step (by repeat (first | (with_reducible first | exact HB.out | apply below_alloc | apply pw_below_drewN | apply below_drew1 | refine below_set ?_ GE490.out | refine below_set ?_ GE500.out) | exact HB.out)) hb); clear HO_3; clear BK490; clear BK500; clear HB; have HO_3 := n0_; have BK490 := n1_; have BK500 := n2_; have HB := n3_; clear n0_ n1_ n2_ n3_; (try clear hb); (try clear hb2); (try clear hk); (try clear hi)) | (go_at_call 17; (with_reducible refine (yard_Path.calls k2 t507 t508 t509 t510 _ A35.out).mono ?_); rintro e w76 ⟨rfl, hb⟩; have n0_ := Aside0.mk (Kd.R_below (by (with_reducible repeat (first | apply Kd.R_alloc | apply Kd.R_drewN | apply Kd.R_drew)); exact HO_3.out) hb); have n1_ := Aside0.mk (blk_below (g := gb490) (o := .cells #[.int .i64 t491, .int .i64 t492] 23 (0, 0)) (by (with_reducible repeat (first | refine blk_drewN ?_ _ | refine blk_drew ?_ | refine blk_alloc ?_ _)); exact BK490.out) hb); have n2_ := Aside0.mk (blk_below (g := gb500) (o := .cells #[.int .i64 t497, .int .i64 t498] 23 (0, 0)) (by (with_reducible repeat (first | refine blk_drewN ?_ _ | refine blk_drew ?_ | refine blk_alloc ?_ _)); exact BK500.out) hb); have n3_ := Aside0.mk (below_step (by repeat (first | (with_reducible first | exact HB.out | apply below_alloc | apply pw_below_drewN | apply below_drew1 | refine below_set ?_ GE490.out | refine below_set ?_ GE500.out) | exact HB.out)) hb); clear HO_3; clear BK490; clear BK500; clear HB; have HO_3 := n0_; have BK490 := n1_; have BK500 := n2_; have HB := n3_; clear n0_ n1_ n2_ n3_; (try clear hb); (try clear hb2); (try clear hk); (try clear hi)) | (go_at_call 21; (with_reducible refine (galloonlaw03_awake.calls k2  t511 _ A70.out).mono ?_); rintro e w77 ⟨rfl, hb⟩; have n0_ := Aside0.mk (Kd.R_below (by (with_reducible repeat (first | apply Kd.R_alloc | apply Kd.R_drewN | apply Kd.R_drew)); exact HO_3.out) hb); have n1_ := Aside0.mk (blk_below (g := gb490) (o := .cells #[.int .i64 t491, .int .i64 t492] 23 (0, 0)) (by (with_reducible repeat (first | refine blk_drewN ?_ _ | refine blk_drew ?_ | refine blk_alloc ?_ _)); exact BK490.out) hb); have n2_ := Aside0.mk (blk_below (g := gb500) (o := .cells #[.int .i64 t497, .int .i64 t498] 23 (0, 0)) (by (with_reducible repeat (first | refine blk_drewN ?_ _ | refine blk_drew ?_ | refine blk_alloc ?_ _)); exact BK500.out) hb); have n3_ := Aside0.mk (below_step (by repeat (first | (with_reducible first | exact HB.out | apply below_alloc | apply pw_below_drewN | apply below_drew1 | refine below_set ?_ GE490.out | refine below_set ?_ GE500.out) | exact HB.out)) hb); clear HO_3; clear BK490; clear BK500; clear HB; have HO_3 := n0_; have BK490 := n1_; have BK500 := n2_; have HB := n3_; clear n0_ n1_ n2_ n3_; (try clear hb); (try clear hb2); (try clear hk); (try clear hi)))
                        repeat (go_quiet (first | (go_at_call 17; (with_reducible refine (yard_Path.calls k2 t491 t492 t505 t506 _ A33.out).mono ?_); rintro e w73 ⟨rfl, hb⟩; have n0_ := Aside0.mk (Kd.R_below (by (with_reducible repeat (first | apply Kd.R_alloc | apply Kd.R_drewN | apply Kd.R_drew)); exact HO_3.out) hb); have n1_ := Aside0.mk (blk_below (g := gb490) (o := .cells #[.int .i64 t491, .int .i64 t492] 23 (0, 0)) (by (with_reducible repeat (first | refine blk_drewN ?_ _ | refine blk_drew ?_ | refine blk_alloc ?_ _)); exact BK490.out) hb); have n2_ := Aside0.mk (blk_below (g := gb500) (o := .cells #[.int .i64 t497, .int .i64 t498] 23 (0, 0)) (by (with_reducible repeat (first | refine blk_drewN ?_ _ | refine blk_drew ?_ | refine blk_alloc ?_ _)); exact BK500.out) hb); have n3_ := Aside0.mk (below_step (by repeat (first | (with_reducible first | exact HB.out | apply below_alloc | apply pw_below_drewN | apply below_drew1 | refine below_set ?_ GE490.out | refine below_set ?_ GE500.out) | exact HB.out)) hb); clear HO_3; clear BK490; clear BK500; clear HB; have HO_3 := n0_; have BK490 := n1_; have BK500 := n2_; have HB := n3_; clear n0_ n1_ n2_ n3_; (try clear hb); (try clear hb2); (try clear hk); (try clear hi); have hcz74_0 : w73.cell? ⟨gb490, 0, none⟩ = some (.int .i64 t491) := (blk_cell BK490.out 0).trans rfl; have hcz74_1 : w73.cell? ⟨gb490, 1, none⟩ = some (.int .i64 t492) := (blk_cell BK490.out 1).trans rfl; have hfz74_0 := blk_frozen BK490.out 0; have hfz74_1 := blk_frozen BK490.out 1) | (go_at_call 27; (with_reducible refine (galloonlaw03_rest.calls t491 t492 t507 t508 _ A34.out).mono ?_); rintro e w75 ⟨rfl, hb⟩; have n0_ := Aside0.mk (Kd.R_below (by (with_reducible repeat (first | apply Kd.R_alloc | apply Kd.R_drewN | apply Kd.R_drew)); exact HO_3.out) hb); have n1_ := Aside0.mk (blk_below (g := gb490) (o := .cells #[.int .i64 t491, .int .i64 t492] 23 (0, 0)) (by (with_reducible repeat (first | refine blk_drewN ?_ _ | refine blk_drew ?_ | refine blk_alloc ?_ _)); exact BK490.out) hb); have n2_ := Aside0.mk (blk_below (g := gb500) (o := .cells #[.int .i64 t497, .int .i64 t498] 23 (0, 0)) (by (with_reducible repeat (first | refine blk_drewN ?_ _ | refine blk_drew ?_ | refine blk_alloc ?_ _)); exact BK500.out) hb); have n3_ := Aside0.mk (below_step (by repeat (first | (with_reducible first | exact HB.out | apply below_alloc | apply pw_below_drewN | apply below_drew1 | refine below_set ?_ GE490.out | refine below_set ?_ GE500.out) | exact HB.out)) hb); clear HO_3; clear BK490; clear BK500; clear HB; have HO_3 := n0_; have BK490 := n1_; have BK500 := n2_; have HB := n3_; clear n0_ n1_ n2_ n3_; (try clear hb); (try clear hb2); (try clear hk); (try clear hi)) | (go_at_call 17; (with_reducible refine (yard_Path.calls k2 t507 t508 t509 t510 _ A35.out).mono ?_); rintro e w76 ⟨rfl, hb⟩; have n0_ := Aside0.mk (Kd.R_below (by (with_reducible repeat (first | apply Kd.R_alloc | apply Kd.R_drewN | apply Kd.R_drew)); exact HO_3.out) hb); have n1_ := Aside0.mk (blk_below (g := gb490) (o := .cells #[.int .i64 t491, .int .i64 t492] 23 (0, 0)) (by (with_reducible repeat (first | refine blk_drewN ?_ _ | refine blk_drew ?_ | refine blk_alloc ?_ _)); exact BK490.out) hb); have n2_ := Aside0.mk (blk_below (g := gb500) (o := .cells #[.int .i64 t497, .int .i64 t498] 23 (0, 0)) (by (with_reducible repeat (first | refine blk_drewN ?_ _ | refine blk_drew ?_ | refine blk_alloc ?_ _)); exact BK500.out) hb); have n3_ := Aside0.mk (below_step (by repeat (first | (with_reducible first | exact HB.out | apply below_alloc | apply pw_below_drewN | apply below_drew1 | refine below_set ?_ GE490.out | refine below_set ?_ GE500.out) | exact HB.out)) hb); clear HO_3; clear BK490; clear BK500; clear HB; have HO_3 := n0_; have BK490 := n1_; have BK500 := n2_; have HB := n3_; clear n0_ n1_ n2_ n3_; (try clear hb); (try clear hb2); (try clear hk); (try clear hi)) | (go_at_call 21; (with_reducible refine (galloonlaw03_awake.calls k2  t511 _ A70.out).mono ?_); rintro e w77 ⟨rfl, hb⟩; have n0_ := Aside0.mk (Kd.R_below (by (with_reducible repeat (first | apply Kd.R_alloc | apply Kd.R_drewN | apply Kd.R_drew)); exact HO_3.out) hb); have n1_ := Aside0.mk (blk_below (g := gb490) (o := .cells #[.int .i64 t491, .int .i64 t492] 23 (0, 0)) (by (with_reducible repeat (first | refine blk_drewN ?_ _ | refine blk_drew ?_ | refine blk_alloc ?_ _)); exact BK490.out) hb); have n2_ := Aside0.mk (blk_below (g := gb500) (o := .cells #[.int .i64 t497, .int .i64 t498] 23 (0, 0)) (by (with_reducible repeat (first | refine blk_drewN ?_ _ | refine blk_drew ?_ | refine blk_alloc ?_ _)); exact BK500.out) hb); have n3_ := Aside0.mk (below_step (by repeat (first | (with_reducible first | exact HB.out | apply below_alloc | apply pw_below_drewN | apply below_drew1 | refine below_set ?_ GE490.out | refine below_set ?_ GE500.out) | exact HB.out)) hb); clear HO_3; clear BK490; clear BK500; clear HB; have HO_3 := n0_; have BK490 := n1_; have BK500 := n2_; have HB := n3_; clear n0_ n1_ n2_ n3_; (try clear hb); (try clear hb2); (try clear hk); (try clear hi))); try go_wp2_with (first | (go_at_call 17; (with_reducible refine (yard_Path.calls k2 t491 t492 t505 t506 _ A33.out).mono ?_); rintro e w73 ⟨rfl, hb⟩; have n0_ := Aside0.mk (Kd.R_below (by (with_reducible repeat (first | apply Kd.R_alloc | apply Kd.R_drewN | apply Kd.R_drew)); exact HO_3.out) hb); have n1_ := Aside0.mk (blk_below (g := gb490) (o := .cells #[.int .i64 t491, .int .i64 t492] 23 (0, 0)) (by (with_reducible repeat (first | refine blk_drewN ?_ _ | refine blk_drew ?_ | refine blk_alloc ?_ _)); exact BK490.out) hb); have n2_ := Aside0.mk (blk_below (g := gb500) (o := .cells #[.int .i64 t497, .int .i64 t498] 23 (0, 0)) (by (with_reducible repeat (first | refine blk_drewN ?_ _ | refine blk_drew ?_ | refine blk_alloc ?_ _)); exact BK500.out) hb); have n3_ := Aside0.mk (below_step (by repeat (first | (with_reducible first | exact HB.out | apply below_alloc | apply pw_below_drewN | apply below_drew1 | refine below_set ?_ GE490.out | refine below_set ?_ GE500.out) | exact HB.out)) hb); clear HO_3; clear BK490; clear BK500; clear HB; have HO_3 := n0_; have BK490 := n1_; have BK500 := n2_; have HB := n3_; clear n0_ n1_ n2_ n3_; (try clear hb); (try clear hb2); (try clear hk); (try clear hi); have hcz74_0 : w73.cell? ⟨gb490, 0, none⟩ = some (.int .i64 t491) := (blk_cell BK490.out 0).trans rfl; have hcz74_1 : w73.cell? ⟨gb490, 1, none⟩ = some (.int .i64 t492) := (blk_cell BK490.out 1).trans rfl; have hfz74_0 := blk_frozen BK490.out 0; have hfz74_1 := blk_frozen BK490.out 1) | (go_at_call 27; (with_reducible refine (galloonlaw03_rest.calls t491 t492 t507 t508 _ A34.out).mono ?_); rintro e w75 ⟨rfl, hb⟩; have n0_ := Aside0.mk (Kd.R_below (by (with_reducible repeat (first | apply Kd.R_alloc | apply Kd.R_drewN | apply Kd.R_drew)); exact HO_3.out) hb); have n1_ := Aside0.mk (blk_below (g := gb490) (o := .cells #[.int .i64 t491, .int .i64 t492] 23 (0, 0)) (by (with_reducible repeat (first | refine blk_drewN ?_ _ | refine blk_drew ?_ | refine blk_alloc ?_ _)); exact BK490.out) hb); have n2_ := Aside0.mk (blk_below (g := gb500) (o := .cells #[.int .i64 t497, .int .i64 t498] 23 (0, 0)) (by (with_reducible repeat (first | refine blk_drewN ?_ _ | refine blk_drew ?_ | refine blk_alloc ?_ _)); exact BK500.out) hb); have n3_ := Aside0.mk (below_step (by repeat (first | (with_reducible first | exact HB.out | apply below_alloc | apply pw_below_drewN | apply below_drew1 | refine below_set ?_ GE490.out | refine below_set ?_ GE500.out) | exact HB.out)) hb); clear HO_3; clear BK490; clear BK500; clear HB; have HO_3 := n0_; have BK490 := n1_; have BK500 := n2_; have HB := n3_; clear n0_ n1_ n2_ n3_; (try clear hb); (try clear hb2); (try clear hk); (try clear hi)) | (go_at_call 17; (with_reducible refine (yard_Path.calls k2 t507 t508 t509 t510 _ A35.out).mono ?_); rintro e w76 ⟨rfl, hb⟩; have n0_ := Aside0.mk (Kd.R_below (by (with_reducible repeat (first | apply Kd.R_alloc | apply Kd.R_drewN | apply Kd.R_drew)); exact HO_3.out) hb); have n1_ := Aside0.mk (blk_below (g := gb490) (o := .cells #[.int .i64 t491, .int .i64 t492] 23 (0, 0)) (by (with_reducible repeat (first | refine blk_drewN ?_ _ | refine blk_drew ?_ | refine blk_alloc ?_ _)); exact BK490.out) hb); have n2_ := Aside0.mk (blk_below (g := gb500) (o := .cells #[.int .i64 t497, .int .i64 t498] 23 (0, 0)) (by (with_reducible repeat (first | refine blk_drewN ?_ _ | refine blk_drew ?_ | refine blk_alloc ?_ _)); exact BK500.out) hb); have n3_ := Aside0.mk (below_step (by repeat (first | (with_reducible first | exact HB.out | apply below_alloc | apply pw_below_drewN | apply below_drew1 | refine below_set ?_ GE490.out | refine below_set ?_ GE500.out) | exact HB.out)) hb); clear HO_3; clear BK490; clear BK500; clear HB; have HO_3 := n0_; have BK490 := n1_; have BK500 := n2_; have HB := n3_; clear n0_ n1_ n2_ n3_; (try clear hb); (try clear hb2); (try clear hk); (try clear hi)) | (go_at_call 21; (with_reducible refine (galloonlaw03_awake.calls k2  t511 _ A70.out).mono ?_); rintro e w77 ⟨rfl, hb⟩; have n0_ := Aside0.mk (Kd.R_below (by (with_reducible repeat (first | apply Kd.R_alloc | apply Kd.R_drewN | apply Kd.R_drew)); exact HO_3.out) hb); have n1_ := Aside0.mk (blk_below (g := gb490) (o := .cells #[.int .i64 t491, .int .i64 t492] 23 (0, 0)) (by (with_reducible repeat (first | refine blk_drewN ?_ _ | refine blk_drew ?_ | refine blk_alloc ?_ _)); exact BK490.out) hb); have n2_ := Aside0.mk (blk_below (g := gb500) (o := .cells #[.int .i64 t497, .int .i64 t498] 23 (0, 0)) (by (with_reducible repeat (first | refine blk_drewN ?_ _ | refine blk_drew ?_ | refine blk_alloc ?_ _)); exact BK500.out) hb); have n3_ := Aside0.mk (below_step (by repeat (first | (with_reducible first | exact HB.out | apply below_alloc | apply pw_below_drewN | apply below_drew1 | refine below_set ?_ GE490.out | refine below_set ?_ GE500.out) | exact HB.out)) hb); clear HO_3; clear BK490; clear BK500; clear HB; have HO_3 := n0_; have BK490 := n1_; have BK500 := n2_; have HB := n3_; clear n0_ n1_ n2_ n3_; (try clear hb); (try clear hb2); (try clear hk); (try clear hi))))
                        go_ret
                        exact ⟨by first | rfl | (simp [errW_none, errW_some] <;> rfl) | (simp [*, errW_none, errW_some] <;> rfl), by repeat (first | (with_reducible first | exact HB.out | apply below_alloc | apply pw_below_drewN | apply below_drew1 | refine below_set ?_ GE490.out | refine below_set ?_ GE500.out) | exact HB.out)⟩
                      · rw [if_neg c69] at H
                        have c69b0 : decide (200 < (wrap64 (x7_2 - 2))) = false := decide_eq_false c69
                        clear c69
                        obtain rfl := Option.some.inj H
                        exact absurd hr.out (by decide)
                    · rw [if_neg c68] at H
                      have c68b0 : (t506 == 5) = false := beq_eq_false_iff_ne.mpr c68
                      have c68b1 : (t506 != 5) = true := bne_iff_ne.mpr c68
                      obtain rfl := Option.some.inj H
                      exact absurd hr.out (by decide)
                · rw [if_neg c36] at H
                  have c36b0 : (t506 == t510) = false := beq_eq_false_iff_ne.mpr c36
                  have c36b1 : (t506 != t510) = true := bne_iff_ne.mpr c36
                  obtain rfl := Option.some.inj H
                  exact absurd hr.out (by decide)

/-- THE ONE PURE STATEMENT of galloonlaw03_YardThere: yours. -/
def galloonlaw03_YardThere.Pure : Prop := ∀ (a0_0 : Int) (a0_1 : Int), (Lit.int .i64 a0_0).wf = true → (Lit.int .i64 a0_1).wf = true → ∃ k, galloonlaw03_YardThere.f k a0_0 a0_1 = some true
theorem galloonlaw03_YardThere.walk (P : galloonlaw03_YardThere.Pure) (a0_0 : Int) (a0_1 : Int) (w : World) (w0_0 : (Lit.int .i64 a0_0).wf = true) (w0_1 : (Lit.int .i64 a0_1).wf = true) :
    Calls Try.prog 13 #[.agg #[.int .i64 a0_0, .int .i64 a0_1]] w fun e w' => e = .returned (.bool true) ∧ Below w.heap.size w w' := by
  obtain ⟨k, h⟩ := P a0_0 a0_1 w0_0 w0_1
  refine (galloonlaw03_YardThere.calls k a0_0 a0_1 true w h ⟨rfl⟩).mono ?_
  rintro e w' ⟨rfl, hd⟩
  exact ⟨rfl, hd⟩

end Go.Proofs.Ythjodhmkmjabbaa.PY
