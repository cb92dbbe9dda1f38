-- Made by the session's own driver (wip/tools/p2.py) out of the translation; Lean checks it.
import Derived.Test.YthjodhmkmjabbaaSq
import Derived.Test.YthjodhmkmjabbaaPYx0
import Derived.Test.YthjodhmkmjabbaaPYx2
import Derived.Test.YthjodhmkmjabbaaPYx5
import Derived.Test.YthjodhmkmjabbaaPYx24
import Derived.Test.YthjodhmkmjabbaaPYx35
namespace Go.Proofs.Ythjodhmkmjabbaa.PY
open Go.RowKit Go.Proofs.YthjodhmkmjabbaaW.PrintWords Go.Proofs.YthjodhmkmjabbaaW.PrintLast Go.Proofs.YthjodhmkmjabbaaW.PrintMore
attribute [local go_sem] max2_int min2_int max_two min_two max_three min_three max_four min_four   -- for this text's walks alone
set_option linter.unusedVariables false
set_option linter.unusedSimpArgs false
/-! ### yard_Nearest: function 53 -/
def yard_Nearest.j0 : Nat → Int → Bool → Int → Int → Option (Int × Int × Int)
 | 0, _, _, _, _ => none
 | k + 1, x0, x19, x549000, x549001 => if x19 = true then (some (0, 0, 2)) else (if x549001 ≤ x0 then (some (x549000, x549001, 0)) else ((yard_before.f k x0 x549000 x549001).bind fun bt552 => ((yard_next.f k x0 x549000 x549001).bind fun bt556 => ((cmp_Compare_int.f (wrap64 ((wrap64 ((wrap64 (x549000 * bt552.2.1)) - (wrap64 (bt552.1 * x549001)))) * bt556.2.1)) (wrap64 ((wrap64 ((wrap64 (bt556.1 * x549001)) - (wrap64 (x549000 * bt556.2.1)))) * bt552.2.1))).bind fun t560 => ((cmp_Compare_int.f bt552.2.1 bt556.2.1).bind fun t561 => ((cmp_Compare_int.f bt552.1 bt556.1).bind fun t562 => ((cmp_Or_int.f k (([t560, t561, t562] : List Int))).bind fun t566 => (if t566 ≤ 0 then (some (bt552.1, bt552.2.1, 0)) else (some (bt556.1, bt556.2.1, 0))))))))))
def yard_Nearest.f (k : Nat) (a0 : Int) (a1_0 : Int) (a1_1 : Int) : Option (Int × Int × Int) := (yard_isRow.f a0).bind fun t550 => (if t550 = true then ((yard_isFrac.f k a1_0 a1_1).bind fun t551 => (yard_Nearest.j0 k a0 (!t551) a1_0 a1_1)) else (yard_Nearest.j0 k a0 true a1_0 a1_1))
theorem yard_Nearest.mono_l : ∀ k, (∀ y0 y1 y2 y3, LeO (yard_Nearest.j0 k y0 y1 y2 y3) (yard_Nearest.j0 (k + 1) y0 y1 y2 y3))
 | 0 => fun _ _ _ _ r h => by simp [yard_Nearest.j0] at h
 | k + 1 => by
  have ih0 := yard_Nearest.mono_l k
  ·intro y0 y1 y2 y3
   unfold yard_Nearest.j0
   repeat' first
   | (with_reducible exact ih0 _ _ _ _)
   | (with_reducible exact cmp_Or_int.mono _ _)
   | (with_reducible exact yard_before.mono _ _ _ _)
   | (with_reducible exact yard_isFrac.mono _ _ _)
   | (with_reducible exact yard_next.mono _ _ _ _)
   | (with_reducible exact LeO.refl _)
   | (with_reducible exact LeO.none _)
   | (with_reducible refine LeO.ite ?_ ?_)
   | (with_reducible refine LeO.bind ?_ (fun _ => ?_))
   | exact ih0 _ _ _ _
   | exact cmp_Or_int.mono _ _
   | exact yard_before.mono _ _ _ _
   | exact yard_isFrac.mono _ _ _
   | exact yard_next.mono _ _ _ _
   | exact LeO.none _
   | refine LeO.ite ?_ ?_
   | refine LeO.bind ?_ (fun _ => ?_)
theorem yard_Nearest.mono : ∀ a0 a1 a2 k, LeO (yard_Nearest.f k a0 a1 a2) (yard_Nearest.f (k + 1) a0 a1 a2) := by
 intro a0 a1 a2 k
 have ih0 := yard_Nearest.mono_l k
 unfold yard_Nearest.f
 repeat' first
  | (with_reducible exact ih0 _ _ _ _)
  | (with_reducible exact cmp_Or_int.mono _ _)
  | (with_reducible exact yard_before.mono _ _ _ _)
  | (with_reducible exact yard_isFrac.mono _ _ _)
  | (with_reducible exact yard_next.mono _ _ _ _)
  | (with_reducible exact LeO.refl _)
  | (with_reducible exact LeO.none _)
  | (with_reducible refine LeO.ite ?_ ?_)
  | (with_reducible refine LeO.bind ?_ (fun _ => ?_))
  | exact ih0 _ _ _ _
  | exact cmp_Or_int.mono _ _
  | exact yard_before.mono _ _ _ _
  | exact yard_isFrac.mono _ _ _
  | exact yard_next.mono _ _ _ _
  | exact LeO.none _
  | refine LeO.ite ?_ ?_
  | refine LeO.bind ?_ (fun _ => ?_)
def yard_Nearest.T7 : Bool × List (List Nat × List Nat) := (true, [([], []), ([0], [0]), ([], []), ([2], [2]), ([1, 3], [1, 3]), ([], []), ([5], [5]), ([], []), ([7], [7]), ([6, 8], [6, 8]), ([4, 9], [4, 9]), ([], []), ([11], [11]), ([10, 12], [10, 12]), ([], []), ([14], [14]), ([], []), ([16], [16]), ([15, 17], [15, 17]), ([], []), ([19], [19]), ([], []), ([21], [21]), ([20, 22], [20, 22]), ([18, 23], [18, 23]), ([], []), ([25], [25]), ([24, 26], [24, 26]), ([13, 0, 1, 2, 3, 4, 5, 6, 7, 8, 9, 10, 11, 12, 13], [13]), ([27, 28, 0, 1, 2, 3, 4, 5, 6, 7, 8, 9, 10, 11, 12, 13, 14, 15, 16, 17, 18, 19, 20, 21, 22, 23, 24, 25, 26, 27, 28], [27])])
def yard_Nearest.B7 : List Nat := [0, 1, 0, 4, 15, 0, 32, 0, 128, 480, 1023, 0, 2048, 8191, 0, 16384, 0, 65536, 245760, 0, 524288, 0, 2097152, 7864320, 16760832, 0, 33554432, 134201344, 16383, 536870911]
theorem yard_Nearest.tab7 : rtab .any (opsOf Try.f53 7) = yard_Nearest.T7 := by kernel_rfl
theorem yard_Nearest.bits7 : waitsOk yard_Nearest.T7.2 yard_Nearest.B7 = true := by kernel_rfl
def yard_Nearest.T8 : Bool × List (List Nat × List Nat) := (true, [([], []), ([], []), ([0, 1], [0, 1]), ([], []), ([3], [3]), ([], []), ([5], [5]), ([4, 6, 2], [4, 6]), ([], []), ([8], [8]), ([], []), ([10], [10]), ([9, 11, 7], [9, 11]), ([2, 7, 12], [2, 7, 12]), ([13, 12], [13]), ([14], [14])])
def yard_Nearest.B8 : List Nat := [0, 0, 3, 0, 8, 0, 32, 127, 0, 256, 0, 1024, 4095, 8191, 16383, 32767]
theorem yard_Nearest.tab8 : rtab .any (opsOf Try.f53 8) = yard_Nearest.T8 := by kernel_rfl
theorem yard_Nearest.bits8 : waitsOk yard_Nearest.T8.2 yard_Nearest.B8 = true := by kernel_rfl
set_option maxHeartbeats 8000000 in
set_option maxRecDepth 100000 in
theorem yard_Nearest.calls (k : Nat) (a0 : Int) (a1_0 : Int) (a1_1 : Int) (r1 : Int) (r2 : Int) (r3 : Int) (w : World) (h : yard_Nearest.f k a0 a1_0 a1_1 = some (r1, r2, r3)) :
 Calls Try.prog 53 #[.int .i64 a0, .agg #[.int .i64 a1_0, .int .i64 a1_1]] w fun e w' => e = .returned (.tuple #[.agg #[.int .i64 r1, .int .i64 r2], .int .i64 r3]) ∧ Below w.heap.size w w' := by
 have hu23 := Try.underlying23
 have HB := Aside0.mk (Below.refl w.heap.size w)
 have H : ((yard_isRow.f a0).bind fun t550 => (if t550 = true then ((yard_isFrac.f k a1_0 a1_1).bind fun t551 => (yard_Nearest.j0 k a0 (!t551) a1_0 a1_1)) else (yard_Nearest.j0 k a0 true a1_0 a1_1))) = some (r1, r2, r3) := h
 clear h
 have HC3 := Aside0.mk H
 clear H
 go_enter Try.func53, Try.ntmps53
 go_upto_region 1 with (first | ((with_reducible refine gate_dst (N := 3) rfl ?_); refine box_event ?hg (N := 3) ?hd (cs := #[.int .i64 a1_0, .int .i64 a1_1]) (t := 23) ?hr ?_; (case hd => rfl); (case hg => rfl); (case hr => first | (go_simp; done) | (go_simp; rfl)); intro gb548 hg w4 hbox hb; have BK548 := Aside0.mk (hbox); have GW548 := bG HB hg; have GE548 := bG HB hg; replace HB := bS HB hb; clear hb hbox hg) | ((with_reducible refine gate_dst (N := 4) rfl ?_); refine box_event ?hg (N := 4) ?hd (cs := #[.int .i64 0, .int .i64 0]) (t := 23) ?hr ?_; (case hd => rfl); (case hg => rfl); (case hr => first | (go_simp; done) | (go_simp; rfl)); intro gb549 hg w5 hbox hb; have BK549 := Aside0.mk (hbox); have GW549 := bG HB hg; have GE549 := bG HB hg; replace HB := bS HB hb; have NB548_549 := nL BK548 hg; have NB549_548 := nG BK548 hg; replace BK548 := kB BK548 hb; clear hb hbox hg))
 (try simp only [Act.put, List.setIfInBounds_toArray, List.set_cons_zero, List.set_cons_succ])
 go_cut [19] (fun v19 wc => ∃ (kq : Nat) (x19_2 : Bool), v19 = .bool x19_2 ∧ Aside0 (yard_Nearest.j0 kq a0 x19_2 a1_0 a1_1 = some (r1, r2, r3)) ∧ Aside0 (kq ≤ k) ∧ Aside0 (wc.heap[gb548]? = some (.cells #[.int .i64 a1_0, .int .i64 a1_1] 23 (0, 0))) ∧ Aside0 (wc.heap[gb549]? = some (.cells #[.int .i64 0, .int .i64 0] 23 (0, 0))) ∧ Aside0 (Below w.heap.size w wc))
 case first =>
  have H := HC3.out
  clear HC3
  replace H := Option.bind_eq_some_iff.mp H
  obtain ⟨t550, A60, H⟩ := H
  replace H : (if t550 = true then ((yard_isFrac.f k a1_0 a1_1).bind fun t551 => (yard_Nearest.j0 k a0 (!t551) a1_0 a1_1)) else (yard_Nearest.j0 k a0 true a1_0 a1_1)) = some (r1, r2, r3) := H
  have A6 := Aside0.mk A60
  clear A60
  by_cases c7 : t550 = true
  ·subst c7
   have H1 : ((yard_isFrac.f k a1_0 a1_1).bind fun t551 => (yard_Nearest.j0 k a0 (!t551) a1_0 a1_1)) = some (r1, r2, r3) := by rw [if_pos rfl] at H; exact H
   clear H
   have H := H1
   clear H1
   replace H := Option.bind_eq_some_iff.mp H
   obtain ⟨t551, A80, H⟩ := H
   replace H : (yard_Nearest.j0 k a0 (!t551) a1_0 a1_1) = some (r1, r2, r3) := H
   have A8 := Aside0.mk A80
   clear A80
   have H' := Aside0.mk H
   clear H
   go_wp2_with (first | ((with_reducible refine gate_callee (f := 69) rfl ?_); refine gL 13 Try.func69 #[.int .i64 a0] (h := ?_); (with_reducible refine (yard_isRow.calls a0 true _ A6.out).mono ?_); rintro e w' ⟨rfl, ⟨nd, rfl⟩⟩; refine ⟨_, rfl, ?_⟩; have hnb9 := NB548_549.out; have hnc9 := NB549_548.out; obtain ⟨hcz10_0, hcz10_1, hfz10_0, hfz10_1⟩ := cQ BK548) | (go_at_call 60; (with_reducible refine (yard_isFrac.calls k a1_0 a1_1 t551 _ A8.out).mono ?_); rintro e w11 ⟨rfl, hb⟩; replace BK548 := kB BK548 hb; replace BK549 := kB BK549 hb; replace HB := bS HB hb; (try clear hb); (try clear hb2); (try clear hk); (try clear hi)))
   go_meet
   case rel => exact ⟨_, (!t551), (by first | rfl | (simp; done) | (simp [*]; done)), H', ⟨by first | omega | exact Nat.le_refl _⟩, kA BK548, kA BK549, bA HB⟩
  ·replace c7 := Bool.eq_false_iff.mpr c7
   subst c7
   have H1 : (yard_Nearest.j0 k a0 true a1_0 a1_1) = some (r1, r2, r3) := by rw [if_neg (show ¬ (false = true) by decide)] at H; exact H
   clear H
   have H := H1
   clear H1
   have H' := Aside0.mk H
   clear H
   go_wp2_with (first | ((with_reducible refine gate_callee (f := 69) rfl ?_); refine gL 13 Try.func69 #[.int .i64 a0] (h := ?_); (with_reducible refine (yard_isRow.calls a0 false _ A6.out).mono ?_); rintro e w' ⟨rfl, ⟨nd, rfl⟩⟩; refine ⟨_, rfl, ?_⟩))
   go_meet
   case rel => exact ⟨_, (true), (by first | rfl | (simp; done) | (simp [*]; done)), H', ⟨by first | omega | exact Nat.le_refl _⟩, kA BK548, kA BK549, bA HB⟩
 case rest =>
  clear HC3
  try clear p2
  obtain ⟨kq, x19_2, rfl, HA, HJ2, BK548, BK549, HB⟩ := hcut
  cases kq with
  | zero => exact absurd HA.out (by simp [yard_Nearest.j0])
  | succ kj2 =>
   have H := HA.out
   clear HA
   simp only [yard_Nearest.j0] at H
   by_cases c12 : x19_2 = true
   ·subst c12
    have H1 : (some (0, 0, 2)) = some (r1, r2, r3) := by rw [if_pos rfl] at H; exact H
    clear H
    have H := H1
    clear H1
    simp only [Option.some.injEq, Prod.mk.injEq] at H
    obtain ⟨rfl, rfl, rfl⟩ := H
    have hnb13 := NB549_548.out
    have hnc13 := NB548_549.out
    obtain ⟨hcz14_0, hcz14_1, hfz14_0, hfz14_1⟩ := cQ BK549
    go_wp2
    refine bodyPost_ret (results_ct rfl _ _ gb549 23 #[.int .i64 0, .int .i64 0] (0, 0) _ rfl (by (with_reducible repeat (first | refine blk_drewN ?_ _ | refine blk_drew ?_ | refine blk_alloc ?_ _)); refine blk_put (cs := #[.int .i64 0, .int .i64 0]) ?_ 1 _ rfl; (with_reducible repeat (first | refine blk_drewN ?_ _ | refine blk_drew ?_ | refine blk_alloc ?_ _)); refine blk_put (cs := #[.int .i64 0, .int .i64 0]) ?_ 0 _ rfl; (with_reducible repeat (first | refine blk_drewN ?_ _ | refine blk_drew ?_ | refine blk_alloc ?_ _)); exact BK549.out) Try.underlying23 rfl (by kernel_rfl)) rfl ?_
    exact ⟨by first | rfl | (simp [errW_none, errW_some] <;> rfl) | (simp [*, errW_none, errW_some] <;> rfl), bB HB⟩
   ·replace c12 := Bool.eq_false_iff.mpr c12
    subst c12
    have H1 : (if a1_1 ≤ a0 then (some (a1_0, a1_1, 0)) else ((yard_before.f kj2 a0 a1_0 a1_1).bind fun bt552 => ((yard_next.f kj2 a0 a1_0 a1_1).bind fun bt556 => ((cmp_Compare_int.f (wrap64 ((wrap64 ((wrap64 (a1_0 * bt552.2.1)) - (wrap64 (bt552.1 * a1_1)))) * bt556.2.1)) (wrap64 ((wrap64 ((wrap64 (bt556.1 * a1_1)) - (wrap64 (a1_0 * bt556.2.1)))) * bt552.2.1))).bind fun t560 => ((cmp_Compare_int.f bt552.2.1 bt556.2.1).bind fun t561 => ((cmp_Compare_int.f bt552.1 bt556.1).bind fun t562 => ((cmp_Or_int.f kj2 (([t560, t561, t562] : List Int))).bind fun t566 => (if t566 ≤ 0 then (some (bt552.1, bt552.2.1, 0)) else (some (bt556.1, bt556.2.1, 0)))))))))) = some (r1, r2, r3) := by rw [if_neg (show ¬ (false = true) by decide)] at H; exact H
    clear H
    have H := H1
    clear H1
    by_cases c15 : a1_1 ≤ a0
    ·rw [if_pos c15] at H
     have c15b0 : decide (a1_1 ≤ a0) = true := decide_eq_true c15
     clear c15
     simp only [Option.some.injEq, Prod.mk.injEq] at H
     obtain ⟨rfl, rfl, rfl⟩ := H
     have hnb16 := NB548_549.out
     have hnc16 := NB549_548.out
     obtain ⟨hcz17_0, hcz17_1, hfz17_0, hfz17_1⟩ := cQ BK548
     obtain ⟨hcz18_0, hcz18_1, hfz18_0, hfz18_1⟩ := cQ BK549
     go_wp2
     refine bodyPost_ret (results_ct rfl _ _ gb549 23 #[.int .i64 a1_0, .int .i64 a1_1] (0, 0) _ rfl (by (with_reducible repeat (first | refine blk_drewN ?_ _ | refine blk_drew ?_ | refine blk_alloc ?_ _)); refine blk_put (cs := #[.int .i64 a1_0, .int .i64 0]) ?_ 1 _ rfl; (with_reducible repeat (first | refine blk_drewN ?_ _ | refine blk_drew ?_ | refine blk_alloc ?_ _)); refine blk_put (cs := #[.int .i64 0, .int .i64 0]) ?_ 0 _ rfl; (with_reducible repeat (first | refine blk_drewN ?_ _ | refine blk_drew ?_ | refine blk_alloc ?_ _)); exact BK549.out) Try.underlying23 rfl (by kernel_rfl)) rfl ?_
     exact ⟨by first | rfl | (simp [errW_none, errW_some] <;> rfl) | (simp [*, errW_none, errW_some] <;> rfl), bB HB⟩
    ·rw [if_neg c15] at H
     have c15b0 : decide (a1_1 ≤ a0) = false := decide_eq_false c15
     clear c15
     replace H := Option.bind_eq_some_iff.mp H
     obtain ⟨⟨t552, t553, t554⟩, A190, H⟩ := H
     replace H : ((yard_next.f kj2 a0 a1_0 a1_1).bind fun bt556 => ((cmp_Compare_int.f (wrap64 ((wrap64 ((wrap64 (a1_0 * t553)) - (wrap64 (t552 * a1_1)))) * bt556.2.1)) (wrap64 ((wrap64 ((wrap64 (bt556.1 * a1_1)) - (wrap64 (a1_0 * bt556.2.1)))) * t553))).bind fun t560 => ((cmp_Compare_int.f t553 bt556.2.1).bind fun t561 => ((cmp_Compare_int.f t552 bt556.1).bind fun t562 => ((cmp_Or_int.f kj2 (([t560, t561, t562] : List Int))).bind fun t566 => (if t566 ≤ 0 then (some (t552, t553, 0)) else (some (bt556.1, bt556.2.1, 0)))))))) = some (r1, r2, r3) := H
     have A19 := Aside0.mk A190
     clear A190
     replace H := Option.bind_eq_some_iff.mp H
     obtain ⟨⟨t556, t557, t558⟩, A200, H⟩ := H
     replace H : ((cmp_Compare_int.f (wrap64 ((wrap64 ((wrap64 (a1_0 * t553)) - (wrap64 (t552 * a1_1)))) * t557)) (wrap64 ((wrap64 ((wrap64 (t556 * a1_1)) - (wrap64 (a1_0 * t557)))) * t553))).bind fun t560 => ((cmp_Compare_int.f t553 t557).bind fun t561 => ((cmp_Compare_int.f t552 t556).bind fun t562 => ((cmp_Or_int.f kj2 (([t560, t561, t562] : List Int))).bind fun t566 => (if t566 ≤ 0 then (some (t552, t553, 0)) else (some (t556, t557, 0))))))) = some (r1, r2, r3) := H
     have A20 := Aside0.mk A200
     clear A200
     replace H := Option.bind_eq_some_iff.mp H
     obtain ⟨t560, A210, H⟩ := H
     replace H : ((cmp_Compare_int.f t553 t557).bind fun t561 => ((cmp_Compare_int.f t552 t556).bind fun t562 => ((cmp_Or_int.f kj2 (([t560, t561, t562] : List Int))).bind fun t566 => (if t566 ≤ 0 then (some (t552, t553, 0)) else (some (t556, t557, 0)))))) = some (r1, r2, r3) := H
     have A21 := Aside0.mk A210
     clear A210
     replace H := Option.bind_eq_some_iff.mp H
     obtain ⟨t561, A220, H⟩ := H
     replace H : ((cmp_Compare_int.f t552 t556).bind fun t562 => ((cmp_Or_int.f kj2 (([t560, t561, t562] : List Int))).bind fun t566 => (if t566 ≤ 0 then (some (t552, t553, 0)) else (some (t556, t557, 0))))) = some (r1, r2, r3) := H
     have A22 := Aside0.mk A220
     clear A220
     replace H := Option.bind_eq_some_iff.mp H
     obtain ⟨t562, A230, H⟩ := H
     replace H : ((cmp_Or_int.f kj2 (([t560, t561, t562] : List Int))).bind fun t566 => (if t566 ≤ 0 then (some (t552, t553, 0)) else (some (t556, t557, 0)))) = some (r1, r2, r3) := H
     have A23 := Aside0.mk A230
     clear A230
     obtain ⟨y563, hy563⟩ : ∃ y_ : List Int, y_ = (([t560, t561, t562] : List Int)) := ⟨_, rfl⟩
     replace H : ((cmp_Or_int.f kj2 y563).bind fun t566 => (if t566 ≤ 0 then (some (t552, t553, 0)) else (some (t556, t557, 0)))) = some (r1, r2, r3) := by first | (rw [hy563]; with_reducible exact H) | (have H2_ := (Option.bind_some _ _).symm.trans H; rw [hy563]; with_reducible exact H2_) | (have H2_ := (Option.bind_some _ _).symm.trans H; with_reducible exact H2_) | with_reducible exact H | (rw [hy563]; exact H) | exact H
     have Ny563 := Aside0.mk hy563
     clear hy563
     replace H := Option.bind_eq_some_iff.mp H
     obtain ⟨t566, A240, H⟩ := H
     replace H : (if t566 ≤ 0 then (some (t552, t553, 0)) else (some (t556, t557, 0))) = some (r1, r2, r3) := H
     have A24 := Aside0.mk A240
     clear A240
     by_cases c25 : t566 ≤ 0
     ·rw [if_pos c25] at H
      have c25b0 : decide (t566 ≤ 0) = true := decide_eq_true c25
      clear c25
      simp only [Option.some.injEq, Prod.mk.injEq] at H
      obtain ⟨rfl, rfl, rfl⟩ := H
      have hnb26 := NB548_549.out
      have hnc26 := NB549_548.out
      obtain ⟨hcz27_0, hcz27_1, hfz27_0, hfz27_1⟩ := cQ BK548
      try go_wp2_with (first | ((with_reducible refine gate_callee (f := 74) rfl ?_); refine gL 29 Try.func74 #[.int .i64 a0, .agg #[.int .i64 a1_0, .int .i64 a1_1]] (h := ?_); (with_reducible refine (yard_before.calls kj2 a0 a1_0 a1_1 t552 t553 t554 _ A19.out).mono ?_); rintro e w28 ⟨rfl, hb⟩; refine ⟨_, rfl, ?_⟩; replace BK548 := kB BK548 hb; replace BK549 := kB BK549 hb; replace HB := bS HB hb; (try clear hb); (try clear hb2); (try clear hk); (try clear hi)) | ((with_reducible refine gate_dst (N := 6) rfl ?_); refine box_event ?hg (N := 6) ?hd (cs := #[.int .i64 0, .int .i64 0]) (t := 23) ?hr ?_; (case hd => rfl); (case hg => rfl); (case hr => first | (go_simp; done) | (go_simp; rfl)); intro gb555 hg w29 hbox hb; have BK555 := Aside0.mk (hbox); have GW555 := bG HB hg; have GE555 := bG HB hg; replace HB := bS HB hb; have NB548_555 := nL BK548 hg; have NB555_548 := nG BK548 hg; replace BK548 := kB BK548 hb; have NB549_555 := nL BK549 hg; have NB555_549 := nG BK549 hg; replace BK549 := kB BK549 hb; clear hb hbox hg; have hnb30 := NB555_548.out; have hnc30 := NB548_555.out; have hnb31 := NB555_549.out; have hnc31 := NB549_555.out; obtain ⟨hcz32_0, hcz32_1, hfz32_0, hfz32_1⟩ := cQ BK555; obtain ⟨hcz33_0, hcz33_1, hfz33_0, hfz33_1⟩ := cQ BK548) | ((with_reducible refine gate_callee (f := 75) rfl ?_); refine gL 35 Try.func75 #[.int .i64 a0, .agg #[.int .i64 a1_0, .int .i64 a1_1]] (h := ?_); (with_reducible refine (yard_next.calls kj2 a0 a1_0 a1_1 t556 t557 t558 _ A20.out).mono ?_); rintro e w34 ⟨rfl, hb⟩; refine ⟨_, rfl, ?_⟩; replace BK548 := kF BK548 hb; replace BK549 := kF BK549 hb; replace BK555 := Aside0.mk (blk_below (g := gb555) (o := .cells #[.int .i64 t552, .int .i64 t553] 23 (0, 0)) (by (with_reducible repeat (first | refine blk_drewN ?_ _ | refine blk_drew ?_ | refine blk_alloc ?_ _)); refine blk_put (cs := #[.int .i64 t552, .int .i64 0]) ?_ 1 _ rfl; (with_reducible repeat (first | refine blk_drewN ?_ _ | refine blk_drew ?_ | refine blk_alloc ?_ _)); refine blk_put (cs := #[.int .i64 0, .int .i64 0]) ?_ 0 _ rfl; (with_reducible repeat (first | refine blk_drewN ?_ _ | refine blk_drew ?_ | refine blk_alloc ?_ _)); exact BK555.out) hb); replace HB := bS HB hb; (try clear hb); (try clear hb2); (try clear hk); (try clear hi)) | ((with_reducible refine gate_dst (N := 8) rfl ?_); refine box_event ?hg (N := 8) ?hd (cs := #[.int .i64 0, .int .i64 0]) (t := 23) ?hr ?_; (case hd => rfl); (case hg => rfl); (case hr => first | (go_simp; done) | (go_simp; rfl)); intro gb559 hg w35 hbox hb; have BK559 := Aside0.mk (hbox); have GW559 := bG HB hg; have GE559 := bG HB hg; replace HB := bS HB hb; have NB548_559 := nL BK548 hg; have NB559_548 := nG BK548 hg; replace BK548 := kB BK548 hb; have NB549_559 := nL BK549 hg; have NB559_549 := nG BK549 hg; replace BK549 := kB BK549 hb; have NB555_559 := nL BK555 hg; have NB559_555 := nG BK555 hg; replace BK555 := kB BK555 hb; clear hb hbox hg; have hnb36 := NB559_548.out; have hnc36 := NB548_559.out; have hnb37 := NB559_549.out; have hnc37 := NB549_559.out; have hnb38 := NB559_555.out; have hnc38 := NB555_559.out; obtain ⟨hcz39_0, hcz39_1, hfz39_0, hfz39_1⟩ := cQ BK559))
      have n0_ : Aside0 (((w35.setCell ⟨gb559, 0, none⟩ (.int .i64 t556)).setCell ⟨gb559, 1, none⟩ (.int .i64 t557)).heap[gb548]? = some (.cells #[.int .i64 a1_0, .int .i64 a1_1] 23 (0, 0))) := kG BK548
      have n1_ : Aside0 (((w35.setCell ⟨gb559, 0, none⟩ (.int .i64 t556)).setCell ⟨gb559, 1, none⟩ (.int .i64 t557)).heap[gb549]? = some (.cells #[.int .i64 0, .int .i64 0] 23 (0, 0))) := kG BK549
      have n2_ : Aside0 (((w35.setCell ⟨gb559, 0, none⟩ (.int .i64 t556)).setCell ⟨gb559, 1, none⟩ (.int .i64 t557)).heap[gb555]? = some (.cells #[.int .i64 t552, .int .i64 t553] 23 (0, 0))) := kG BK555
      have n3_ : Aside0 (((w35.setCell ⟨gb559, 0, none⟩ (.int .i64 t556)).setCell ⟨gb559, 1, none⟩ (.int .i64 t557)).heap[gb559]? = some (.cells #[.int .i64 t556, .int .i64 t557] 23 (0, 0))) := ⟨by (with_reducible repeat (first | refine blk_drewN ?_ _ | refine blk_drew ?_ | refine blk_alloc ?_ _)); refine blk_put (cs := #[.int .i64 t556, .int .i64 0]) ?_ 1 _ rfl; (with_reducible repeat (first | refine blk_drewN ?_ _ | refine blk_drew ?_ | refine blk_alloc ?_ _)); refine blk_put (cs := #[.int .i64 0, .int .i64 0]) ?_ 0 _ rfl; (with_reducible repeat (first | refine blk_drewN ?_ _ | refine blk_drew ?_ | refine blk_alloc ?_ _)); exact BK559.out⟩
      have n4_ : Aside0 (Below w.heap.size w ((w35.setCell ⟨gb559, 0, none⟩ (.int .i64 t556)).setCell ⟨gb559, 1, none⟩ (.int .i64 t557))) := bA HB
      (try clear BK548)
      (try clear BK549)
      (try clear BK555)
      (try clear BK559)
      (try clear HB)
      generalize ((w35.setCell ⟨gb559, 0, none⟩ (.int .i64 t556)).setCell ⟨gb559, 1, none⟩ (.int .i64 t557)) = w40 at n0_ n1_ n2_ n3_ n4_ ⊢
      have BK548 := n0_
      have BK549 := n1_
      have BK555 := n2_
      have BK559 := n3_
      have HB := n4_
      clear n0_ n1_ n2_ n3_ n4_
      replace BK548 := Aside0.mk (blk_drew BK548.out)
      replace BK549 := Aside0.mk (blk_drew BK549.out)
      replace BK555 := Aside0.mk (blk_drew BK555.out)
      replace BK559 := Aside0.mk (blk_drew BK559.out)
      replace HB := Aside0.mk (below_drew1 HB.out)
      refine start_ (n := 30) (S := fun w' => w'.cell? ⟨gb548, 0, none⟩ = some (.int .i64 a1_0) ∧ w'.cell? ⟨gb548, 1, none⟩ = some (.int .i64 a1_1) ∧ w'.cell? ⟨gb555, 0, none⟩ = some (.int .i64 t552) ∧ w'.cell? ⟨gb555, 1, none⟩ = some (.int .i64 t553) ∧ w'.cell? ⟨gb559, 0, none⟩ = some (.int .i64 t556) ∧ w'.cell? ⟨gb559, 1, none⟩ = some (.int .i64 t557)) (ds := []) (lb 30 0) (by kernel_rfl) rfl (by kernel_rfl) ⟨(blk_cell BK548.out 0).trans rfl, (blk_cell BK548.out 1).trans rfl, (blk_cell BK555.out 0).trans rfl, (blk_cell BK555.out 1).trans rfl, (blk_cell BK559.out 0).trans rfl, (blk_cell BK559.out 1).trans rfl⟩ (fun hHeld => ?_); refine with_tabW yard_Nearest.tab7 yard_Nearest.bits7 (fun HT_ HW_ => ?_)
      generalize w40.drew = w41 at BK548 BK549 BK555 BK559 HB hHeld ⊢
      refine pk HT_ 30 1 0 38 (h := ?_)
      refine pk HT_ 30 5 2 40 (h := ?_)
      refine pk HT_ 30 37 5 43 (h := ?_)
      refine pk HT_ 30 165 7 45 (h := ?_)
      refine pk HT_ 30 0x8a5 11 49 (h := ?_)
      refine pk HT_ 30 0x48a5 14 52 (h := ?_)
      refine pk HT_ 30 0x148a5 16 54 (h := ?_)
      refine pk HT_ 30 0x948a5 19 57 (h := ?_)
      refine pk HT_ 30 0x2948a5 21 59 (h := ?_)
      refine pk HT_ 30 0x22948a5 25 63 (h := ?_)
      refine tk6 HT_ HW_ hHeld 30 0x22948a7 1 39 (h := ?_)
      refine tk6 HT_ HW_ hHeld 30 0x22948af 3 41 (h := ?_)
      refine pk HT_ 30 0x22948bf 4 42 (h := ?_)
      refine tk6 HT_ HW_ hHeld 30 0x22948ff 6 44 (h := ?_)
      refine tk6 HT_ HW_ hHeld 30 0x22949ff 8 46 (h := ?_)
      refine pk HT_ 30 0x2294bff 9 47 (h := ?_)
      refine pk HT_ 30 0x2294fff 10 48 (h := ?_)
      refine tk6 HT_ HW_ hHeld 30 0x2295fff 12 50 (h := ?_)
      refine pk HT_ 30 0x2297fff 13 51 (h := ?_)
      refine pk HT_ 30 0x12297fff 28 10 (h := ?_)
      refine tk6 HT_ HW_ hHeld 30 0x1229ffff 15 53 (h := ?_)
      refine tk6 HT_ HW_ hHeld 30 0x122bffff 17 55 (h := ?_)
      refine pk HT_ 30 0x122fffff 18 56 (h := ?_)
      refine tk6 HT_ HW_ hHeld 30 0x123fffff 20 58 (h := ?_)
      refine tk6 HT_ HW_ hHeld 30 0x127fffff 22 60 (h := ?_)
      refine pk HT_ 30 0x12ffffff 23 61 (h := ?_)
      refine pk HT_ 30 0x13ffffff 24 62 (h := ?_)
      refine tk6 HT_ HW_ hHeld 30 0x17ffffff 26 64 (h := ?_)
      refine pk HT_ 30 0x1fffffff 27 65 (h := ?_)
      refine pk HT_ 30 0x3fffffff 29 11 (h := ?_)
      refine done_ (done_of HT_.out (by kernel_rfl)) ?_
      try go_wp2
      replace BK548 := Aside0.mk (blk_drew BK548.out)
      replace BK549 := Aside0.mk (blk_drew BK549.out)
      replace BK555 := Aside0.mk (blk_drew BK555.out)
      replace BK559 := Aside0.mk (blk_drew BK559.out)
      replace HB := Aside0.mk (below_drew1 HB.out)
      refine start_ (n := 16) (S := fun w' => w'.cell? ⟨gb555, 0, none⟩ = some (.int .i64 t552) ∧ w'.cell? ⟨gb555, 1, none⟩ = some (.int .i64 t553) ∧ w'.cell? ⟨gb559, 0, none⟩ = some (.int .i64 t556) ∧ w'.cell? ⟨gb559, 1, none⟩ = some (.int .i64 t557)) (ds := []) (lb 16 0) (by kernel_rfl) rfl (by kernel_rfl) ⟨(blk_cell BK555.out 0).trans rfl, (blk_cell BK555.out 1).trans rfl, (blk_cell BK559.out 0).trans rfl, (blk_cell BK559.out 1).trans rfl⟩ (fun hHeld => ?_); refine with_tabW yard_Nearest.tab8 yard_Nearest.bits8 (fun HT_ HW_ => ?_)
      generalize w41.drew = w42 at BK548 BK549 BK555 BK559 HB hHeld ⊢
      refine pk HT_ 16 1 0 66 (h := ?_)
      refine pk HT_ 16 3 1 67 (h := ?_)
      refine pk HT_ 16 11 3 69 (h := ?_)
      refine pk HT_ 16 43 5 71 (h := ?_)
      refine pk HT_ 16 299 8 74 (h := ?_)
      refine pk HT_ 16 0x52b 10 76 (h := ?_)
      refine tk4 HT_ HW_ hHeld 16 0x53b 4 70 (h := ?_)
      refine tk4 HT_ HW_ hHeld 16 0x57b 6 72 (h := ?_)
      refine tk4 HT_ HW_ hHeld 16 0x77b 9 75 (h := ?_)
      refine tk4 HT_ HW_ hHeld 16 0xf7b 11 77 (h := ?_)
      refine one_ (i := 2) (N := some 68) (lb 16 0xf7f) rfl rfl (one_of HT_.out (by kernel_rfl)) (by decide) (fun K hK => ?_)
      refine gS Try.func81 #[.int .i64 (wrap64 ((wrap64 ((wrap64 (a1_0 * t553)) - (wrap64 (t552 * a1_1)))) * t557)), .int .i64 (wrap64 ((wrap64 ((wrap64 (t556 * a1_1)) - (wrap64 (a1_0 * t557)))) * t553))] (h := ?_)
      with_reducible refine (cmp_Compare_int.calls (wrap64 ((wrap64 ((wrap64 (a1_0 * t553)) - (wrap64 (t552 * a1_1)))) * t557)) (wrap64 ((wrap64 ((wrap64 (t556 * a1_1)) - (wrap64 (a1_0 * t557)))) * t553)) t560 _ A21.out).mono ?_
      rintro e w' ⟨rfl, ⟨nd, rfl⟩⟩
      refine ⟨_, rfl, ?_⟩
      refine hK.out _ _ ⟨(blk_cell BK555.out 0).trans rfl, (blk_cell BK555.out 1).trans rfl, (blk_cell BK559.out 0).trans rfl, (blk_cell BK559.out 1).trans rfl⟩ (fun hHeld => ?_)
      clear hK K
      refine norm_ (a' := ?_) ?_ ?_
      rotate_left
      ·show Act.put _ (some 68) _ = _
       simp only [Act.put, List.setIfInBounds_toArray, List.set_cons_zero, List.set_cons_succ, i64_w, i32_w]
       rfl
      refine one_ (i := 7) (N := some 73) (lb 16 0xfff) rfl rfl (one_of HT_.out (by kernel_rfl)) (by decide) (fun K hK => ?_)
      refine gS Try.func81 #[.int .i64 t553, .int .i64 t557] (h := ?_)
      with_reducible refine (cmp_Compare_int.calls t553 t557 t561 _ A22.out).mono ?_
      rintro e w' ⟨rfl, ⟨nd, rfl⟩⟩
      refine ⟨_, rfl, ?_⟩
      refine hK.out _ _ ⟨(blk_cell BK555.out 0).trans rfl, (blk_cell BK555.out 1).trans rfl, (blk_cell BK559.out 0).trans rfl, (blk_cell BK559.out 1).trans rfl⟩ (fun hHeld => ?_)
      clear hK K
      refine norm_ (a' := ?_) ?_ ?_
      rotate_left
      ·show Act.put _ (some 73) _ = _
       simp only [Act.put, List.setIfInBounds_toArray, List.set_cons_zero, List.set_cons_succ, i64_w, i32_w]
       rfl
      refine one_ (i := 12) (N := some 78) (lb 16 0x1fff) rfl rfl (one_of HT_.out (by kernel_rfl)) (by decide) (fun K hK => ?_)
      refine gS Try.func81 #[.int .i64 t552, .int .i64 t556] (h := ?_)
      with_reducible refine (cmp_Compare_int.calls t552 t556 t562 _ A23.out).mono ?_
      rintro e w' ⟨rfl, ⟨nd, rfl⟩⟩
      refine ⟨_, rfl, ?_⟩
      refine hK.out _ _ ⟨(blk_cell BK555.out 0).trans rfl, (blk_cell BK555.out 1).trans rfl, (blk_cell BK559.out 0).trans rfl, (blk_cell BK559.out 1).trans rfl⟩ (fun hHeld => ?_)
      clear hK K
      refine norm_ (a' := ?_) ?_ ?_
      rotate_left
      ·show Act.put _ (some 78) _ = _
       simp only [Act.put, List.setIfInBounds_toArray, List.set_cons_zero, List.set_cons_succ, i64_w, i32_w]
       rfl
      refine one_ (i := 13) (N := some 79) (lb 16 0x3fff) rfl rfl (one_of HT_.out (by kernel_rfl)) (by decide) (fun K hK => ?_)
      refine Kd.R_lit_step (Kd.int .i64) _ 3 ?hg (N := 79) ?hd (xs := ([t560, t561, t562] : List Int)) (inner := [.int .i64 t560, .int .i64 t561, .int .i64 t562]) (ok := fun _ => True) (okp := fun _ => True) ?hr ?hp (fun _ hk => hk) trivial (Below.refl _ _) (Nat.le_refl _) (by simp) ?_; (case hd => rfl); (case hg => rfl); (case hr => first | (go_simp; done) | (go_simp; rfl)); (case hp => exact (Reps.one (show Kd.M (Kd.int .i64) _ _ _ t560 [.int .i64 t560] from rfl) (Reps.one (show Kd.M (Kd.int .i64) _ _ _ t561 [.int .i64 t561] from rfl) (Reps.one (show Kd.M (Kd.int .i64) _ _ _ t562 [.int .i64 t562] from rfl) (Reps.none _ _)))))
      intro v564 w43 ho44 hb hg_ hnew_
      clear hg_ hnew_
      (first | rw [← Ny563.out] at ho44 | (simp only [Int.reduceToNat] at ho44; rw [← Ny563.out] at ho44))
      have HO565 := Aside0.mk (Kd.R_lower ho44 (below_size (bB HB)))
      replace BK548 := kB BK548 hb
      replace BK549 := kB BK549 hb
      replace BK555 := kB BK555 hb
      replace BK559 := kB BK559 hb
      replace HB := bS HB hb
      clear hb ho44
      obtain ⟨Ao45, co45, eo45⟩ := Kd.R_slice HO565.out
      (first | subst eo45 | (injection eo45 with f1_ f2_ f3_; have f4_ := f1_.symm; have f5_ := f3_.symm; clear f1_ f2_ f3_; subst f4_; subst f5_))
      refine hK.out _ _ ⟨(blk_cell BK555.out 0).trans rfl, (blk_cell BK555.out 1).trans rfl, (blk_cell BK559.out 0).trans rfl, (blk_cell BK559.out 1).trans rfl⟩ (fun hHeld => ?_)
      clear hK K
      refine norm_ (a' := ?_) ?_ ?_
      rotate_left
      ·show Act.put _ (some 79) _ = _
       simp only [Act.put, List.setIfInBounds_toArray, List.set_cons_zero, List.set_cons_succ, i64_w, i32_w]
       rfl
      refine one_ (i := 14) (N := some 80) (lb 16 0x7fff) rfl rfl (one_of HT_.out (by kernel_rfl)) (by decide) (fun K hK => ?_)
      refine gS Try.func80 #[.slice Ao45 y563.length co45] (h := ?_)
      with_reducible refine (cmp_Or_int.calls kj2 _ _ y563 t566 _ ?side1 ?side2 A24.out).mono ?_
      (case side1 => repeat (first | exact (Kd.R_reads' HO565.out).2.2 | (with_reducible refine Kd.C_alloc ?_ _) | (with_reducible refine Kd.C_drewN ?_ _) | (with_reducible refine Kd.C_drew ?_)))
      (case side2 => exact (Kd.R_reads' HO565.out).2.1)
      rintro e w' ⟨rfl, ⟨nd, rfl⟩⟩
      refine ⟨_, rfl, ?_⟩
      refine hK.out _ _ ⟨(blk_cell BK555.out 0).trans rfl, (blk_cell BK555.out 1).trans rfl, (blk_cell BK559.out 0).trans rfl, (blk_cell BK559.out 1).trans rfl⟩ (fun hHeld => ?_)
      clear hK K
      refine norm_ (a' := ?_) ?_ ?_
      rotate_left
      ·show Act.put _ (some 80) _ = _
       simp only [Act.put, List.setIfInBounds_toArray, List.set_cons_zero, List.set_cons_succ, i64_w, i32_w]
       rfl
      refine pk HT_ 16 0xffff 15 81 (h := ?_)
      refine done_ (done_of HT_.out (by kernel_rfl)) ?_
      obtain ⟨hcz46_0, hcz46_1, hfz46_0, hfz46_1⟩ := cQ BK555
      obtain ⟨hcz47_0, hcz47_1, hfz47_0, hfz47_1⟩ := cQ BK549
      try go_wp2
      refine bodyPost_ret (results_ct rfl _ _ gb549 23 #[.int .i64 t552, .int .i64 t553] (0, 0) _ rfl (by (with_reducible repeat (first | refine blk_drewN ?_ _ | refine blk_drew ?_ | refine blk_alloc ?_ _)); refine blk_put (cs := #[.int .i64 t552, .int .i64 0]) ?_ 1 _ rfl; (with_reducible repeat (first | refine blk_drewN ?_ _ | refine blk_drew ?_ | refine blk_alloc ?_ _)); refine blk_put (cs := #[.int .i64 0, .int .i64 0]) ?_ 0 _ rfl; (with_reducible repeat (first | refine blk_drewN ?_ _ | refine blk_drew ?_ | refine blk_alloc ?_ _)); exact BK549.out) Try.underlying23 rfl (by kernel_rfl)) rfl ?_
      exact ⟨by first | rfl | (simp [errW_none, errW_some] <;> rfl) | (simp [*, errW_none, errW_some] <;> rfl), bB HB⟩
     ·rw [if_neg c25] at H
      have c25b0 : decide (t566 ≤ 0) = false := decide_eq_false c25
      clear c25
      simp only [Option.some.injEq, Prod.mk.injEq] at H
      obtain ⟨rfl, rfl, rfl⟩ := H
      have hnb48 := NB548_549.out
      have hnc48 := NB549_548.out
      obtain ⟨hcz49_0, hcz49_1, hfz49_0, hfz49_1⟩ := cQ BK548
      try go_wp2_with (first | ((with_reducible refine gate_callee (f := 74) rfl ?_); refine gL 29 Try.func74 #[.int .i64 a0, .agg #[.int .i64 a1_0, .int .i64 a1_1]] (h := ?_); (with_reducible refine (yard_before.calls kj2 a0 a1_0 a1_1 t552 t553 t554 _ A19.out).mono ?_); rintro e w50 ⟨rfl, hb⟩; refine ⟨_, rfl, ?_⟩; replace BK548 := kB BK548 hb; replace BK549 := kB BK549 hb; replace HB := bS HB hb; (try clear hb); (try clear hb2); (try clear hk); (try clear hi)) | ((with_reducible refine gate_dst (N := 6) rfl ?_); refine box_event ?hg (N := 6) ?hd (cs := #[.int .i64 0, .int .i64 0]) (t := 23) ?hr ?_; (case hd => rfl); (case hg => rfl); (case hr => first | (go_simp; done) | (go_simp; rfl)); intro gb555 hg w51 hbox hb; have BK555 := Aside0.mk (hbox); have GW555 := bG HB hg; have GE555 := bG HB hg; replace HB := bS HB hb; have NB548_555 := nL BK548 hg; have NB555_548 := nG BK548 hg; replace BK548 := kB BK548 hb; have NB549_555 := nL BK549 hg; have NB555_549 := nG BK549 hg; replace BK549 := kB BK549 hb; clear hb hbox hg; have hnb52 := NB555_548.out; have hnc52 := NB548_555.out; have hnb53 := NB555_549.out; have hnc53 := NB549_555.out; obtain ⟨hcz54_0, hcz54_1, hfz54_0, hfz54_1⟩ := cQ BK555; obtain ⟨hcz55_0, hcz55_1, hfz55_0, hfz55_1⟩ := cQ BK548) | ((with_reducible refine gate_callee (f := 75) rfl ?_); refine gL 35 Try.func75 #[.int .i64 a0, .agg #[.int .i64 a1_0, .int .i64 a1_1]] (h := ?_); (with_reducible refine (yard_next.calls kj2 a0 a1_0 a1_1 t556 t557 t558 _ A20.out).mono ?_); rintro e w56 ⟨rfl, hb⟩; refine ⟨_, rfl, ?_⟩; replace BK548 := kF BK548 hb; replace BK549 := kF BK549 hb; replace BK555 := Aside0.mk (blk_below (g := gb555) (o := .cells #[.int .i64 t552, .int .i64 t553] 23 (0, 0)) (by (with_reducible repeat (first | refine blk_drewN ?_ _ | refine blk_drew ?_ | refine blk_alloc ?_ _)); refine blk_put (cs := #[.int .i64 t552, .int .i64 0]) ?_ 1 _ rfl; (with_reducible repeat (first | refine blk_drewN ?_ _ | refine blk_drew ?_ | refine blk_alloc ?_ _)); refine blk_put (cs := #[.int .i64 0, .int .i64 0]) ?_ 0 _ rfl; (with_reducible repeat (first | refine blk_drewN ?_ _ | refine blk_drew ?_ | refine blk_alloc ?_ _)); exact BK555.out) hb); replace HB := bS HB hb; (try clear hb); (try clear hb2); (try clear hk); (try clear hi)) | ((with_reducible refine gate_dst (N := 8) rfl ?_); refine box_event ?hg (N := 8) ?hd (cs := #[.int .i64 0, .int .i64 0]) (t := 23) ?hr ?_; (case hd => rfl); (case hg => rfl); (case hr => first | (go_simp; done) | (go_simp; rfl)); intro gb559 hg w57 hbox hb; have BK559 := Aside0.mk (hbox); have GW559 := bG HB hg; have GE559 := bG HB hg; replace HB := bS HB hb; have NB548_559 := nL BK548 hg; have NB559_548 := nG BK548 hg; replace BK548 := kB BK548 hb; have NB549_559 := nL BK549 hg; have NB559_549 := nG BK549 hg; replace BK549 := kB BK549 hb; have NB555_559 := nL BK555 hg; have NB559_555 := nG BK555 hg; replace BK555 := kB BK555 hb; clear hb hbox hg; have hnb58 := NB559_548.out; have hnc58 := NB548_559.out; have hnb59 := NB559_549.out; have hnc59 := NB549_559.out; have hnb60 := NB559_555.out; have hnc60 := NB555_559.out; obtain ⟨hcz61_0, hcz61_1, hfz61_0, hfz61_1⟩ := cQ BK559))
      have n0_ : Aside0 (((w57.setCell ⟨gb559, 0, none⟩ (.int .i64 t556)).setCell ⟨gb559, 1, none⟩ (.int .i64 t557)).heap[gb548]? = some (.cells #[.int .i64 a1_0, .int .i64 a1_1] 23 (0, 0))) := kG BK548
      have n1_ : Aside0 (((w57.setCell ⟨gb559, 0, none⟩ (.int .i64 t556)).setCell ⟨gb559, 1, none⟩ (.int .i64 t557)).heap[gb549]? = some (.cells #[.int .i64 0, .int .i64 0] 23 (0, 0))) := kG BK549
      have n2_ : Aside0 (((w57.setCell ⟨gb559, 0, none⟩ (.int .i64 t556)).setCell ⟨gb559, 1, none⟩ (.int .i64 t557)).heap[gb555]? = some (.cells #[.int .i64 t552, .int .i64 t553] 23 (0, 0))) := kG BK555
      have n3_ : Aside0 (((w57.setCell ⟨gb559, 0, none⟩ (.int .i64 t556)).setCell ⟨gb559, 1, none⟩ (.int .i64 t557)).heap[gb559]? = some (.cells #[.int .i64 t556, .int .i64 t557] 23 (0, 0))) := ⟨by (with_reducible repeat (first | refine blk_drewN ?_ _ | refine blk_drew ?_ | refine blk_alloc ?_ _)); refine blk_put (cs := #[.int .i64 t556, .int .i64 0]) ?_ 1 _ rfl; (with_reducible repeat (first | refine blk_drewN ?_ _ | refine blk_drew ?_ | refine blk_alloc ?_ _)); refine blk_put (cs := #[.int .i64 0, .int .i64 0]) ?_ 0 _ rfl; (with_reducible repeat (first | refine blk_drewN ?_ _ | refine blk_drew ?_ | refine blk_alloc ?_ _)); exact BK559.out⟩
      have n4_ : Aside0 (Below w.heap.size w ((w57.setCell ⟨gb559, 0, none⟩ (.int .i64 t556)).setCell ⟨gb559, 1, none⟩ (.int .i64 t557))) := bA HB
      (try clear BK548)
      (try clear BK549)
      (try clear BK555)
      (try clear BK559)
      (try clear HB)
      generalize ((w57.setCell ⟨gb559, 0, none⟩ (.int .i64 t556)).setCell ⟨gb559, 1, none⟩ (.int .i64 t557)) = w62 at n0_ n1_ n2_ n3_ n4_ ⊢
      have BK548 := n0_
      have BK549 := n1_
      have BK555 := n2_
      have BK559 := n3_
      have HB := n4_
      clear n0_ n1_ n2_ n3_ n4_
      replace BK548 := Aside0.mk (blk_drew BK548.out)
      replace BK549 := Aside0.mk (blk_drew BK549.out)
      replace BK555 := Aside0.mk (blk_drew BK555.out)
      replace BK559 := Aside0.mk (blk_drew BK559.out)
      replace HB := Aside0.mk (below_drew1 HB.out)
      refine start_ (n := 30) (S := fun w' => w'.cell? ⟨gb548, 0, none⟩ = some (.int .i64 a1_0) ∧ w'.cell? ⟨gb548, 1, none⟩ = some (.int .i64 a1_1) ∧ w'.cell? ⟨gb555, 0, none⟩ = some (.int .i64 t552) ∧ w'.cell? ⟨gb555, 1, none⟩ = some (.int .i64 t553) ∧ w'.cell? ⟨gb559, 0, none⟩ = some (.int .i64 t556) ∧ w'.cell? ⟨gb559, 1, none⟩ = some (.int .i64 t557)) (ds := []) (lb 30 0) (by kernel_rfl) rfl (by kernel_rfl) ⟨(blk_cell BK548.out 0).trans rfl, (blk_cell BK548.out 1).trans rfl, (blk_cell BK555.out 0).trans rfl, (blk_cell BK555.out 1).trans rfl, (blk_cell BK559.out 0).trans rfl, (blk_cell BK559.out 1).trans rfl⟩ (fun hHeld => ?_); refine with_tabW yard_Nearest.tab7 yard_Nearest.bits7 (fun HT_ HW_ => ?_)
      generalize w62.drew = w63 at BK548 BK549 BK555 BK559 HB hHeld ⊢
      refine pk HT_ 30 1 0 38 (h := ?_)
      refine pk HT_ 30 5 2 40 (h := ?_)
      refine pk HT_ 30 37 5 43 (h := ?_)
      refine pk HT_ 30 165 7 45 (h := ?_)
      refine pk HT_ 30 0x8a5 11 49 (h := ?_)
      refine pk HT_ 30 0x48a5 14 52 (h := ?_)
      refine pk HT_ 30 0x148a5 16 54 (h := ?_)
      refine pk HT_ 30 0x948a5 19 57 (h := ?_)
      refine pk HT_ 30 0x2948a5 21 59 (h := ?_)
      refine pk HT_ 30 0x22948a5 25 63 (h := ?_)
      refine tk6 HT_ HW_ hHeld 30 0x22948a7 1 39 (h := ?_)
      refine tk6 HT_ HW_ hHeld 30 0x22948af 3 41 (h := ?_)
      refine pk HT_ 30 0x22948bf 4 42 (h := ?_)
      refine tk6 HT_ HW_ hHeld 30 0x22948ff 6 44 (h := ?_)
      refine tk6 HT_ HW_ hHeld 30 0x22949ff 8 46 (h := ?_)
      refine pk HT_ 30 0x2294bff 9 47 (h := ?_)
      refine pk HT_ 30 0x2294fff 10 48 (h := ?_)
      refine tk6 HT_ HW_ hHeld 30 0x2295fff 12 50 (h := ?_)
      refine pk HT_ 30 0x2297fff 13 51 (h := ?_)
      refine pk HT_ 30 0x12297fff 28 10 (h := ?_)
      refine tk6 HT_ HW_ hHeld 30 0x1229ffff 15 53 (h := ?_)
      refine tk6 HT_ HW_ hHeld 30 0x122bffff 17 55 (h := ?_)
      refine pk HT_ 30 0x122fffff 18 56 (h := ?_)
      refine tk6 HT_ HW_ hHeld 30 0x123fffff 20 58 (h := ?_)
      refine tk6 HT_ HW_ hHeld 30 0x127fffff 22 60 (h := ?_)
      refine pk HT_ 30 0x12ffffff 23 61 (h := ?_)
      refine pk HT_ 30 0x13ffffff 24 62 (h := ?_)
      refine tk6 HT_ HW_ hHeld 30 0x17ffffff 26 64 (h := ?_)
      refine pk HT_ 30 0x1fffffff 27 65 (h := ?_)
      refine pk HT_ 30 0x3fffffff 29 11 (h := ?_)
      refine done_ (done_of HT_.out (by kernel_rfl)) ?_
      try go_wp2
      replace BK548 := Aside0.mk (blk_drew BK548.out)
      replace BK549 := Aside0.mk (blk_drew BK549.out)
      replace BK555 := Aside0.mk (blk_drew BK555.out)
      replace BK559 := Aside0.mk (blk_drew BK559.out)
      replace HB := Aside0.mk (below_drew1 HB.out)
      refine start_ (n := 16) (S := fun w' => w'.cell? ⟨gb555, 0, none⟩ = some (.int .i64 t552) ∧ w'.cell? ⟨gb555, 1, none⟩ = some (.int .i64 t553) ∧ w'.cell? ⟨gb559, 0, none⟩ = some (.int .i64 t556) ∧ w'.cell? ⟨gb559, 1, none⟩ = some (.int .i64 t557)) (ds := []) (lb 16 0) (by kernel_rfl) rfl (by kernel_rfl) ⟨(blk_cell BK555.out 0).trans rfl, (blk_cell BK555.out 1).trans rfl, (blk_cell BK559.out 0).trans rfl, (blk_cell BK559.out 1).trans rfl⟩ (fun hHeld => ?_); refine with_tabW yard_Nearest.tab8 yard_Nearest.bits8 (fun HT_ HW_ => ?_)
      generalize w63.drew = w64 at BK548 BK549 BK555 BK559 HB hHeld ⊢
      refine pk HT_ 16 1 0 66 (h := ?_)
      refine pk HT_ 16 3 1 67 (h := ?_)
      refine pk HT_ 16 11 3 69 (h := ?_)
      refine pk HT_ 16 43 5 71 (h := ?_)
      refine pk HT_ 16 299 8 74 (h := ?_)
      refine pk HT_ 16 0x52b 10 76 (h := ?_)
      refine tk4 HT_ HW_ hHeld 16 0x53b 4 70 (h := ?_)
      refine tk4 HT_ HW_ hHeld 16 0x57b 6 72 (h := ?_)
      refine tk4 HT_ HW_ hHeld 16 0x77b 9 75 (h := ?_)
      refine tk4 HT_ HW_ hHeld 16 0xf7b 11 77 (h := ?_)
      refine one_ (i := 2) (N := some 68) (lb 16 0xf7f) rfl rfl (one_of HT_.out (by kernel_rfl)) (by decide) (fun K hK => ?_)
      refine gS Try.func81 #[.int .i64 (wrap64 ((wrap64 ((wrap64 (a1_0 * t553)) - (wrap64 (t552 * a1_1)))) * t557)), .int .i64 (wrap64 ((wrap64 ((wrap64 (t556 * a1_1)) - (wrap64 (a1_0 * t557)))) * t553))] (h := ?_)
      with_reducible refine (cmp_Compare_int.calls (wrap64 ((wrap64 ((wrap64 (a1_0 * t553)) - (wrap64 (t552 * a1_1)))) * t557)) (wrap64 ((wrap64 ((wrap64 (t556 * a1_1)) - (wrap64 (a1_0 * t557)))) * t553)) t560 _ A21.out).mono ?_
      rintro e w' ⟨rfl, ⟨nd, rfl⟩⟩
      refine ⟨_, rfl, ?_⟩
      refine hK.out _ _ ⟨(blk_cell BK555.out 0).trans rfl, (blk_cell BK555.out 1).trans rfl, (blk_cell BK559.out 0).trans rfl, (blk_cell BK559.out 1).trans rfl⟩ (fun hHeld => ?_)
      clear hK K
      refine norm_ (a' := ?_) ?_ ?_
      rotate_left
      ·show Act.put _ (some 68) _ = _
       simp only [Act.put, List.setIfInBounds_toArray, List.set_cons_zero, List.set_cons_succ, i64_w, i32_w]
       rfl
      refine one_ (i := 7) (N := some 73) (lb 16 0xfff) rfl rfl (one_of HT_.out (by kernel_rfl)) (by decide) (fun K hK => ?_)
      refine gS Try.func81 #[.int .i64 t553, .int .i64 t557] (h := ?_)
      with_reducible refine (cmp_Compare_int.calls t553 t557 t561 _ A22.out).mono ?_
      rintro e w' ⟨rfl, ⟨nd, rfl⟩⟩
      refine ⟨_, rfl, ?_⟩
      refine hK.out _ _ ⟨(blk_cell BK555.out 0).trans rfl, (blk_cell BK555.out 1).trans rfl, (blk_cell BK559.out 0).trans rfl, (blk_cell BK559.out 1).trans rfl⟩ (fun hHeld => ?_)
      clear hK K
      refine norm_ (a' := ?_) ?_ ?_
      rotate_left
      ·show Act.put _ (some 73) _ = _
       simp only [Act.put, List.setIfInBounds_toArray, List.set_cons_zero, List.set_cons_succ, i64_w, i32_w]
       rfl
      refine one_ (i := 12) (N := some 78) (lb 16 0x1fff) rfl rfl (one_of HT_.out (by kernel_rfl)) (by decide) (fun K hK => ?_)
      refine gS Try.func81 #[.int .i64 t552, .int .i64 t556] (h := ?_)
      with_reducible refine (cmp_Compare_int.calls t552 t556 t562 _ A23.out).mono ?_
      rintro e w' ⟨rfl, ⟨nd, rfl⟩⟩
      refine ⟨_, rfl, ?_⟩
      refine hK.out _ _ ⟨(blk_cell BK555.out 0).trans rfl, (blk_cell BK555.out 1).trans rfl, (blk_cell BK559.out 0).trans rfl, (blk_cell BK559.out 1).trans rfl⟩ (fun hHeld => ?_)
      clear hK K
      refine norm_ (a' := ?_) ?_ ?_
      rotate_left
      ·show Act.put _ (some 78) _ = _
       simp only [Act.put, List.setIfInBounds_toArray, List.set_cons_zero, List.set_cons_succ, i64_w, i32_w]
       rfl
      refine one_ (i := 13) (N := some 79) (lb 16 0x3fff) rfl rfl (one_of HT_.out (by kernel_rfl)) (by decide) (fun K hK => ?_)
      refine Kd.R_lit_step (Kd.int .i64) _ 3 ?hg (N := 79) ?hd (xs := ([t560, t561, t562] : List Int)) (inner := [.int .i64 t560, .int .i64 t561, .int .i64 t562]) (ok := fun _ => True) (okp := fun _ => True) ?hr ?hp (fun _ hk => hk) trivial (Below.refl _ _) (Nat.le_refl _) (by simp) ?_; (case hd => rfl); (case hg => rfl); (case hr => first | (go_simp; done) | (go_simp; rfl)); (case hp => exact (Reps.one (show Kd.M (Kd.int .i64) _ _ _ t560 [.int .i64 t560] from rfl) (Reps.one (show Kd.M (Kd.int .i64) _ _ _ t561 [.int .i64 t561] from rfl) (Reps.one (show Kd.M (Kd.int .i64) _ _ _ t562 [.int .i64 t562] from rfl) (Reps.none _ _)))))
      intro v564 w65 ho66 hb hg_ hnew_
      clear hg_ hnew_
      (first | rw [← Ny563.out] at ho66 | (simp only [Int.reduceToNat] at ho66; rw [← Ny563.out] at ho66))
      have HO565 := Aside0.mk (Kd.R_lower ho66 (below_size (bB HB)))
      replace BK548 := kB BK548 hb
      replace BK549 := kB BK549 hb
      replace BK555 := kB BK555 hb
      replace BK559 := kB BK559 hb
      replace HB := bS HB hb
      clear hb ho66
      obtain ⟨Ao67, co67, eo67⟩ := Kd.R_slice HO565.out
      (first | subst eo67 | (injection eo67 with f1_ f2_ f3_; have f4_ := f1_.symm; have f5_ := f3_.symm; clear f1_ f2_ f3_; subst f4_; subst f5_))
      refine hK.out _ _ ⟨(blk_cell BK555.out 0).trans rfl, (blk_cell BK555.out 1).trans rfl, (blk_cell BK559.out 0).trans rfl, (blk_cell BK559.out 1).trans rfl⟩ (fun hHeld => ?_)
      clear hK K
      refine norm_ (a' := ?_) ?_ ?_
      rotate_left
      ·show Act.put _ (some 79) _ = _
       simp only [Act.put, List.setIfInBounds_toArray, List.set_cons_zero, List.set_cons_succ, i64_w, i32_w]
       rfl
      refine one_ (i := 14) (N := some 80) (lb 16 0x7fff) rfl rfl (one_of HT_.out (by kernel_rfl)) (by decide) (fun K hK => ?_)
      refine gS Try.func80 #[.slice Ao67 y563.length co67] (h := ?_)
      with_reducible refine (cmp_Or_int.calls kj2 _ _ y563 t566 _ ?side1 ?side2 A24.out).mono ?_
      (case side1 => repeat (first | exact (Kd.R_reads' HO565.out).2.2 | (with_reducible refine Kd.C_alloc ?_ _) | (with_reducible refine Kd.C_drewN ?_ _) | (with_reducible refine Kd.C_drew ?_)))
      (case side2 => exact (Kd.R_reads' HO565.out).2.1)
      rintro e w' ⟨rfl, ⟨nd, rfl⟩⟩
      refine ⟨_, rfl, ?_⟩
      refine hK.out _ _ ⟨(blk_cell BK555.out 0).trans rfl, (blk_cell BK555.out 1).trans rfl, (blk_cell BK559.out 0).trans rfl, (blk_cell BK559.out 1).trans rfl⟩ (fun hHeld => ?_)
      clear hK K
      refine norm_ (a' := ?_) ?_ ?_
      rotate_left
      ·show Act.put _ (some 80) _ = _
       simp only [Act.put, List.setIfInBounds_toArray, List.set_cons_zero, List.set_cons_succ, i64_w, i32_w]
       rfl
      refine pk HT_ 16 0xffff 15 81 (h := ?_)
      refine done_ (done_of HT_.out (by kernel_rfl)) ?_
      obtain ⟨hcz68_0, hcz68_1, hfz68_0, hfz68_1⟩ := cQ BK559
      obtain ⟨hcz69_0, hcz69_1, hfz69_0, hfz69_1⟩ := cQ BK549
      try go_wp2
      refine bodyPost_ret (results_ct rfl _ _ gb549 23 #[.int .i64 t556, .int .i64 t557] (0, 0) _ rfl (by (with_reducible repeat (first | refine blk_drewN ?_ _ | refine blk_drew ?_ | refine blk_alloc ?_ _)); refine blk_put (cs := #[.int .i64 t556, .int .i64 0]) ?_ 1 _ rfl; (with_reducible repeat (first | refine blk_drewN ?_ _ | refine blk_drew ?_ | refine blk_alloc ?_ _)); refine blk_put (cs := #[.int .i64 0, .int .i64 0]) ?_ 0 _ rfl; (with_reducible repeat (first | refine blk_drewN ?_ _ | refine blk_drew ?_ | refine blk_alloc ?_ _)); exact BK549.out) Try.underlying23 rfl (by kernel_rfl)) rfl ?_
      exact ⟨by first | rfl | (simp [errW_none, errW_some] <;> rfl) | (simp [*, errW_none, errW_some] <;> rfl), bB HB⟩
end Go.Proofs.Ythjodhmkmjabbaa.PY
