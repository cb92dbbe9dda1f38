-- Made by the session's own driver (wip/tools/p2.py) out of the translation; Lean checks it.
import Derived.Test.YthjodhmkmjabbaaSq
import Derived.Test.YthjodhmkmjabbaaPYx0
import Derived.Test.YthjodhmkmjabbaaPYx17
import Derived.Test.YthjodhmkmjabbaaPYx39
namespace Go.Proofs.Ythjodhmkmjabbaa.PY
open Go.RowKit Go.Proofs.YthjodhmkmjabbaaW.PrintWords Go.Proofs.YthjodhmkmjabbaaW.PrintLast Go.Proofs.YthjodhmkmjabbaaW.PrintMore
attribute [local go_sem] max2_int min2_int max_two min_two max_three min_three max_four min_four   -- for this text's walks alone
set_option linter.unusedVariables false
set_option linter.unusedSimpArgs false
/-! ### galloonref03_Before: function 55 -/
def galloonref03_Before.f (k : Nat) (a0 : Int) (a1_0 : Int) (a1_1 : Int) : Option (Int × Int × Bool) := (galloonref03_Below.f k a0 a1_0 a1_1).bind fun t637 => (if t637 = 0 then (some (0, 0, false)) else ((galloonref03_Row.f k a0).bind fun t638 => (if 0 ≤ (wrap64 (t637 - 1)) then (if (wrap64 (t637 - 1)) < (t638.length : Int) then (some ((rd_T23 t638 (wrap64 (t637 - 1))).f0, (rd_T23 t638 (wrap64 (t637 - 1))).f1, true)) else (none)) else (none))))
theorem galloonref03_Before.mono : ∀ a0 a1 a2 k, LeO (galloonref03_Before.f k a0 a1 a2) (galloonref03_Before.f (k + 1) a0 a1 a2) := by
 intro a0 a1 a2 k
 unfold galloonref03_Before.f
 repeat' first
  | (with_reducible exact galloonref03_Below.mono _ _ _ _)
  | (with_reducible exact galloonref03_Row.mono _ _)
  | (with_reducible exact LeO.refl _)
  | (with_reducible exact LeO.none _)
  | (with_reducible refine LeO.ite ?_ ?_)
  | (with_reducible refine LeO.bind ?_ (fun _ => ?_))
  | exact galloonref03_Below.mono _ _ _ _
  | exact galloonref03_Row.mono _ _
  | exact LeO.none _
  | refine LeO.ite ?_ ?_
  | refine LeO.bind ?_ (fun _ => ?_)
set_option maxHeartbeats 8000000 in
set_option maxRecDepth 100000 in
theorem galloonref03_Before.calls (k : Nat) (a0 : Int) (a1_0 : Int) (a1_1 : Int) (r1 : Int) (r2 : Int) (r3 : Bool) (w : World) (h : galloonref03_Before.f k a0 a1_0 a1_1 = some (r1, r2, r3)) :
 Calls Try.prog 55 #[.int .i64 a0, .agg #[.int .i64 a1_0, .int .i64 a1_1]] w fun e w' => e = .returned (.tuple #[.agg #[.int .i64 r1, .int .i64 r2], .bool r3]) ∧ Below w.heap.size w w' := by
 have hu23 := Try.underlying23
 have HB := Aside0.mk (Below.refl w.heap.size w)
 have H : ((galloonref03_Below.f k a0 a1_0 a1_1).bind fun t637 => (if t637 = 0 then (some (0, 0, false)) else ((galloonref03_Row.f k a0).bind fun t638 => (if 0 ≤ (wrap64 (t637 - 1)) then (if (wrap64 (t637 - 1)) < (t638.length : Int) then (some ((rd_T23 t638 (wrap64 (t637 - 1))).f0, (rd_T23 t638 (wrap64 (t637 - 1))).f1, true)) else (none)) else (none))))) = some (r1, r2, r3) := h
 clear h
 replace H := Option.bind_eq_some_iff.mp H
 obtain ⟨t637, A30, H⟩ := H
 replace H : (if t637 = 0 then (some (0, 0, false)) else ((galloonref03_Row.f k a0).bind fun t638 => (if 0 ≤ (wrap64 (t637 - 1)) then (if (wrap64 (t637 - 1)) < (t638.length : Int) then (some ((rd_T23 t638 (wrap64 (t637 - 1))).f0, (rd_T23 t638 (wrap64 (t637 - 1))).f1, true)) else (none)) else (none)))) = some (r1, r2, r3) := H
 have A3 := Aside0.mk A30
 clear A30
 by_cases c4 : t637 = 0
 ·rw [if_pos c4] at H
  have c4b0 : (t637 == 0) = true := beq_iff_eq.mpr c4
  have c4b1 : (t637 != 0) = false := bne_eq_false_iff_eq.mpr c4
  clear c4
  simp only [Option.some.injEq, Prod.mk.injEq] at H
  obtain ⟨rfl, rfl, rfl⟩ := H
  go_enter Try.func55, Try.ntmps55
  go_wp2_with (first | ((with_reducible refine gate_dst (N := 3) rfl ?_); refine box_event ?hg (N := 3) ?hd (cs := #[.int .i64 a1_0, .int .i64 a1_1]) (t := 23) ?hr ?_; (case hd => rfl); (case hg => rfl); (case hr => first | (go_simp; done) | (go_simp; rfl)); intro gb635 hg w5 hbox hb; have BK635 := Aside0.mk (hbox); have GW635 := bG HB hg; have GE635 := bG HB hg; replace HB := bS HB hb; clear hb hbox hg) | ((with_reducible refine gate_dst (N := 4) rfl ?_); refine box_event ?hg (N := 4) ?hd (cs := #[.int .i64 0, .int .i64 0]) (t := 23) ?hr ?_; (case hd => rfl); (case hg => rfl); (case hr => first | (go_simp; done) | (go_simp; rfl)); intro gb636 hg w6 hbox hb; have BK636 := Aside0.mk (hbox); have GW636 := bG HB hg; have GE636 := bG HB hg; replace HB := bS HB hb; have NB635_636 := nL BK635 hg; have NB636_635 := nG BK635 hg; replace BK635 := kB BK635 hb; clear hb hbox hg; have hnb7 := NB635_636.out; have hnc7 := NB636_635.out; obtain ⟨hcz8_0, hcz8_1, hfz8_0, hfz8_1⟩ := cQ BK635) | ((with_reducible refine gate_callee (f := 56) rfl ?_); refine gL 9 Try.func56 #[.int .i64 a0, .agg #[.int .i64 a1_0, .int .i64 a1_1]] (h := ?_); (with_reducible refine (galloonref03_Below.calls k a0 a1_0 a1_1 t637 _ A3.out).mono ?_); rintro e w9 ⟨rfl, hb⟩; refine ⟨_, rfl, ?_⟩; replace BK635 := kB BK635 hb; replace BK636 := kB BK636 hb; replace HB := bS HB hb; (try clear hb); (try clear hb2); (try clear hk); (try clear hi); obtain ⟨hcz10_0, hcz10_1, hfz10_0, hfz10_1⟩ := cQ BK636))
  refine bodyPost_ret (results_ct rfl _ _ gb636 23 #[.int .i64 0, .int .i64 0] (0, 0) _ rfl (by (with_reducible repeat (first | refine blk_drewN ?_ _ | refine blk_drew ?_ | refine blk_alloc ?_ _)); refine blk_put (cs := #[.int .i64 0, .int .i64 0]) ?_ 1 _ rfl; (with_reducible repeat (first | refine blk_drewN ?_ _ | refine blk_drew ?_ | refine blk_alloc ?_ _)); refine blk_put (cs := #[.int .i64 0, .int .i64 0]) ?_ 0 _ rfl; (with_reducible repeat (first | refine blk_drewN ?_ _ | refine blk_drew ?_ | refine blk_alloc ?_ _)); exact BK636.out) Try.underlying23 rfl (by kernel_rfl)) rfl ?_
  exact ⟨by first | rfl | (simp [errW_none, errW_some] <;> rfl) | (simp [*, errW_none, errW_some] <;> rfl), bB HB⟩
 ·rw [if_neg c4] at H
  have c4b0 : (t637 == 0) = false := beq_eq_false_iff_ne.mpr c4
  have c4b1 : (t637 != 0) = true := bne_iff_ne.mpr c4
  replace H := Option.bind_eq_some_iff.mp H
  obtain ⟨t638, A110, H⟩ := H
  replace H : (if 0 ≤ (wrap64 (t637 - 1)) then (if (wrap64 (t637 - 1)) < (t638.length : Int) then (some ((rd_T23 t638 (wrap64 (t637 - 1))).f0, (rd_T23 t638 (wrap64 (t637 - 1))).f1, true)) else (none)) else (none)) = some (r1, r2, r3) := H
  have A11 := Aside0.mk A110
  clear A110
  obtain ⟨ji12, hji12⟩ : ∃ j_ : Int, (wrap64 (t637 - 1)) = j_ := ⟨_, rfl⟩
  replace H : (if 0 ≤ (ji12) then (if (ji12) < (t638.length : Int) then (some ((rd_T23 t638 (ji12)).f0, (rd_T23 t638 (ji12)).f1, true)) else (none)) else (none)) = some (r1, r2, r3) := by first | (rw [hji12] at H; exact H) | (simp only [hji12] at H ⊢; exact H)
  (try rw [hji12] at A3)
  (try rw [hji12] at A11)
  have hji12w : (IntKind.i64.wrap (t637 - 1)) = ji12 := (i64_w _).trans hji12
  by_cases c13 : 0 ≤ (ji12)
  case neg =>
   rw [if_neg c13] at H
   exact absurd H (by simp)
  rw [if_pos c13] at H
  have c13b0 : decide (0 ≤ (ji12)) = true := decide_eq_true c13
  clear c13
  by_cases c14 : (ji12) < (t638.length : Int)
  case neg =>
   rw [if_neg c14] at H
   exact absurd H (by simp)
  rw [if_pos c14] at H
  have c14b0 : decide ((ji12) < (t638.length : Int)) = true := decide_eq_true c14
  clear c14
  simp only [Option.some.injEq, Prod.mk.injEq] at H
  obtain ⟨rfl, rfl, rfl⟩ := H
  go_enter Try.func55, Try.ntmps55
  go_wp2_with (first | ((with_reducible refine gate_dst (N := 3) rfl ?_); refine box_event ?hg (N := 3) ?hd (cs := #[.int .i64 a1_0, .int .i64 a1_1]) (t := 23) ?hr ?_; (case hd => rfl); (case hg => rfl); (case hr => first | (go_simp; done) | (go_simp; rfl)); intro gb635 hg w15 hbox hb; have BK635 := Aside0.mk (hbox); have GW635 := bG HB hg; have GE635 := bG HB hg; replace HB := bS HB hb; clear hb hbox hg) | ((with_reducible refine gate_dst (N := 4) rfl ?_); refine box_event ?hg (N := 4) ?hd (cs := #[.int .i64 0, .int .i64 0]) (t := 23) ?hr ?_; (case hd => rfl); (case hg => rfl); (case hr => first | (go_simp; done) | (go_simp; rfl)); intro gb636 hg w16 hbox hb; have BK636 := Aside0.mk (hbox); have GW636 := bG HB hg; have GE636 := bG HB hg; replace HB := bS HB hb; have NB635_636 := nL BK635 hg; have NB636_635 := nG BK635 hg; replace BK635 := kB BK635 hb; clear hb hbox hg; have hnb17 := NB635_636.out; have hnc17 := NB636_635.out; obtain ⟨hcz18_0, hcz18_1, hfz18_0, hfz18_1⟩ := cQ BK635) | ((with_reducible refine gate_callee (f := 56) rfl ?_); refine gL 9 Try.func56 #[.int .i64 a0, .agg #[.int .i64 a1_0, .int .i64 a1_1]] (h := ?_); (with_reducible refine (galloonref03_Below.calls k a0 a1_0 a1_1 t637 _ A3.out).mono ?_); rintro e w19 ⟨rfl, hb⟩; refine ⟨_, rfl, ?_⟩; replace BK635 := kB BK635 hb; replace BK636 := kB BK636 hb; replace HB := bS HB hb; (try clear hb); (try clear hb2); (try clear hk); (try clear hi)) | ((with_reducible refine gate_callee (f := 38) rfl ?_); refine gL 14 Try.func38 #[.int .i64 a0] (h := ?_); (with_reducible refine (galloonref03_Row.calls k a0 t638 _ A11.out).mono ?_); rintro e w20 ⟨v639, rfl, ho0, hb⟩; refine ⟨_, rfl, ?_⟩; have HO640 := Aside0.mk (Kd.R_lower (Kd.R_newB (Kd.R_newB ho0 (g := gb635) (o := .cells #[.int .i64 a1_0, .int .i64 a1_1] 23 (0, 0)) (kb BK635)) (g := gb636) (o := .cells #[.int .i64 0, .int .i64 0] 23 (0, 0)) (kb BK636)) (below_size (bB HB))); replace BK635 := kB BK635 hb; replace BK636 := kB BK636 hb; replace HB := bS HB hb; (try clear hb); (try clear hb2); (try clear hk); (try clear hi); (try clear ho0); obtain ⟨Ao21, co21, eo21⟩ := Kd.R_slice HO640.out; subst eo21; have p641 : 0 ≤ ((ji12) : Int) := oD; have q641 : (ji12) < (t638.length : Int) := oD; obtain ⟨ad641, e641, hx641_0, hx641_1⟩ := at_T23 (Kd.R_reads' HO640.out).2.2 (ji12) p641 q641; cases e641; replace p641 := eq_true p641; replace q641 := eq_true q641; obtain ⟨hcz22_0, hcz22_1, hfz22_0, hfz22_1⟩ := cQ BK636))
  refine bodyPost_ret (results_ct rfl _ _ gb636 23 #[.int .i64 ((rd_T23 t638 (ji12)).f0), .int .i64 ((rd_T23 t638 (ji12)).f1)] (0, 0) _ rfl (by (with_reducible repeat (first | refine blk_drewN ?_ _ | refine blk_drew ?_ | refine blk_alloc ?_ _)); refine blk_put (cs := #[.int .i64 ((rd_T23 t638 (ji12)).f0), .int .i64 0]) ?_ 1 _ rfl; (with_reducible repeat (first | refine blk_drewN ?_ _ | refine blk_drew ?_ | refine blk_alloc ?_ _)); refine blk_put (cs := #[.int .i64 0, .int .i64 0]) ?_ 0 _ rfl; (with_reducible repeat (first | refine blk_drewN ?_ _ | refine blk_drew ?_ | refine blk_alloc ?_ _)); exact BK636.out) Try.underlying23 rfl (by kernel_rfl)) rfl ?_
  exact ⟨by first | rfl | (simp [errW_none, errW_some] <;> rfl) | (simp only [← hji12]; first | rfl | (simp [errW_none, errW_some] <;> rfl)) | (simp [*, errW_none, errW_some] <;> rfl), bB HB⟩
/-! ### galloonref03_distance: function 82 -/
def galloonref03_distance.f (a0_0 : Int) (a0_1 : Int) (a1_0 : Int) (a1_1 : Int) : Option (Int) := some (mx (wrap64 ((wrap64 (a0_0 * a1_1)) - (wrap64 (a1_0 * a0_1)))) (wrap64 (-(wrap64 ((wrap64 (a0_0 * a1_1)) - (wrap64 (a1_0 * a0_1)))))))
set_option maxHeartbeats 8000000 in
set_option maxRecDepth 100000 in
theorem galloonref03_distance.calls (a0_0 : Int) (a0_1 : Int) (a1_0 : Int) (a1_1 : Int) (r : Int) (w : World) (h : galloonref03_distance.f a0_0 a0_1 a1_0 a1_1 = some r) :
 Calls Try.prog 82 #[.agg #[.int .i64 a0_0, .int .i64 a0_1], .agg #[.int .i64 a1_0, .int .i64 a1_1]] w fun e w' => e = .returned (.int .i64 r) ∧ Below w.heap.size w w' := by
 have hu23 := Try.underlying23
 have HB := Aside0.mk (Below.refl w.heap.size w)
 have H : (some (mx (wrap64 ((wrap64 (a0_0 * a1_1)) - (wrap64 (a1_0 * a0_1)))) (wrap64 (-(wrap64 ((wrap64 (a0_0 * a1_1)) - (wrap64 (a1_0 * a0_1)))))))) = some r := h
 clear h
 obtain ⟨ji3, hji3⟩ : ∃ j_ : Int, (mx (wrap64 ((wrap64 (a0_0 * a1_1)) - (wrap64 (a1_0 * a0_1)))) (wrap64 (-(wrap64 ((wrap64 (a0_0 * a1_1)) - (wrap64 (a1_0 * a0_1))))))) = j_ := ⟨_, rfl⟩
 replace H : (some ji3) = some r := by first | (rw [hji3] at H; exact H) | (simp only [hji3] at H ⊢; exact H)
 have hji3_ : (if (wrap64 ((wrap64 (a0_0 * a1_1)) - (wrap64 (a1_0 * a0_1)))) < (wrap64 (-(wrap64 ((wrap64 (a0_0 * a1_1)) - (wrap64 (a1_0 * a0_1)))))) then (wrap64 (-(wrap64 ((wrap64 (a0_0 * a1_1)) - (wrap64 (a1_0 * a0_1)))))) else (wrap64 ((wrap64 (a0_0 * a1_1)) - (wrap64 (a1_0 * a0_1))))) = ji3 := hji3
 obtain rfl := Option.some.inj H
 go_enter Try.func82, Try.ntmps82
 go_wp2_with (first | ((with_reducible refine gate_dst (N := 2) rfl ?_); refine box_event ?hg (N := 2) ?hd (cs := #[.int .i64 a0_0, .int .i64 a0_1]) (t := 23) ?hr ?_; (case hd => rfl); (case hg => rfl); (case hr => first | (go_simp; done) | (go_simp; rfl)); intro gb642 hg w4 hbox hb; have BK642 := Aside0.mk (hbox); have GW642 := bG HB hg; have GE642 := bG HB hg; replace HB := bS HB hb; clear hb hbox hg) | ((with_reducible refine gate_dst (N := 3) rfl ?_); refine box_event ?hg (N := 3) ?hd (cs := #[.int .i64 a1_0, .int .i64 a1_1]) (t := 23) ?hr ?_; (case hd => rfl); (case hg => rfl); (case hr => first | (go_simp; done) | (go_simp; rfl)); intro gb643 hg w5 hbox hb; have BK643 := Aside0.mk (hbox); have GW643 := bG HB hg; have GE643 := bG HB hg; replace HB := bS HB hb; have NB642_643 := nL BK642 hg; have NB643_642 := nG BK642 hg; replace BK642 := kB BK642 hb; clear hb hbox hg; have hnb6 := NB642_643.out; have hnc6 := NB643_642.out; obtain ⟨hcz7_0, hcz7_1, hfz7_0, hfz7_1⟩ := cQ BK642; obtain ⟨hcz8_0, hcz8_1, hfz8_0, hfz8_1⟩ := cQ BK643))
 go_ret
 exact ⟨by first | rfl | (simp [errW_none, errW_some] <;> rfl) | (simp only [← hji3]; first | rfl | (simp [errW_none, errW_some] <;> rfl)) | (simp [*, errW_none, errW_some] <;> rfl), bB HB⟩
end Go.Proofs.Ythjodhmkmjabbaa.PY
