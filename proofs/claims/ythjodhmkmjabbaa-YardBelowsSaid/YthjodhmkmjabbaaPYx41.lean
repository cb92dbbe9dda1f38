-- Made by the session's own driver (wip/tools/p2.py) out of the translation; Lean checks it.
import Derived.Test.YthjodhmkmjabbaaSq
import Derived.Test.YthjodhmkmjabbaaPYx0
import Derived.Test.YthjodhmkmjabbaaPYx12
import Derived.Test.YthjodhmkmjabbaaPYx17
import Derived.Test.YthjodhmkmjabbaaPYx40
namespace Go.Proofs.Ythjodhmkmjabbaa.PY
open Go.RowKit Go.Proofs.YthjodhmkmjabbaaW.PrintWords Go.Proofs.YthjodhmkmjabbaaW.PrintLast Go.Proofs.YthjodhmkmjabbaaW.PrintMore
attribute [local go_sem] max2_int min2_int max_two min_two max_three min_three max_four min_four   -- for this text's walks alone
set_option linter.unusedVariables false
set_option linter.unusedSimpArgs false
/-! ### galloonref03_Nearest: function 57 -/
def galloonref03_Nearest.l0 : Nat → List (S23) → Int → Int → Int → Int → Int → Option (Int × Int)
 | 0, _, _, _, _, _, _ => none
 | k + 1, x5, x7, x645000, x645001, x651000, x651001 => if x7 < (x5.length : Int) then (if 0 ≤ x7 then ((galloonref03_distance.f ((rd_T23 x5 x7).f0) ((rd_T23 x5 x7).f1) x645000 x645001).bind fun t652 => ((galloonref03_distance.f x651000 x651001 x645000 x645001).bind fun t653 => (if (wrap64 (t652 * x651001)) < (wrap64 (t653 * ((rd_T23 x5 x7).f1))) then (galloonref03_Nearest.l0 k x5 (wrap64 (x7 + 1)) x645000 x645001 ((rd_T23 x5 x7).f0) ((rd_T23 x5 x7).f1)) else (if (wrap64 (t652 * x651001)) = (wrap64 (t653 * ((rd_T23 x5 x7).f1))) then ((galloonref03_Simpler.f ((rd_T23 x5 x7).f0) ((rd_T23 x5 x7).f1) x651000 x651001).bind fun t657 => (if t657 = true then (galloonref03_Nearest.l0 k x5 (wrap64 (x7 + 1)) x645000 x645001 ((rd_T23 x5 x7).f0) ((rd_T23 x5 x7).f1)) else (galloonref03_Nearest.l0 k x5 (wrap64 (x7 + 1)) x645000 x645001 x651000 x651001))) else (galloonref03_Nearest.l0 k x5 (wrap64 (x7 + 1)) x645000 x645001 x651000 x651001))))) else (none)) else (some (x651000, x651001))
def galloonref03_Nearest.f (k : Nat) (a0 : Int) (a1_0 : Int) (a1_1 : Int) : Option (Int × Int) := (galloonref03_Row.f k a0).bind fun t646 => (if 0 < (t646.length : Int) then (galloonref03_Nearest.l0 k t646 0 a1_0 a1_1 ((rd_T23 t646 0).f0) ((rd_T23 t646 0).f1)) else (none))
theorem galloonref03_Nearest.mono_l : ∀ k, (∀ y0 y1 y2 y3 y4 y5, LeO (galloonref03_Nearest.l0 k y0 y1 y2 y3 y4 y5) (galloonref03_Nearest.l0 (k + 1) y0 y1 y2 y3 y4 y5))
 | 0 => fun _ _ _ _ _ _ r h => by simp [galloonref03_Nearest.l0] at h
 | k + 1 => by
  have ih0 := galloonref03_Nearest.mono_l k
  ·intro y0 y1 y2 y3 y4 y5
   unfold galloonref03_Nearest.l0
   repeat' first
   | (with_reducible exact ih0 _ _ _ _ _ _)
   | (with_reducible exact galloonref03_Row.mono _ _)
   | (with_reducible exact LeO.refl _)
   | (with_reducible exact LeO.none _)
   | (with_reducible refine LeO.ite ?_ ?_)
   | (with_reducible refine LeO.bind ?_ (fun _ => ?_))
   | exact ih0 _ _ _ _ _ _
   | exact galloonref03_Row.mono _ _
   | exact LeO.none _
   | refine LeO.ite ?_ ?_
   | refine LeO.bind ?_ (fun _ => ?_)
theorem galloonref03_Nearest.mono : ∀ a0 a1 a2 k, LeO (galloonref03_Nearest.f k a0 a1 a2) (galloonref03_Nearest.f (k + 1) a0 a1 a2) := by
 intro a0 a1 a2 k
 have ih0 := galloonref03_Nearest.mono_l k
 unfold galloonref03_Nearest.f
 repeat' first
  | (with_reducible exact ih0 _ _ _ _ _ _)
  | (with_reducible exact galloonref03_Row.mono _ _)
  | (with_reducible exact LeO.refl _)
  | (with_reducible exact LeO.none _)
  | (with_reducible refine LeO.ite ?_ ?_)
  | (with_reducible refine LeO.bind ?_ (fun _ => ?_))
  | exact ih0 _ _ _ _ _ _
  | exact galloonref03_Row.mono _ _
  | exact LeO.none _
  | refine LeO.ite ?_ ?_
  | refine LeO.bind ?_ (fun _ => ?_)
def galloonref03_Nearest.T6 : Bool × List (List Nat × List Nat) := (true, [([], []), ([], []), ([0, 1], [0, 1]), ([2], [2]), ([], []), ([3, 4], [3, 4]), ([], []), ([6], [6]), ([5, 7], [5, 7]), ([8, 5, 0, 1, 2, 3, 4, 5, 6, 7, 8], [8])])
def galloonref03_Nearest.B6 : List Nat := [0, 0, 3, 7, 0, 31, 0, 64, 255, 511]
theorem galloonref03_Nearest.tab6 : rtab .any (opsOf Try.f57 6) = galloonref03_Nearest.T6 := by kernel_rfl
theorem galloonref03_Nearest.bits6 : waitsOk galloonref03_Nearest.T6.2 galloonref03_Nearest.B6 = true := by kernel_rfl
def galloonref03_Nearest.T7 : Bool × List (List Nat × List Nat) := (true, [([], []), ([], []), ([0, 1], [0, 1]), ([], []), ([], []), ([3, 4], [3, 4]), ([5], [5]), ([6], [6]), ([2, 7], [2, 7]), ([8, 2, 0, 1, 2, 3, 4, 5, 6, 7, 8], [8])])
def galloonref03_Nearest.B7 : List Nat := [0, 0, 3, 0, 0, 24, 56, 120, 255, 511]
theorem galloonref03_Nearest.tab7 : rtab .any (opsOf Try.f57 7) = galloonref03_Nearest.T7 := by kernel_rfl
theorem galloonref03_Nearest.bits7 : waitsOk galloonref03_Nearest.T7.2 galloonref03_Nearest.B7 = true := by kernel_rfl
def galloonref03_Nearest.T8 : Bool × List (List Nat × List Nat) := (true, [([], []), ([], []), ([0, 1], [0, 1]), ([2], [2]), ([3], [3]), ([3], [3]), ([4, 5, 3], [3, 4, 5]), ([6, 3, 3], [3, 6]), ([7], [7]), ([7], [7]), ([8, 9, 7], [7, 8, 9]), ([10, 7], [7, 10]), ([7], [7]), ([11, 12, 7, 7], [7, 11, 12]), ([7, 13, 3], [3, 7, 13]), ([3, 14], [3, 14])])
def galloonref03_Nearest.B8 : List Nat := [0, 0, 3, 7, 15, 15, 63, 127, 255, 255, 1023, 2047, 255, 8191, 16383, 32767]
theorem galloonref03_Nearest.tab8 : rtab .any (opsOf Try.f57 8) = galloonref03_Nearest.T8 := by kernel_rfl
theorem galloonref03_Nearest.bits8 : waitsOk galloonref03_Nearest.T8.2 galloonref03_Nearest.B8 = true := by kernel_rfl
set_option maxHeartbeats 8000000 in
set_option maxRecDepth 100000 in
theorem galloonref03_Nearest.calls (k : Nat) (a0 : Int) (a1_0 : Int) (a1_1 : Int) (r1 : Int) (r2 : Int) (w : World) (h : galloonref03_Nearest.f k a0 a1_0 a1_1 = some (r1, r2)) :
 Calls Try.prog 57 #[.int .i64 a0, .agg #[.int .i64 a1_0, .int .i64 a1_1]] w fun e w' => e = .returned (.agg #[.int .i64 r1, .int .i64 r2]) ∧ Below w.heap.size w w' := by
 have hu23 := Try.underlying23
 have HB := Aside0.mk (Below.refl w.heap.size w)
 have H : ((galloonref03_Row.f k a0).bind fun t646 => (if 0 < (t646.length : Int) then (galloonref03_Nearest.l0 k t646 0 a1_0 a1_1 ((rd_T23 t646 0).f0) ((rd_T23 t646 0).f1)) else (none))) = some (r1, r2) := h
 clear h
 replace H := Option.bind_eq_some_iff.mp H
 obtain ⟨t646, A30, H⟩ := H
 replace H : (if 0 < (t646.length : Int) then (galloonref03_Nearest.l0 k t646 0 a1_0 a1_1 ((rd_T23 t646 0).f0) ((rd_T23 t646 0).f1)) else (none)) = some (r1, r2) := H
 have A3 := Aside0.mk A30
 clear A30
 by_cases c4 : 0 < (t646.length : Int)
 case neg =>
  rw [if_neg c4] at H
  exact absurd H (by simp)
 rw [if_pos c4] at H
 have c4b0 : decide (0 < (t646.length : Int)) = true := decide_eq_true c4
 have c4b1 : decide (0 < t646.length) = true := decide_eq_true (by omega)
 clear c4
 have H' := Aside0.mk H
 clear H
 go_enter Try.func57, Try.ntmps57
 go_wp2_with (first | ((with_reducible refine gate_dst (N := 3) rfl ?_); refine box_event ?hg (N := 3) ?hd (cs := #[.int .i64 a1_0, .int .i64 a1_1]) (t := 23) ?hr ?_; (case hd => rfl); (case hg => rfl); (case hr => first | (go_simp; done) | (go_simp; rfl)); intro gb644 hg w5 hbox hb; have BK644 := Aside0.mk (hbox); have GW644 := bG HB hg; have GE644 := bG HB hg; replace HB := bS HB hb; clear hb hbox hg) | ((with_reducible refine gate_dst (N := 4) rfl ?_); refine box_event ?hg (N := 4) ?hd (cs := #[.int .i64 0, .int .i64 0]) (t := 23) ?hr ?_; (case hd => rfl); (case hg => rfl); (case hr => first | (go_simp; done) | (go_simp; rfl)); intro gb645 hg w6 hbox hb; have BK645 := Aside0.mk (hbox); have GW645 := bG HB hg; have GE645 := bG HB hg; replace HB := bS HB hb; have NB644_645 := nL BK644 hg; have NB645_644 := nG BK644 hg; replace BK644 := kB BK644 hb; clear hb hbox hg) | ((with_reducible refine gate_callee (f := 38) rfl ?_); refine gL 11 Try.func38 #[.int .i64 a0] (h := ?_); (with_reducible refine (galloonref03_Row.calls k a0 t646 _ A3.out).mono ?_); rintro e w7 ⟨v647, rfl, ho0, hb⟩; refine ⟨_, rfl, ?_⟩; have HO648 := Aside0.mk (Kd.R_lower (Kd.R_newB (Kd.R_newB ho0 (g := gb644) (o := .cells #[.int .i64 a1_0, .int .i64 a1_1] 23 (0, 0)) (kb BK644)) (g := gb645) (o := .cells #[.int .i64 0, .int .i64 0] 23 (0, 0)) (kb BK645)) (below_size (bB HB))); replace BK644 := kB BK644 hb; replace BK645 := kB BK645 hb; replace HB := bS HB hb; (try clear hb); (try clear hb2); (try clear hk); (try clear hi); (try clear ho0); obtain ⟨Ao8, co8, eo8⟩ := Kd.R_slice HO648.out; subst eo8; have p649 : 0 ≤ (0 : Int) := (by omega); have q649 : 0 < (t646.length : Int) := oD; obtain ⟨ad649, e649, hx649_0, hx649_1⟩ := at_T23 (Kd.R_reads' HO648.out).2.2 0 p649 q649; cases e649; have qi649 : (0 < t646.length) = True := eq_true (by omega); (try rw [show ((0 : Int)).toNat = 0 from rfl] at hx649_0); (try rw [show 0 * 2 = 0 from rfl] at hx649_0); (try rw [Addr.add_zero'] at hx649_0); (try rw [show ((0 : Int)).toNat = 0 from rfl] at hx649_1); (try rw [show 0 * 2 = 0 from rfl] at hx649_1); (try rw [Addr.add_zero'] at hx649_1); replace p649 := eq_true p649; replace q649 := eq_true q649) | ((with_reducible refine gate_dst (N := 6) rfl ?_); refine box_event ?hg (N := 6) ?hd (cs := #[.int .i64 0, .int .i64 0]) (t := 23) ?hr ?_; (case hd => rfl); (case hg => rfl); (case hr => first | (go_simp; done) | (go_simp; rfl)); intro gb650 hg w9 hbox hb; replace HO648 := Aside0.mk (Kd.R_below (Kd.R_elderB (by (with_reducible repeat (first | apply Kd.R_alloc | apply Kd.R_drewN | apply Kd.R_drew)); exact HO648.out) gb650 (Nat.le_of_eq hg.symm)) hb); have BK650 := Aside0.mk (hbox); have GW650 := bG HB hg; have GE650 := bG HB hg; replace HB := bS HB hb; have NB644_650 := nL BK644 hg; have NB650_644 := nG BK644 hg; replace BK644 := kB BK644 hb; have NB645_650 := nL BK645 hg; have NB650_645 := nG BK645 hg; replace BK645 := kB BK645 hb; clear hb hbox hg; have hnb10 := NB650_644.out; have hnc10 := NB644_650.out; have hnb11 := NB650_645.out; have hnc11 := NB645_650.out; obtain ⟨hcz12_0, hcz12_1, hfz12_0, hfz12_1⟩ := cQ BK650))
 go_loopg [7] k (fun kq v7 w' => ∃ (x7_1 : Int) (x651000_1 : Int) (x651001_1 : Int), v7 = .int .i64 x7_1 ∧ Aside0 (galloonref03_Nearest.l0 kq t646 x7_1 a1_0 a1_1 x651000_1 x651001_1 = some (r1, r2)) ∧ Aside0 (kq ≤ k) ∧ Aside0 (Kd.R k23 23 w' w.heap.size (fun k_ => k_ ≠ gb644 ∧ k_ ≠ gb645 ∧ k_ ≠ gb650) (.slice (some ad649) t646.length co8) t646) ∧ Aside0 (w'.heap[gb644]? = some (.cells #[.int .i64 a1_0, .int .i64 a1_1] 23 (0, 0))) ∧ Aside0 (w'.heap[gb645]? = some (.cells #[.int .i64 0, .int .i64 0] 23 (0, 0))) ∧ Aside0 (w'.heap[gb650]? = some (.cells #[.int .i64 x651000_1, .int .i64 x651001_1] 23 (0, 0))) ∧ Aside0 (Below w.heap.size w w'))
 case atStart => exact ⟨(0), ((rd_T23 t646 0).f0), ((rd_T23 t646 0).f1), (by first | rfl | (simp; done) | (simp [*]; done)), H', ⟨Nat.le_refl _⟩, ⟨by (with_reducible repeat (first | apply Kd.R_alloc | apply Kd.R_drewN | apply Kd.R_drew)); exact Kd.R_mono (Kd.R_far (p := ⟨gb650, 1, none⟩) (Kd.R_far (p := ⟨gb650, 0, none⟩) (Kd.R_mono HO648.out (fun k_ hk => (⟨hk, hk.2⟩ : _ ∧ k_ ≠ gb650))) (fun _ hk => hk.2) (.int .i64 ((rd_T23 t646 0).f0))) (fun _ hk => hk.2) (.int .i64 ((rd_T23 t646 0).f1))) (fun _ hk => ⟨hk.1.1.1.2, ⟨hk.1.1.2, hk.1.2⟩⟩)⟩, kG BK644, kG BK645, ⟨by (with_reducible repeat (first | refine blk_drewN ?_ _ | refine blk_drew ?_ | refine blk_alloc ?_ _)); refine blk_put (cs := #[.int .i64 ((rd_T23 t646 0).f0), .int .i64 0]) ?_ 1 _ rfl; (with_reducible repeat (first | refine blk_drewN ?_ _ | refine blk_drew ?_ | refine blk_alloc ?_ _)); refine blk_put (cs := #[.int .i64 0, .int .i64 0]) ?_ 0 _ rfl; (with_reducible repeat (first | refine blk_drewN ?_ _ | refine blk_drew ?_ | refine blk_alloc ?_ _)); exact BK650.out⟩, bA HB⟩
 case round =>
  clear H'
  try clear p2
  try clear p6
  try clear q6
  try clear hx6
  try clear qi6
  try clear hx649_0
  try clear hx649_1
  try clear p649
  try clear q649
  obtain ⟨x7_1, x651000_1, x651001_1, rfl, HA, HK1, HO_5, BK644, BK645, BK650, HB⟩ := hrel
  cases gk with
  | zero => exact absurd HA.out (by simp [galloonref03_Nearest.l0])
  | succ k1 =>
   have H := HA.out
   clear HA
   simp only [galloonref03_Nearest.l0] at H
   by_cases c13 : x7_1 < (t646.length : Int)
   ·rw [if_pos c13] at H
    have c13b0 : decide (x7_1 < (t646.length : Int)) = true := decide_eq_true c13
    clear c13
    by_cases c14 : 0 ≤ x7_1
    case neg =>
     rw [if_neg c14] at H
     exact absurd H (by simp)
    rw [if_pos c14] at H
    have c14b0 : decide (0 ≤ x7_1) = true := decide_eq_true c14
    clear c14
    replace H := Option.bind_eq_some_iff.mp H
    obtain ⟨t652, A150, H⟩ := H
    replace H : ((galloonref03_distance.f x651000_1 x651001_1 a1_0 a1_1).bind fun t653 => (if (wrap64 (t652 * x651001_1)) < (wrap64 (t653 * ((rd_T23 t646 x7_1).f1))) then (galloonref03_Nearest.l0 k1 t646 (wrap64 (x7_1 + 1)) a1_0 a1_1 ((rd_T23 t646 x7_1).f0) ((rd_T23 t646 x7_1).f1)) else (if (wrap64 (t652 * x651001_1)) = (wrap64 (t653 * ((rd_T23 t646 x7_1).f1))) then ((galloonref03_Simpler.f ((rd_T23 t646 x7_1).f0) ((rd_T23 t646 x7_1).f1) x651000_1 x651001_1).bind fun t657 => (if t657 = true then (galloonref03_Nearest.l0 k1 t646 (wrap64 (x7_1 + 1)) a1_0 a1_1 ((rd_T23 t646 x7_1).f0) ((rd_T23 t646 x7_1).f1)) else (galloonref03_Nearest.l0 k1 t646 (wrap64 (x7_1 + 1)) a1_0 a1_1 x651000_1 x651001_1))) else (galloonref03_Nearest.l0 k1 t646 (wrap64 (x7_1 + 1)) a1_0 a1_1 x651000_1 x651001_1)))) = some (r1, r2) := H
    have A15 := Aside0.mk A150
    clear A150
    replace H := Option.bind_eq_some_iff.mp H
    obtain ⟨t653, A160, H⟩ := H
    replace H : (if (wrap64 (t652 * x651001_1)) < (wrap64 (t653 * ((rd_T23 t646 x7_1).f1))) then (galloonref03_Nearest.l0 k1 t646 (wrap64 (x7_1 + 1)) a1_0 a1_1 ((rd_T23 t646 x7_1).f0) ((rd_T23 t646 x7_1).f1)) else (if (wrap64 (t652 * x651001_1)) = (wrap64 (t653 * ((rd_T23 t646 x7_1).f1))) then ((galloonref03_Simpler.f ((rd_T23 t646 x7_1).f0) ((rd_T23 t646 x7_1).f1) x651000_1 x651001_1).bind fun t657 => (if t657 = true then (galloonref03_Nearest.l0 k1 t646 (wrap64 (x7_1 + 1)) a1_0 a1_1 ((rd_T23 t646 x7_1).f0) ((rd_T23 t646 x7_1).f1)) else (galloonref03_Nearest.l0 k1 t646 (wrap64 (x7_1 + 1)) a1_0 a1_1 x651000_1 x651001_1))) else (galloonref03_Nearest.l0 k1 t646 (wrap64 (x7_1 + 1)) a1_0 a1_1 x651000_1 x651001_1))) = some (r1, r2) := H
    have A16 := Aside0.mk A160
    clear A160
    by_cases c17 : (wrap64 (t652 * x651001_1)) < (wrap64 (t653 * ((rd_T23 t646 x7_1).f1)))
    ·rw [if_pos c17] at H
     have c17b0 : decide ((wrap64 (t652 * x651001_1)) < (wrap64 (t653 * ((rd_T23 t646 x7_1).f1)))) = true := decide_eq_true c17
     clear c17
     have H' := Aside0.mk H
     clear H
     try go_wp2
     replace HO_5 := Aside0.mk (Kd.R_drew HO_5.out)
     replace BK644 := Aside0.mk (blk_drew BK644.out)
     replace BK645 := Aside0.mk (blk_drew BK645.out)
     replace BK650 := Aside0.mk (blk_drew BK650.out)
     replace HB := Aside0.mk (below_drew1 HB.out)
     have p651 : 0 ≤ (x7_1 : Int) := oD
     have q651 : x7_1 < (t646.length : Int) := oD
     obtain ⟨ad651, e651, hx651_0, hx651_1⟩ := at_T23 (Kd.R_reads' HO_5.out).2.2 x7_1 p651 q651
     obtain rfl : ad649 = ad651 := (by injection e651)
     replace p651 := eq_true p651
     replace q651 := eq_true q651
     refine start_ (n := 10) (S := fun w' => w'.cell? ⟨gb644, 0, none⟩ = some (.int .i64 a1_0) ∧ w'.cell? ⟨gb644, 1, none⟩ = some (.int .i64 a1_1) ∧ w'.cell? ⟨gb650, 0, none⟩ = some (.int .i64 x651000_1) ∧ w'.cell? ⟨gb650, 1, none⟩ = some (.int .i64 x651001_1) ∧ w'.cell? (ad649.add ((x7_1).toNat * 2)) = some (.int .i64 ((rd_T23 t646 x7_1).f0)) ∧ w'.cell? ⟨(ad649.add ((x7_1).toNat * 2)).block, (ad649.add ((x7_1).toNat * 2)).off + 1, none⟩ = some (.int .i64 ((rd_T23 t646 x7_1).f1))) (ds := []) (lb 10 0) (by kernel_rfl) rfl (by kernel_rfl) ⟨(blk_cell BK644.out 0).trans rfl, (blk_cell BK644.out 1).trans rfl, (blk_cell BK650.out 0).trans rfl, (blk_cell BK650.out 1).trans rfl, hx651_0, hx651_1⟩ (fun hHeld => ?_); refine with_tabW galloonref03_Nearest.tab6 galloonref03_Nearest.bits6 (fun HT_ HW_ => ?_)
     generalize wr.drew = w18 at HO_5 BK644 BK645 BK650 HB hx651_0 hx651_1 hHeld ⊢
     refine pk HT_ 10 1 0 21 (h := ?_)
     refine pk HT_ 10 3 1 22 (h := ?_)
     refine pk HT_ 10 7 2 23 (h := ?_)
     refine pk HT_ 10 71 6 27 (h := ?_)
     refine tk6 HT_ HW_ hHeld 10 79 3 24 (h := ?_)
     refine tk6 HT_ HW_ hHeld 10 95 4 25 (h := ?_)
     refine tk6 HT_ HW_ hHeld 10 223 7 28 (h := ?_)
     refine one_ (i := 5) (N := some 26) (lb 10 255) rfl rfl (one_of HT_.out (by kernel_rfl)) (by decide) (fun K hK => ?_)
     refine gS Try.func82 #[.agg #[.int .i64 ((rd_T23 t646 x7_1).f0), .int .i64 ((rd_T23 t646 x7_1).f1)], .agg #[.int .i64 a1_0, .int .i64 a1_1]] (h := ?_)
     with_reducible refine (galloonref03_distance.calls ((rd_T23 t646 x7_1).f0) ((rd_T23 t646 x7_1).f1) a1_0 a1_1 t652 _ A15.out).mono ?_
     rintro e w19 ⟨rfl, hb⟩
     have HS4_ := cS hHeld.2.2.2.2.1 hb
     have HS5_ := cS hHeld.2.2.2.2.2 hb
     refine ⟨_, rfl, ?_⟩
     replace HO_5 := rB HO_5 hb
     replace BK644 := kB BK644 hb
     replace BK645 := kB BK645 hb
     replace BK650 := kB BK650 hb
     replace HB := bS HB hb
     (try clear hb)
     (try clear hb2)
     (try clear hk)
     (try clear hi)
     refine hK.out _ _ ⟨(blk_cell BK644.out 0).trans rfl, (blk_cell BK644.out 1).trans rfl, (blk_cell BK650.out 0).trans rfl, (blk_cell BK650.out 1).trans rfl, HS4_, HS5_⟩ (fun hHeld => ?_)
     clear hK K
     refine norm_ (a' := ?_) ?_ ?_
     rotate_left
     ·show Act.put _ (some 26) _ = _
      simp only [Act.put, List.setIfInBounds_toArray, List.set_cons_zero, List.set_cons_succ, i64_w, i32_w]
      rfl
     refine pk HT_ 10 511 8 29 (h := ?_)
     refine pk HT_ 10 0x3ff 9 8 (h := ?_)
     refine done_ (done_of HT_.out (by kernel_rfl)) ?_
     try go_wp2
     replace HO_5 := Aside0.mk (Kd.R_drew HO_5.out)
     replace BK644 := Aside0.mk (blk_drew BK644.out)
     replace BK645 := Aside0.mk (blk_drew BK645.out)
     replace BK650 := Aside0.mk (blk_drew BK650.out)
     replace HB := Aside0.mk (below_drew1 HB.out)
     have p654 : 0 ≤ (x7_1 : Int) := oD
     have q654 : x7_1 < (t646.length : Int) := oD
     obtain ⟨ad654, e654, hx654_0, hx654_1⟩ := at_T23 (Kd.R_reads' HO_5.out).2.2 x7_1 p654 q654
     obtain rfl : ad649 = ad654 := (by injection e654)
     replace p654 := eq_true p654
     replace q654 := eq_true q654
     refine start_ (n := 10) (S := fun w' => w'.cell? ⟨gb650, 0, none⟩ = some (.int .i64 x651000_1) ∧ w'.cell? ⟨gb650, 1, none⟩ = some (.int .i64 x651001_1) ∧ w'.cell? ⟨gb644, 0, none⟩ = some (.int .i64 a1_0) ∧ w'.cell? ⟨gb644, 1, none⟩ = some (.int .i64 a1_1) ∧ w'.cell? (ad649.add ((x7_1).toNat * 2)) = some (.int .i64 ((rd_T23 t646 x7_1).f0)) ∧ w'.cell? ⟨(ad649.add ((x7_1).toNat * 2)).block, (ad649.add ((x7_1).toNat * 2)).off + 1, none⟩ = some (.int .i64 ((rd_T23 t646 x7_1).f1))) (ds := []) (lb 10 0) (by kernel_rfl) rfl (by kernel_rfl) ⟨(blk_cell BK650.out 0).trans rfl, (blk_cell BK650.out 1).trans rfl, (blk_cell BK644.out 0).trans rfl, (blk_cell BK644.out 1).trans rfl, hx654_0, hx654_1⟩ (fun hHeld => ?_); refine with_tabW galloonref03_Nearest.tab7 galloonref03_Nearest.bits7 (fun HT_ HW_ => ?_)
     generalize w19.drew = w20 at HO_5 BK644 BK645 BK650 HB hx654_0 hx654_1 hHeld ⊢
     refine pk HT_ 10 8 3 33 (h := ?_)
     refine pk HT_ 10 24 4 34 (h := ?_)
     refine pk HT_ 10 56 5 35 (h := ?_)
     refine pk HT_ 10 120 6 36 (h := ?_)
     refine tk6 HT_ HW_ hHeld 10 121 0 30 (h := ?_)
     refine tk6 HT_ HW_ hHeld 10 123 1 31 (h := ?_)
     refine tk6 HT_ HW_ hHeld 10 251 7 37 (h := ?_)
     refine one_ (i := 2) (N := some 32) (lb 10 255) rfl rfl (one_of HT_.out (by kernel_rfl)) (by decide) (fun K hK => ?_)
     refine gS Try.func82 #[.agg #[.int .i64 x651000_1, .int .i64 x651001_1], .agg #[.int .i64 a1_0, .int .i64 a1_1]] (h := ?_)
     with_reducible refine (galloonref03_distance.calls x651000_1 x651001_1 a1_0 a1_1 t653 _ A16.out).mono ?_
     rintro e w21 ⟨rfl, hb⟩
     have HS4_ := cS hHeld.2.2.2.2.1 hb
     have HS5_ := cS hHeld.2.2.2.2.2 hb
     refine ⟨_, rfl, ?_⟩
     replace HO_5 := rB HO_5 hb
     replace BK644 := kB BK644 hb
     replace BK645 := kB BK645 hb
     replace BK650 := kB BK650 hb
     replace HB := bS HB hb
     (try clear hb)
     (try clear hb2)
     (try clear hk)
     (try clear hi)
     refine hK.out _ _ ⟨(blk_cell BK650.out 0).trans rfl, (blk_cell BK650.out 1).trans rfl, (blk_cell BK644.out 0).trans rfl, (blk_cell BK644.out 1).trans rfl, HS4_, HS5_⟩ (fun hHeld => ?_)
     clear hK K
     refine norm_ (a' := ?_) ?_ ?_
     rotate_left
     ·show Act.put _ (some 32) _ = _
      simp only [Act.put, List.setIfInBounds_toArray, List.set_cons_zero, List.set_cons_succ, i64_w, i32_w]
      rfl
     refine pk HT_ 10 511 8 38 (h := ?_)
     refine pk HT_ 10 0x3ff 9 9 (h := ?_)
     refine done_ (done_of HT_.out (by kernel_rfl)) ?_
     try go_wp2
     replace HO_5 := Aside0.mk (Kd.R_drew HO_5.out)
     replace BK644 := Aside0.mk (blk_drew BK644.out)
     replace BK645 := Aside0.mk (blk_drew BK645.out)
     replace BK650 := Aside0.mk (blk_drew BK650.out)
     replace HB := Aside0.mk (below_drew1 HB.out)
     refine start_ (n := 16) (S := fun w' => True) (ds := []) (lb 16 0) (by kernel_rfl) rfl rfl trivial (fun hHeld => ?_); refine with_tabW galloonref03_Nearest.tab8 galloonref03_Nearest.bits8 (fun HT_ HW_ => ?_)
     generalize w21.drew = w22 at HO_5 BK644 BK645 BK650 HB hHeld ⊢
     refine pk HT_ 16 1 0 39 (h := ?_)
     refine pk HT_ 16 3 1 40 (h := ?_)
     refine pk HT_ 16 7 2 41 (h := ?_)
     refine pk HT_ 16 15 3 42 (h := ?_)
     refine pu HT_ 16 31 4 43 (h := ?_)
     refine pu HT_ 16 63 5 44 (h := ?_)
     refine pu HT_ 16 127 6 45 (h := ?_)
     refine pu HT_ 16 255 7 46 (h := ?_)
     refine pu HT_ 16 511 8 47 (h := ?_)
     refine pu HT_ 16 0x3ff 9 48 (h := ?_)
     refine pu HT_ 16 0x7ff 10 49 (h := ?_)
     refine pu HT_ 16 0xfff 11 50 (h := ?_)
     refine pu HT_ 16 0x1fff 12 51 (h := ?_)
     refine pu HT_ 16 0x3fff 13 52 (h := ?_)
     refine pu HT_ 16 0x7fff 14 53 (h := ?_)
     refine pk HT_ 16 0xffff 15 54 (h := ?_)
     refine done_ (done_of HT_.out (by kernel_rfl)) ?_
     have p655 : 0 ≤ (x7_1 : Int) := oD
     have q655 : x7_1 < (t646.length : Int) := oD
     obtain ⟨ad655, e655, hx655_0, hx655_1⟩ := at_T23 (Kd.R_reads' HO_5.out).2.2 x7_1 p655 q655
     obtain rfl : ad649 = ad655 := (by injection e655)
     replace p655 := eq_true p655
     replace q655 := eq_true q655
     have hnb23 := NB650_644.out
     have hnc23 := NB644_650.out
     have hnb24 := NB650_645.out
     have hnc24 := NB645_650.out
     obtain ⟨hcz25_0, hcz25_1, hfz25_0, hfz25_1⟩ := cQ BK650
     try go_wp2
     go_roundg k1
     case measure => have := HK1.out; omega
     case rel => exact ⟨(wrap64 (x7_1 + 1)), ((rd_T23 t646 x7_1).f0), ((rd_T23 t646 x7_1).f1), (by first | rfl | (simp; done) | (simp [*]; done)), H', ⟨by have := HK1.out; omega⟩, ⟨by (with_reducible repeat (first | apply Kd.R_alloc | apply Kd.R_drewN | apply Kd.R_drew)); exact Kd.R_mono (Kd.R_far (p := ⟨gb650, 1, none⟩) (Kd.R_far (p := ⟨gb650, 0, none⟩) (Kd.R_mono HO_5.out (fun k_ hk => (⟨hk, hk.2.2⟩ : _ ∧ k_ ≠ gb650))) (fun _ hk => hk.2) (.int .i64 ((rd_T23 t646 x7_1).f0))) (fun _ hk => hk.2) (.int .i64 ((rd_T23 t646 x7_1).f1))) (fun _ hk => ⟨hk.1.1, ⟨hk.1.2.1, hk.1.2.2⟩⟩)⟩, kG BK644, kG BK645, ⟨by (with_reducible repeat (first | refine blk_drewN ?_ _ | refine blk_drew ?_ | refine blk_alloc ?_ _)); refine blk_put (cs := #[.int .i64 ((rd_T23 t646 x7_1).f0), .int .i64 x651001_1]) ?_ 1 _ rfl; (with_reducible repeat (first | refine blk_drewN ?_ _ | refine blk_drew ?_ | refine blk_alloc ?_ _)); refine blk_put (cs := #[.int .i64 x651000_1, .int .i64 x651001_1]) ?_ 0 _ rfl; (with_reducible repeat (first | refine blk_drewN ?_ _ | refine blk_drew ?_ | refine blk_alloc ?_ _)); exact BK650.out⟩, bA HB⟩
    ·rw [if_neg c17] at H
     have c17b0 : decide ((wrap64 (t652 * x651001_1)) < (wrap64 (t653 * ((rd_T23 t646 x7_1).f1)))) = false := decide_eq_false c17
     clear c17
     by_cases c26 : (wrap64 (t652 * x651001_1)) = (wrap64 (t653 * ((rd_T23 t646 x7_1).f1)))
     ·rw [if_pos c26] at H
      have c26b0 : ((wrap64 (t652 * x651001_1)) == (wrap64 (t653 * ((rd_T23 t646 x7_1).f1)))) = true := beq_iff_eq.mpr c26
      have c26b1 : ((wrap64 (t652 * x651001_1)) != (wrap64 (t653 * ((rd_T23 t646 x7_1).f1)))) = false := bne_eq_false_iff_eq.mpr c26
      clear c26
      replace H := Option.bind_eq_some_iff.mp H
      obtain ⟨t657, A270, H⟩ := H
      replace H : (if t657 = true then (galloonref03_Nearest.l0 k1 t646 (wrap64 (x7_1 + 1)) a1_0 a1_1 ((rd_T23 t646 x7_1).f0) ((rd_T23 t646 x7_1).f1)) else (galloonref03_Nearest.l0 k1 t646 (wrap64 (x7_1 + 1)) a1_0 a1_1 x651000_1 x651001_1)) = some (r1, r2) := H
      have A27 := Aside0.mk A270
      clear A270
      by_cases c28 : t657 = true
      ·subst c28
       have H1 : (galloonref03_Nearest.l0 k1 t646 (wrap64 (x7_1 + 1)) a1_0 a1_1 ((rd_T23 t646 x7_1).f0) ((rd_T23 t646 x7_1).f1)) = some (r1, r2) := by rw [if_pos rfl] at H; exact H
       clear H
       have H := H1
       clear H1
       have H' := Aside0.mk H
       clear H
       try go_wp2
       replace HO_5 := Aside0.mk (Kd.R_drew HO_5.out)
       replace BK644 := Aside0.mk (blk_drew BK644.out)
       replace BK645 := Aside0.mk (blk_drew BK645.out)
       replace BK650 := Aside0.mk (blk_drew BK650.out)
       replace HB := Aside0.mk (below_drew1 HB.out)
       have p651 : 0 ≤ (x7_1 : Int) := oD
       have q651 : x7_1 < (t646.length : Int) := oD
       obtain ⟨ad651, e651, hx651_0, hx651_1⟩ := at_T23 (Kd.R_reads' HO_5.out).2.2 x7_1 p651 q651
       obtain rfl : ad649 = ad651 := (by injection e651)
       replace p651 := eq_true p651
       replace q651 := eq_true q651
       refine start_ (n := 10) (S := fun w' => w'.cell? ⟨gb644, 0, none⟩ = some (.int .i64 a1_0) ∧ w'.cell? ⟨gb644, 1, none⟩ = some (.int .i64 a1_1) ∧ w'.cell? ⟨gb650, 0, none⟩ = some (.int .i64 x651000_1) ∧ w'.cell? ⟨gb650, 1, none⟩ = some (.int .i64 x651001_1) ∧ w'.cell? (ad649.add ((x7_1).toNat * 2)) = some (.int .i64 ((rd_T23 t646 x7_1).f0)) ∧ w'.cell? ⟨(ad649.add ((x7_1).toNat * 2)).block, (ad649.add ((x7_1).toNat * 2)).off + 1, none⟩ = some (.int .i64 ((rd_T23 t646 x7_1).f1))) (ds := []) (lb 10 0) (by kernel_rfl) rfl (by kernel_rfl) ⟨(blk_cell BK644.out 0).trans rfl, (blk_cell BK644.out 1).trans rfl, (blk_cell BK650.out 0).trans rfl, (blk_cell BK650.out 1).trans rfl, hx651_0, hx651_1⟩ (fun hHeld => ?_); refine with_tabW galloonref03_Nearest.tab6 galloonref03_Nearest.bits6 (fun HT_ HW_ => ?_)
       generalize wr.drew = w29 at HO_5 BK644 BK645 BK650 HB hx651_0 hx651_1 hHeld ⊢
       refine pk HT_ 10 1 0 21 (h := ?_)
       refine pk HT_ 10 3 1 22 (h := ?_)
       refine pk HT_ 10 7 2 23 (h := ?_)
       refine pk HT_ 10 71 6 27 (h := ?_)
       refine tk6 HT_ HW_ hHeld 10 79 3 24 (h := ?_)
       refine tk6 HT_ HW_ hHeld 10 95 4 25 (h := ?_)
       refine tk6 HT_ HW_ hHeld 10 223 7 28 (h := ?_)
       refine one_ (i := 5) (N := some 26) (lb 10 255) rfl rfl (one_of HT_.out (by kernel_rfl)) (by decide) (fun K hK => ?_)
       refine gS Try.func82 #[.agg #[.int .i64 ((rd_T23 t646 x7_1).f0), .int .i64 ((rd_T23 t646 x7_1).f1)], .agg #[.int .i64 a1_0, .int .i64 a1_1]] (h := ?_)
       with_reducible refine (galloonref03_distance.calls ((rd_T23 t646 x7_1).f0) ((rd_T23 t646 x7_1).f1) a1_0 a1_1 t652 _ A15.out).mono ?_
       rintro e w30 ⟨rfl, hb⟩
       have HS4_ := cS hHeld.2.2.2.2.1 hb
       have HS5_ := cS hHeld.2.2.2.2.2 hb
       refine ⟨_, rfl, ?_⟩
       replace HO_5 := rB HO_5 hb
       replace BK644 := kB BK644 hb
       replace BK645 := kB BK645 hb
       replace BK650 := kB BK650 hb
       replace HB := bS HB hb
       (try clear hb)
       (try clear hb2)
       (try clear hk)
       (try clear hi)
       refine hK.out _ _ ⟨(blk_cell BK644.out 0).trans rfl, (blk_cell BK644.out 1).trans rfl, (blk_cell BK650.out 0).trans rfl, (blk_cell BK650.out 1).trans rfl, HS4_, HS5_⟩ (fun hHeld => ?_)
       clear hK K
       refine norm_ (a' := ?_) ?_ ?_
       rotate_left
       ·show Act.put _ (some 26) _ = _
        simp only [Act.put, List.setIfInBounds_toArray, List.set_cons_zero, List.set_cons_succ, i64_w, i32_w]
        rfl
       refine pk HT_ 10 511 8 29 (h := ?_)
       refine pk HT_ 10 0x3ff 9 8 (h := ?_)
       refine done_ (done_of HT_.out (by kernel_rfl)) ?_
       try go_wp2
       replace HO_5 := Aside0.mk (Kd.R_drew HO_5.out)
       replace BK644 := Aside0.mk (blk_drew BK644.out)
       replace BK645 := Aside0.mk (blk_drew BK645.out)
       replace BK650 := Aside0.mk (blk_drew BK650.out)
       replace HB := Aside0.mk (below_drew1 HB.out)
       have p654 : 0 ≤ (x7_1 : Int) := oD
       have q654 : x7_1 < (t646.length : Int) := oD
       obtain ⟨ad654, e654, hx654_0, hx654_1⟩ := at_T23 (Kd.R_reads' HO_5.out).2.2 x7_1 p654 q654
       obtain rfl : ad649 = ad654 := (by injection e654)
       replace p654 := eq_true p654
       replace q654 := eq_true q654
       refine start_ (n := 10) (S := fun w' => w'.cell? ⟨gb650, 0, none⟩ = some (.int .i64 x651000_1) ∧ w'.cell? ⟨gb650, 1, none⟩ = some (.int .i64 x651001_1) ∧ w'.cell? ⟨gb644, 0, none⟩ = some (.int .i64 a1_0) ∧ w'.cell? ⟨gb644, 1, none⟩ = some (.int .i64 a1_1) ∧ w'.cell? (ad649.add ((x7_1).toNat * 2)) = some (.int .i64 ((rd_T23 t646 x7_1).f0)) ∧ w'.cell? ⟨(ad649.add ((x7_1).toNat * 2)).block, (ad649.add ((x7_1).toNat * 2)).off + 1, none⟩ = some (.int .i64 ((rd_T23 t646 x7_1).f1))) (ds := []) (lb 10 0) (by kernel_rfl) rfl (by kernel_rfl) ⟨(blk_cell BK650.out 0).trans rfl, (blk_cell BK650.out 1).trans rfl, (blk_cell BK644.out 0).trans rfl, (blk_cell BK644.out 1).trans rfl, hx654_0, hx654_1⟩ (fun hHeld => ?_); refine with_tabW galloonref03_Nearest.tab7 galloonref03_Nearest.bits7 (fun HT_ HW_ => ?_)
       generalize w30.drew = w31 at HO_5 BK644 BK645 BK650 HB hx654_0 hx654_1 hHeld ⊢
       refine pk HT_ 10 8 3 33 (h := ?_)
       refine pk HT_ 10 24 4 34 (h := ?_)
       refine pk HT_ 10 56 5 35 (h := ?_)
       refine pk HT_ 10 120 6 36 (h := ?_)
       refine tk6 HT_ HW_ hHeld 10 121 0 30 (h := ?_)
       refine tk6 HT_ HW_ hHeld 10 123 1 31 (h := ?_)
       refine tk6 HT_ HW_ hHeld 10 251 7 37 (h := ?_)
       refine one_ (i := 2) (N := some 32) (lb 10 255) rfl rfl (one_of HT_.out (by kernel_rfl)) (by decide) (fun K hK => ?_)
       refine gS Try.func82 #[.agg #[.int .i64 x651000_1, .int .i64 x651001_1], .agg #[.int .i64 a1_0, .int .i64 a1_1]] (h := ?_)
       with_reducible refine (galloonref03_distance.calls x651000_1 x651001_1 a1_0 a1_1 t653 _ A16.out).mono ?_
       rintro e w32 ⟨rfl, hb⟩
       have HS4_ := cS hHeld.2.2.2.2.1 hb
       have HS5_ := cS hHeld.2.2.2.2.2 hb
       refine ⟨_, rfl, ?_⟩
       replace HO_5 := rB HO_5 hb
       replace BK644 := kB BK644 hb
       replace BK645 := kB BK645 hb
       replace BK650 := kB BK650 hb
       replace HB := bS HB hb
       (try clear hb)
       (try clear hb2)
       (try clear hk)
       (try clear hi)
       refine hK.out _ _ ⟨(blk_cell BK650.out 0).trans rfl, (blk_cell BK650.out 1).trans rfl, (blk_cell BK644.out 0).trans rfl, (blk_cell BK644.out 1).trans rfl, HS4_, HS5_⟩ (fun hHeld => ?_)
       clear hK K
       refine norm_ (a' := ?_) ?_ ?_
       rotate_left
       ·show Act.put _ (some 32) _ = _
        simp only [Act.put, List.setIfInBounds_toArray, List.set_cons_zero, List.set_cons_succ, i64_w, i32_w]
        rfl
       refine pk HT_ 10 511 8 38 (h := ?_)
       refine pk HT_ 10 0x3ff 9 9 (h := ?_)
       refine done_ (done_of HT_.out (by kernel_rfl)) ?_
       try go_wp2
       replace HO_5 := Aside0.mk (Kd.R_drew HO_5.out)
       replace BK644 := Aside0.mk (blk_drew BK644.out)
       replace BK645 := Aside0.mk (blk_drew BK645.out)
       replace BK650 := Aside0.mk (blk_drew BK650.out)
       replace HB := Aside0.mk (below_drew1 HB.out)
       have p656 : 0 ≤ (x7_1 : Int) := oD
       have q656 : x7_1 < (t646.length : Int) := oD
       obtain ⟨ad656, e656, hx656_0, hx656_1⟩ := at_T23 (Kd.R_reads' HO_5.out).2.2 x7_1 p656 q656
       obtain rfl : ad649 = ad656 := (by injection e656)
       replace p656 := eq_true p656
       replace q656 := eq_true q656
       refine start_ (n := 16) (S := fun w' => w'.cell? ⟨gb650, 0, none⟩ = some (.int .i64 x651000_1) ∧ w'.cell? ⟨gb650, 1, none⟩ = some (.int .i64 x651001_1) ∧ w'.cell? (ad649.add ((x7_1).toNat * 2)) = some (.int .i64 ((rd_T23 t646 x7_1).f0)) ∧ w'.cell? ⟨(ad649.add ((x7_1).toNat * 2)).block, (ad649.add ((x7_1).toNat * 2)).off + 1, none⟩ = some (.int .i64 ((rd_T23 t646 x7_1).f1))) (ds := []) (lb 16 0) (by kernel_rfl) rfl (by kernel_rfl) ⟨(blk_cell BK650.out 0).trans rfl, (blk_cell BK650.out 1).trans rfl, hx656_0, hx656_1⟩ (fun hHeld => ?_); refine with_tabW galloonref03_Nearest.tab8 galloonref03_Nearest.bits8 (fun HT_ HW_ => ?_)
       generalize w32.drew = w33 at HO_5 BK644 BK645 BK650 HB hx656_0 hx656_1 hHeld ⊢
       refine pk HT_ 16 1 0 39 (h := ?_)
       refine pk HT_ 16 3 1 40 (h := ?_)
       refine pk HT_ 16 7 2 41 (h := ?_)
       refine pk HT_ 16 15 3 42 (h := ?_)
       refine pk HT_ 16 31 4 43 (h := ?_)
       refine pk HT_ 16 63 5 44 (h := ?_)
       refine pk HT_ 16 127 6 45 (h := ?_)
       refine pk HT_ 16 255 7 46 (h := ?_)
       refine pk HT_ 16 511 8 47 (h := ?_)
       refine pk HT_ 16 0x3ff 9 48 (h := ?_)
       refine pk HT_ 16 0x7ff 10 49 (h := ?_)
       refine tk4 HT_ HW_ hHeld 16 0xfff 11 50 (h := ?_)
       refine tk4 HT_ HW_ hHeld 16 0x1fff 12 51 (h := ?_)
       refine one_ (i := 13) (N := some 52) (lb 16 0x3fff) rfl rfl (one_of HT_.out (by kernel_rfl)) (by decide) (fun K hK => ?_)
       refine gS Try.func31 #[.agg #[.int .i64 ((rd_T23 t646 x7_1).f0), .int .i64 ((rd_T23 t646 x7_1).f1)], .agg #[.int .i64 x651000_1, .int .i64 x651001_1]] (h := ?_)
       with_reducible refine (galloonref03_Simpler.calls ((rd_T23 t646 x7_1).f0) ((rd_T23 t646 x7_1).f1) x651000_1 x651001_1 true _ A27.out).mono ?_
       rintro e w34 ⟨rfl, hb⟩
       have HS2_ := cS hHeld.2.2.1 hb
       have HS3_ := cS hHeld.2.2.2 hb
       refine ⟨_, rfl, ?_⟩
       replace HO_5 := rB HO_5 hb
       replace BK644 := kB BK644 hb
       replace BK645 := kB BK645 hb
       replace BK650 := kB BK650 hb
       replace HB := bS HB hb
       (try clear hb)
       (try clear hb2)
       (try clear hk)
       (try clear hi)
       refine hK.out _ _ ⟨(blk_cell BK650.out 0).trans rfl, (blk_cell BK650.out 1).trans rfl, HS2_, HS3_⟩ (fun hHeld => ?_)
       clear hK K
       refine norm_ (a' := ?_) ?_ ?_
       rotate_left
       ·show Act.put _ (some 52) _ = _
        simp only [Act.put, List.setIfInBounds_toArray, List.set_cons_zero, List.set_cons_succ, i64_w, i32_w]
        rfl
       refine pk HT_ 16 0x7fff 14 53 (h := ?_)
       refine pk HT_ 16 0xffff 15 54 (h := ?_)
       refine done_ (done_of HT_.out (by kernel_rfl)) ?_
       have p658 : 0 ≤ (x7_1 : Int) := oD
       have q658 : x7_1 < (t646.length : Int) := oD
       obtain ⟨ad658, e658, hx658_0, hx658_1⟩ := at_T23 (Kd.R_reads' HO_5.out).2.2 x7_1 p658 q658
       obtain rfl : ad649 = ad658 := (by injection e658)
       replace p658 := eq_true p658
       replace q658 := eq_true q658
       have hnb35 := NB650_644.out
       have hnc35 := NB644_650.out
       have hnb36 := NB650_645.out
       have hnc36 := NB645_650.out
       obtain ⟨hcz37_0, hcz37_1, hfz37_0, hfz37_1⟩ := cQ BK650
       try go_wp2
       go_roundg k1
       case measure => have := HK1.out; omega
       case rel => exact ⟨(wrap64 (x7_1 + 1)), ((rd_T23 t646 x7_1).f0), ((rd_T23 t646 x7_1).f1), (by first | rfl | (simp; done) | (simp [*]; done)), H', ⟨by have := HK1.out; omega⟩, ⟨by (with_reducible repeat (first | apply Kd.R_alloc | apply Kd.R_drewN | apply Kd.R_drew)); exact Kd.R_mono (Kd.R_far (p := ⟨gb650, 1, none⟩) (Kd.R_far (p := ⟨gb650, 0, none⟩) (Kd.R_mono HO_5.out (fun k_ hk => (⟨hk, hk.2.2⟩ : _ ∧ k_ ≠ gb650))) (fun _ hk => hk.2) (.int .i64 ((rd_T23 t646 x7_1).f0))) (fun _ hk => hk.2) (.int .i64 ((rd_T23 t646 x7_1).f1))) (fun _ hk => ⟨hk.1.1, ⟨hk.1.2.1, hk.1.2.2⟩⟩)⟩, kG BK644, kG BK645, ⟨by (with_reducible repeat (first | refine blk_drewN ?_ _ | refine blk_drew ?_ | refine blk_alloc ?_ _)); refine blk_put (cs := #[.int .i64 ((rd_T23 t646 x7_1).f0), .int .i64 x651001_1]) ?_ 1 _ rfl; (with_reducible repeat (first | refine blk_drewN ?_ _ | refine blk_drew ?_ | refine blk_alloc ?_ _)); refine blk_put (cs := #[.int .i64 x651000_1, .int .i64 x651001_1]) ?_ 0 _ rfl; (with_reducible repeat (first | refine blk_drewN ?_ _ | refine blk_drew ?_ | refine blk_alloc ?_ _)); exact BK650.out⟩, bA HB⟩
      ·replace c28 := Bool.eq_false_iff.mpr c28
       subst c28
       have H1 : (galloonref03_Nearest.l0 k1 t646 (wrap64 (x7_1 + 1)) a1_0 a1_1 x651000_1 x651001_1) = some (r1, r2) := by rw [if_neg (show ¬ (false = true) by decide)] at H; exact H
       clear H
       have H := H1
       clear H1
       have H' := Aside0.mk H
       clear H
       try go_wp2
       replace HO_5 := Aside0.mk (Kd.R_drew HO_5.out)
       replace BK644 := Aside0.mk (blk_drew BK644.out)
       replace BK645 := Aside0.mk (blk_drew BK645.out)
       replace BK650 := Aside0.mk (blk_drew BK650.out)
       replace HB := Aside0.mk (below_drew1 HB.out)
       have p651 : 0 ≤ (x7_1 : Int) := oD
       have q651 : x7_1 < (t646.length : Int) := oD
       obtain ⟨ad651, e651, hx651_0, hx651_1⟩ := at_T23 (Kd.R_reads' HO_5.out).2.2 x7_1 p651 q651
       obtain rfl : ad649 = ad651 := (by injection e651)
       replace p651 := eq_true p651
       replace q651 := eq_true q651
       refine start_ (n := 10) (S := fun w' => w'.cell? ⟨gb644, 0, none⟩ = some (.int .i64 a1_0) ∧ w'.cell? ⟨gb644, 1, none⟩ = some (.int .i64 a1_1) ∧ w'.cell? ⟨gb650, 0, none⟩ = some (.int .i64 x651000_1) ∧ w'.cell? ⟨gb650, 1, none⟩ = some (.int .i64 x651001_1) ∧ w'.cell? (ad649.add ((x7_1).toNat * 2)) = some (.int .i64 ((rd_T23 t646 x7_1).f0)) ∧ w'.cell? ⟨(ad649.add ((x7_1).toNat * 2)).block, (ad649.add ((x7_1).toNat * 2)).off + 1, none⟩ = some (.int .i64 ((rd_T23 t646 x7_1).f1))) (ds := []) (lb 10 0) (by kernel_rfl) rfl (by kernel_rfl) ⟨(blk_cell BK644.out 0).trans rfl, (blk_cell BK644.out 1).trans rfl, (blk_cell BK650.out 0).trans rfl, (blk_cell BK650.out 1).trans rfl, hx651_0, hx651_1⟩ (fun hHeld => ?_); refine with_tabW galloonref03_Nearest.tab6 galloonref03_Nearest.bits6 (fun HT_ HW_ => ?_)
       generalize wr.drew = w38 at HO_5 BK644 BK645 BK650 HB hx651_0 hx651_1 hHeld ⊢
       refine pk HT_ 10 1 0 21 (h := ?_)
       refine pk HT_ 10 3 1 22 (h := ?_)
       refine pk HT_ 10 7 2 23 (h := ?_)
       refine pk HT_ 10 71 6 27 (h := ?_)
       refine tk6 HT_ HW_ hHeld 10 79 3 24 (h := ?_)
       refine tk6 HT_ HW_ hHeld 10 95 4 25 (h := ?_)
       refine tk6 HT_ HW_ hHeld 10 223 7 28 (h := ?_)
       refine one_ (i := 5) (N := some 26) (lb 10 255) rfl rfl (one_of HT_.out (by kernel_rfl)) (by decide) (fun K hK => ?_)
       refine gS Try.func82 #[.agg #[.int .i64 ((rd_T23 t646 x7_1).f0), .int .i64 ((rd_T23 t646 x7_1).f1)], .agg #[.int .i64 a1_0, .int .i64 a1_1]] (h := ?_)
       with_reducible refine (galloonref03_distance.calls ((rd_T23 t646 x7_1).f0) ((rd_T23 t646 x7_1).f1) a1_0 a1_1 t652 _ A15.out).mono ?_
       rintro e w39 ⟨rfl, hb⟩
       have HS4_ := cS hHeld.2.2.2.2.1 hb
       have HS5_ := cS hHeld.2.2.2.2.2 hb
       refine ⟨_, rfl, ?_⟩
       replace HO_5 := rB HO_5 hb
       replace BK644 := kB BK644 hb
       replace BK645 := kB BK645 hb
       replace BK650 := kB BK650 hb
       replace HB := bS HB hb
       (try clear hb)
       (try clear hb2)
       (try clear hk)
       (try clear hi)
       refine hK.out _ _ ⟨(blk_cell BK644.out 0).trans rfl, (blk_cell BK644.out 1).trans rfl, (blk_cell BK650.out 0).trans rfl, (blk_cell BK650.out 1).trans rfl, HS4_, HS5_⟩ (fun hHeld => ?_)
       clear hK K
       refine norm_ (a' := ?_) ?_ ?_
       rotate_left
       ·show Act.put _ (some 26) _ = _
        simp only [Act.put, List.setIfInBounds_toArray, List.set_cons_zero, List.set_cons_succ, i64_w, i32_w]
        rfl
       refine pk HT_ 10 511 8 29 (h := ?_)
       refine pk HT_ 10 0x3ff 9 8 (h := ?_)
       refine done_ (done_of HT_.out (by kernel_rfl)) ?_
       try go_wp2
       replace HO_5 := Aside0.mk (Kd.R_drew HO_5.out)
       replace BK644 := Aside0.mk (blk_drew BK644.out)
       replace BK645 := Aside0.mk (blk_drew BK645.out)
       replace BK650 := Aside0.mk (blk_drew BK650.out)
       replace HB := Aside0.mk (below_drew1 HB.out)
       have p654 : 0 ≤ (x7_1 : Int) := oD
       have q654 : x7_1 < (t646.length : Int) := oD
       obtain ⟨ad654, e654, hx654_0, hx654_1⟩ := at_T23 (Kd.R_reads' HO_5.out).2.2 x7_1 p654 q654
       obtain rfl : ad649 = ad654 := (by injection e654)
       replace p654 := eq_true p654
       replace q654 := eq_true q654
       refine start_ (n := 10) (S := fun w' => w'.cell? ⟨gb650, 0, none⟩ = some (.int .i64 x651000_1) ∧ w'.cell? ⟨gb650, 1, none⟩ = some (.int .i64 x651001_1) ∧ w'.cell? ⟨gb644, 0, none⟩ = some (.int .i64 a1_0) ∧ w'.cell? ⟨gb644, 1, none⟩ = some (.int .i64 a1_1) ∧ w'.cell? (ad649.add ((x7_1).toNat * 2)) = some (.int .i64 ((rd_T23 t646 x7_1).f0)) ∧ w'.cell? ⟨(ad649.add ((x7_1).toNat * 2)).block, (ad649.add ((x7_1).toNat * 2)).off + 1, none⟩ = some (.int .i64 ((rd_T23 t646 x7_1).f1))) (ds := []) (lb 10 0) (by kernel_rfl) rfl (by kernel_rfl) ⟨(blk_cell BK650.out 0).trans rfl, (blk_cell BK650.out 1).trans rfl, (blk_cell BK644.out 0).trans rfl, (blk_cell BK644.out 1).trans rfl, hx654_0, hx654_1⟩ (fun hHeld => ?_); refine with_tabW galloonref03_Nearest.tab7 galloonref03_Nearest.bits7 (fun HT_ HW_ => ?_)
       generalize w39.drew = w40 at HO_5 BK644 BK645 BK650 HB hx654_0 hx654_1 hHeld ⊢
       refine pk HT_ 10 8 3 33 (h := ?_)
       refine pk HT_ 10 24 4 34 (h := ?_)
       refine pk HT_ 10 56 5 35 (h := ?_)
       refine pk HT_ 10 120 6 36 (h := ?_)
       refine tk6 HT_ HW_ hHeld 10 121 0 30 (h := ?_)
       refine tk6 HT_ HW_ hHeld 10 123 1 31 (h := ?_)
       refine tk6 HT_ HW_ hHeld 10 251 7 37 (h := ?_)
       refine one_ (i := 2) (N := some 32) (lb 10 255) rfl rfl (one_of HT_.out (by kernel_rfl)) (by decide) (fun K hK => ?_)
       refine gS Try.func82 #[.agg #[.int .i64 x651000_1, .int .i64 x651001_1], .agg #[.int .i64 a1_0, .int .i64 a1_1]] (h := ?_)
       with_reducible refine (galloonref03_distance.calls x651000_1 x651001_1 a1_0 a1_1 t653 _ A16.out).mono ?_
       rintro e w41 ⟨rfl, hb⟩
       have HS4_ := cS hHeld.2.2.2.2.1 hb
       have HS5_ := cS hHeld.2.2.2.2.2 hb
       refine ⟨_, rfl, ?_⟩
       replace HO_5 := rB HO_5 hb
       replace BK644 := kB BK644 hb
       replace BK645 := kB BK645 hb
       replace BK650 := kB BK650 hb
       replace HB := bS HB hb
       (try clear hb)
       (try clear hb2)
       (try clear hk)
       (try clear hi)
       refine hK.out _ _ ⟨(blk_cell BK650.out 0).trans rfl, (blk_cell BK650.out 1).trans rfl, (blk_cell BK644.out 0).trans rfl, (blk_cell BK644.out 1).trans rfl, HS4_, HS5_⟩ (fun hHeld => ?_)
       clear hK K
       refine norm_ (a' := ?_) ?_ ?_
       rotate_left
       ·show Act.put _ (some 32) _ = _
        simp only [Act.put, List.setIfInBounds_toArray, List.set_cons_zero, List.set_cons_succ, i64_w, i32_w]
        rfl
       refine pk HT_ 10 511 8 38 (h := ?_)
       refine pk HT_ 10 0x3ff 9 9 (h := ?_)
       refine done_ (done_of HT_.out (by kernel_rfl)) ?_
       try go_wp2
       replace HO_5 := Aside0.mk (Kd.R_drew HO_5.out)
       replace BK644 := Aside0.mk (blk_drew BK644.out)
       replace BK645 := Aside0.mk (blk_drew BK645.out)
       replace BK650 := Aside0.mk (blk_drew BK650.out)
       replace HB := Aside0.mk (below_drew1 HB.out)
       have p656 : 0 ≤ (x7_1 : Int) := oD
       have q656 : x7_1 < (t646.length : Int) := oD
       obtain ⟨ad656, e656, hx656_0, hx656_1⟩ := at_T23 (Kd.R_reads' HO_5.out).2.2 x7_1 p656 q656
       obtain rfl : ad649 = ad656 := (by injection e656)
       replace p656 := eq_true p656
       replace q656 := eq_true q656
       refine start_ (n := 16) (S := fun w' => w'.cell? ⟨gb650, 0, none⟩ = some (.int .i64 x651000_1) ∧ w'.cell? ⟨gb650, 1, none⟩ = some (.int .i64 x651001_1) ∧ w'.cell? (ad649.add ((x7_1).toNat * 2)) = some (.int .i64 ((rd_T23 t646 x7_1).f0)) ∧ w'.cell? ⟨(ad649.add ((x7_1).toNat * 2)).block, (ad649.add ((x7_1).toNat * 2)).off + 1, none⟩ = some (.int .i64 ((rd_T23 t646 x7_1).f1))) (ds := []) (lb 16 0) (by kernel_rfl) rfl (by kernel_rfl) ⟨(blk_cell BK650.out 0).trans rfl, (blk_cell BK650.out 1).trans rfl, hx656_0, hx656_1⟩ (fun hHeld => ?_); refine with_tabW galloonref03_Nearest.tab8 galloonref03_Nearest.bits8 (fun HT_ HW_ => ?_)
       generalize w41.drew = w42 at HO_5 BK644 BK645 BK650 HB hx656_0 hx656_1 hHeld ⊢
       refine pk HT_ 16 1 0 39 (h := ?_)
       refine pk HT_ 16 3 1 40 (h := ?_)
       refine pk HT_ 16 7 2 41 (h := ?_)
       refine pk HT_ 16 15 3 42 (h := ?_)
       refine pk HT_ 16 31 4 43 (h := ?_)
       refine pk HT_ 16 63 5 44 (h := ?_)
       refine pk HT_ 16 127 6 45 (h := ?_)
       refine pk HT_ 16 255 7 46 (h := ?_)
       refine pk HT_ 16 511 8 47 (h := ?_)
       refine pk HT_ 16 0x3ff 9 48 (h := ?_)
       refine pk HT_ 16 0x7ff 10 49 (h := ?_)
       refine tk4 HT_ HW_ hHeld 16 0xfff 11 50 (h := ?_)
       refine tk4 HT_ HW_ hHeld 16 0x1fff 12 51 (h := ?_)
       refine one_ (i := 13) (N := some 52) (lb 16 0x3fff) rfl rfl (one_of HT_.out (by kernel_rfl)) (by decide) (fun K hK => ?_)
       refine gS Try.func31 #[.agg #[.int .i64 ((rd_T23 t646 x7_1).f0), .int .i64 ((rd_T23 t646 x7_1).f1)], .agg #[.int .i64 x651000_1, .int .i64 x651001_1]] (h := ?_)
       with_reducible refine (galloonref03_Simpler.calls ((rd_T23 t646 x7_1).f0) ((rd_T23 t646 x7_1).f1) x651000_1 x651001_1 false _ A27.out).mono ?_
       rintro e w43 ⟨rfl, hb⟩
       have HS2_ := cS hHeld.2.2.1 hb
       have HS3_ := cS hHeld.2.2.2 hb
       refine ⟨_, rfl, ?_⟩
       replace HO_5 := rB HO_5 hb
       replace BK644 := kB BK644 hb
       replace BK645 := kB BK645 hb
       replace BK650 := kB BK650 hb
       replace HB := bS HB hb
       (try clear hb)
       (try clear hb2)
       (try clear hk)
       (try clear hi)
       refine hK.out _ _ ⟨(blk_cell BK650.out 0).trans rfl, (blk_cell BK650.out 1).trans rfl, HS2_, HS3_⟩ (fun hHeld => ?_)
       clear hK K
       refine norm_ (a' := ?_) ?_ ?_
       rotate_left
       ·show Act.put _ (some 52) _ = _
        simp only [Act.put, List.setIfInBounds_toArray, List.set_cons_zero, List.set_cons_succ, i64_w, i32_w]
        rfl
       refine pk HT_ 16 0x7fff 14 53 (h := ?_)
       refine pk HT_ 16 0xffff 15 54 (h := ?_)
       refine done_ (done_of HT_.out (by kernel_rfl)) ?_
       try go_wp2
       go_roundg k1
       case measure => have := HK1.out; omega
       case rel => exact ⟨(wrap64 (x7_1 + 1)), (x651000_1), (x651001_1), (by first | rfl | (simp; done) | (simp [*]; done)), H', ⟨by have := HK1.out; omega⟩, ⟨by (with_reducible repeat (first | apply Kd.R_alloc | apply Kd.R_drewN | apply Kd.R_drew)); exact HO_5.out⟩, kA BK644, kA BK645, kA BK650, bA HB⟩
     ·rw [if_neg c26] at H
      have c26b0 : ((wrap64 (t652 * x651001_1)) == (wrap64 (t653 * ((rd_T23 t646 x7_1).f1)))) = false := beq_eq_false_iff_ne.mpr c26
      have c26b1 : ((wrap64 (t652 * x651001_1)) != (wrap64 (t653 * ((rd_T23 t646 x7_1).f1)))) = true := bne_iff_ne.mpr c26
      have H' := Aside0.mk H
      clear H
      try go_wp2
      replace HO_5 := Aside0.mk (Kd.R_drew HO_5.out)
      replace BK644 := Aside0.mk (blk_drew BK644.out)
      replace BK645 := Aside0.mk (blk_drew BK645.out)
      replace BK650 := Aside0.mk (blk_drew BK650.out)
      replace HB := Aside0.mk (below_drew1 HB.out)
      have p651 : 0 ≤ (x7_1 : Int) := oD
      have q651 : x7_1 < (t646.length : Int) := oD
      obtain ⟨ad651, e651, hx651_0, hx651_1⟩ := at_T23 (Kd.R_reads' HO_5.out).2.2 x7_1 p651 q651
      obtain rfl : ad649 = ad651 := (by injection e651)
      replace p651 := eq_true p651
      replace q651 := eq_true q651
      refine start_ (n := 10) (S := fun w' => w'.cell? ⟨gb644, 0, none⟩ = some (.int .i64 a1_0) ∧ w'.cell? ⟨gb644, 1, none⟩ = some (.int .i64 a1_1) ∧ w'.cell? ⟨gb650, 0, none⟩ = some (.int .i64 x651000_1) ∧ w'.cell? ⟨gb650, 1, none⟩ = some (.int .i64 x651001_1) ∧ w'.cell? (ad649.add ((x7_1).toNat * 2)) = some (.int .i64 ((rd_T23 t646 x7_1).f0)) ∧ w'.cell? ⟨(ad649.add ((x7_1).toNat * 2)).block, (ad649.add ((x7_1).toNat * 2)).off + 1, none⟩ = some (.int .i64 ((rd_T23 t646 x7_1).f1))) (ds := []) (lb 10 0) (by kernel_rfl) rfl (by kernel_rfl) ⟨(blk_cell BK644.out 0).trans rfl, (blk_cell BK644.out 1).trans rfl, (blk_cell BK650.out 0).trans rfl, (blk_cell BK650.out 1).trans rfl, hx651_0, hx651_1⟩ (fun hHeld => ?_); refine with_tabW galloonref03_Nearest.tab6 galloonref03_Nearest.bits6 (fun HT_ HW_ => ?_)
      generalize wr.drew = w44 at HO_5 BK644 BK645 BK650 HB hx651_0 hx651_1 hHeld ⊢
      refine pk HT_ 10 1 0 21 (h := ?_)
      refine pk HT_ 10 3 1 22 (h := ?_)
      refine pk HT_ 10 7 2 23 (h := ?_)
      refine pk HT_ 10 71 6 27 (h := ?_)
      refine tk6 HT_ HW_ hHeld 10 79 3 24 (h := ?_)
      refine tk6 HT_ HW_ hHeld 10 95 4 25 (h := ?_)
      refine tk6 HT_ HW_ hHeld 10 223 7 28 (h := ?_)
      refine one_ (i := 5) (N := some 26) (lb 10 255) rfl rfl (one_of HT_.out (by kernel_rfl)) (by decide) (fun K hK => ?_)
      refine gS Try.func82 #[.agg #[.int .i64 ((rd_T23 t646 x7_1).f0), .int .i64 ((rd_T23 t646 x7_1).f1)], .agg #[.int .i64 a1_0, .int .i64 a1_1]] (h := ?_)
      with_reducible refine (galloonref03_distance.calls ((rd_T23 t646 x7_1).f0) ((rd_T23 t646 x7_1).f1) a1_0 a1_1 t652 _ A15.out).mono ?_
      rintro e w45 ⟨rfl, hb⟩
      have HS4_ := cS hHeld.2.2.2.2.1 hb
      have HS5_ := cS hHeld.2.2.2.2.2 hb
      refine ⟨_, rfl, ?_⟩
      replace HO_5 := rB HO_5 hb
      replace BK644 := kB BK644 hb
      replace BK645 := kB BK645 hb
      replace BK650 := kB BK650 hb
      replace HB := bS HB hb
      (try clear hb)
      (try clear hb2)
      (try clear hk)
      (try clear hi)
      refine hK.out _ _ ⟨(blk_cell BK644.out 0).trans rfl, (blk_cell BK644.out 1).trans rfl, (blk_cell BK650.out 0).trans rfl, (blk_cell BK650.out 1).trans rfl, HS4_, HS5_⟩ (fun hHeld => ?_)
      clear hK K
      refine norm_ (a' := ?_) ?_ ?_
      rotate_left
      ·show Act.put _ (some 26) _ = _
       simp only [Act.put, List.setIfInBounds_toArray, List.set_cons_zero, List.set_cons_succ, i64_w, i32_w]
       rfl
      refine pk HT_ 10 511 8 29 (h := ?_)
      refine pk HT_ 10 0x3ff 9 8 (h := ?_)
      refine done_ (done_of HT_.out (by kernel_rfl)) ?_
      try go_wp2
      replace HO_5 := Aside0.mk (Kd.R_drew HO_5.out)
      replace BK644 := Aside0.mk (blk_drew BK644.out)
      replace BK645 := Aside0.mk (blk_drew BK645.out)
      replace BK650 := Aside0.mk (blk_drew BK650.out)
      replace HB := Aside0.mk (below_drew1 HB.out)
      have p654 : 0 ≤ (x7_1 : Int) := oD
      have q654 : x7_1 < (t646.length : Int) := oD
      obtain ⟨ad654, e654, hx654_0, hx654_1⟩ := at_T23 (Kd.R_reads' HO_5.out).2.2 x7_1 p654 q654
      obtain rfl : ad649 = ad654 := (by injection e654)
      replace p654 := eq_true p654
      replace q654 := eq_true q654
      refine start_ (n := 10) (S := fun w' => w'.cell? ⟨gb650, 0, none⟩ = some (.int .i64 x651000_1) ∧ w'.cell? ⟨gb650, 1, none⟩ = some (.int .i64 x651001_1) ∧ w'.cell? ⟨gb644, 0, none⟩ = some (.int .i64 a1_0) ∧ w'.cell? ⟨gb644, 1, none⟩ = some (.int .i64 a1_1) ∧ w'.cell? (ad649.add ((x7_1).toNat * 2)) = some (.int .i64 ((rd_T23 t646 x7_1).f0)) ∧ w'.cell? ⟨(ad649.add ((x7_1).toNat * 2)).block, (ad649.add ((x7_1).toNat * 2)).off + 1, none⟩ = some (.int .i64 ((rd_T23 t646 x7_1).f1))) (ds := []) (lb 10 0) (by kernel_rfl) rfl (by kernel_rfl) ⟨(blk_cell BK650.out 0).trans rfl, (blk_cell BK650.out 1).trans rfl, (blk_cell BK644.out 0).trans rfl, (blk_cell BK644.out 1).trans rfl, hx654_0, hx654_1⟩ (fun hHeld => ?_); refine with_tabW galloonref03_Nearest.tab7 galloonref03_Nearest.bits7 (fun HT_ HW_ => ?_)
      generalize w45.drew = w46 at HO_5 BK644 BK645 BK650 HB hx654_0 hx654_1 hHeld ⊢
      refine pk HT_ 10 8 3 33 (h := ?_)
      refine pk HT_ 10 24 4 34 (h := ?_)
      refine pk HT_ 10 56 5 35 (h := ?_)
      refine pk HT_ 10 120 6 36 (h := ?_)
      refine tk6 HT_ HW_ hHeld 10 121 0 30 (h := ?_)
      refine tk6 HT_ HW_ hHeld 10 123 1 31 (h := ?_)
      refine tk6 HT_ HW_ hHeld 10 251 7 37 (h := ?_)
      refine one_ (i := 2) (N := some 32) (lb 10 255) rfl rfl (one_of HT_.out (by kernel_rfl)) (by decide) (fun K hK => ?_)
      refine gS Try.func82 #[.agg #[.int .i64 x651000_1, .int .i64 x651001_1], .agg #[.int .i64 a1_0, .int .i64 a1_1]] (h := ?_)
      with_reducible refine (galloonref03_distance.calls x651000_1 x651001_1 a1_0 a1_1 t653 _ A16.out).mono ?_
      rintro e w47 ⟨rfl, hb⟩
      have HS4_ := cS hHeld.2.2.2.2.1 hb
      have HS5_ := cS hHeld.2.2.2.2.2 hb
      refine ⟨_, rfl, ?_⟩
      replace HO_5 := rB HO_5 hb
      replace BK644 := kB BK644 hb
      replace BK645 := kB BK645 hb
      replace BK650 := kB BK650 hb
      replace HB := bS HB hb
      (try clear hb)
      (try clear hb2)
      (try clear hk)
      (try clear hi)
      refine hK.out _ _ ⟨(blk_cell BK650.out 0).trans rfl, (blk_cell BK650.out 1).trans rfl, (blk_cell BK644.out 0).trans rfl, (blk_cell BK644.out 1).trans rfl, HS4_, HS5_⟩ (fun hHeld => ?_)
      clear hK K
      refine norm_ (a' := ?_) ?_ ?_
      rotate_left
      ·show Act.put _ (some 32) _ = _
       simp only [Act.put, List.setIfInBounds_toArray, List.set_cons_zero, List.set_cons_succ, i64_w, i32_w]
       rfl
      refine pk HT_ 10 511 8 38 (h := ?_)
      refine pk HT_ 10 0x3ff 9 9 (h := ?_)
      refine done_ (done_of HT_.out (by kernel_rfl)) ?_
      try go_wp2
      replace HO_5 := Aside0.mk (Kd.R_drew HO_5.out)
      replace BK644 := Aside0.mk (blk_drew BK644.out)
      replace BK645 := Aside0.mk (blk_drew BK645.out)
      replace BK650 := Aside0.mk (blk_drew BK650.out)
      replace HB := Aside0.mk (below_drew1 HB.out)
      refine start_ (n := 16) (S := fun w' => True) (ds := []) (lb 16 0) (by kernel_rfl) rfl rfl trivial (fun hHeld => ?_); refine with_tabW galloonref03_Nearest.tab8 galloonref03_Nearest.bits8 (fun HT_ HW_ => ?_)
      generalize w47.drew = w48 at HO_5 BK644 BK645 BK650 HB hHeld ⊢
      refine pk HT_ 16 1 0 39 (h := ?_)
      refine pk HT_ 16 3 1 40 (h := ?_)
      refine pk HT_ 16 7 2 41 (h := ?_)
      refine pk HT_ 16 15 3 42 (h := ?_)
      refine pk HT_ 16 31 4 43 (h := ?_)
      refine pk HT_ 16 63 5 44 (h := ?_)
      refine pk HT_ 16 127 6 45 (h := ?_)
      refine pk HT_ 16 255 7 46 (h := ?_)
      refine pu HT_ 16 511 8 47 (h := ?_)
      refine pu HT_ 16 0x3ff 9 48 (h := ?_)
      refine pu HT_ 16 0x7ff 10 49 (h := ?_)
      refine pu HT_ 16 0xfff 11 50 (h := ?_)
      refine pu HT_ 16 0x1fff 12 51 (h := ?_)
      refine pu HT_ 16 0x3fff 13 52 (h := ?_)
      refine pk HT_ 16 0x7fff 14 53 (h := ?_)
      refine pk HT_ 16 0xffff 15 54 (h := ?_)
      refine done_ (done_of HT_.out (by kernel_rfl)) ?_
      try go_wp2
      go_roundg k1
      case measure => have := HK1.out; omega
      case rel => exact ⟨(wrap64 (x7_1 + 1)), (x651000_1), (x651001_1), (by first | rfl | (simp; done) | (simp [*]; done)), H', ⟨by have := HK1.out; omega⟩, ⟨by (with_reducible repeat (first | apply Kd.R_alloc | apply Kd.R_drewN | apply Kd.R_drew)); exact HO_5.out⟩, kA BK644, kA BK645, kA BK650, bA HB⟩
   ·rw [if_neg c13] at H
    have c13b0 : decide (x7_1 < (t646.length : Int)) = false := decide_eq_false c13
    clear c13
    simp only [Option.some.injEq, Prod.mk.injEq] at H
    obtain ⟨rfl, rfl⟩ := H
    have hnb49 := NB650_644.out
    have hnc49 := NB644_650.out
    have hnb50 := NB650_645.out
    have hnc50 := NB645_650.out
    obtain ⟨hcz51_0, hcz51_1, hfz51_0, hfz51_1⟩ := cQ BK650
    have hnb52 := NB645_644.out
    have hnc52 := NB644_645.out
    obtain ⟨hcz53_0, hcz53_1, hfz53_0, hfz53_1⟩ := cQ BK645
    go_wp2
    refine bodyPost_ret (results_cell_row rfl _ _ gb645 23 #[.int .i64 x651000_1, .int .i64 x651001_1] (0, 0) _ rfl (by (with_reducible repeat (first | refine blk_drewN ?_ _ | refine blk_drew ?_ | refine blk_alloc ?_ _)); refine blk_put (cs := #[.int .i64 x651000_1, .int .i64 0]) ?_ 1 _ rfl; (with_reducible repeat (first | refine blk_drewN ?_ _ | refine blk_drew ?_ | refine blk_alloc ?_ _)); refine blk_put (cs := #[.int .i64 0, .int .i64 0]) ?_ 0 _ rfl; (with_reducible repeat (first | refine blk_drewN ?_ _ | refine blk_drew ?_ | refine blk_alloc ?_ _)); exact BK645.out) Try.underlying23 rfl (by kernel_rfl)) rfl ?_
    exact ⟨by first | rfl | (simp [errW_none, errW_some] <;> rfl) | (simp [*, errW_none, errW_some] <;> rfl), bB HB⟩
end Go.Proofs.Ythjodhmkmjabbaa.PY
