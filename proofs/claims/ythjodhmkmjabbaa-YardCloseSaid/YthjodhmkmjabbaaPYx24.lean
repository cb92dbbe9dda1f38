-- Made by the session's own driver (wip/tools/p2.py) out of the translation; Lean checks it.
import Derived.Test.YthjodhmkmjabbaaSq
import Derived.Test.YthjodhmkmjabbaaPYx0
import Derived.Test.YthjodhmkmjabbaaPYx2
namespace Go.Proofs.Ythjodhmkmjabbaa.PY
open Go.RowKit Go.Proofs.YthjodhmkmjabbaaW.PrintWords Go.Proofs.YthjodhmkmjabbaaW.PrintLast Go.Proofs.YthjodhmkmjabbaaW.PrintMore
attribute [local go_sem] max2_int min2_int max_two min_two max_three min_three max_four min_four   -- for this text's walks alone
set_option linter.unusedVariables false
set_option linter.unusedSimpArgs false
/-! ### yard_frac: function 88 -/
def yard_frac.f (k : Nat) (a0 : Int) (a1 : Int) : Option (Int × Int) := (yard_gcd.f k a0 a1).bind fun t335 => (if t335 = 0 then (none) else (some (wrap64 (Int.tdiv a0 t335), wrap64 (Int.tdiv a1 t335))))
theorem yard_frac.mono : ∀ a0 a1 k, LeO (yard_frac.f k a0 a1) (yard_frac.f (k + 1) a0 a1) := by
 intro a0 a1 k
 unfold yard_frac.f
 repeat' first
  | (with_reducible exact yard_gcd.mono _ _ _)
  | (with_reducible exact LeO.refl _)
  | (with_reducible exact LeO.none _)
  | (with_reducible refine LeO.ite ?_ ?_)
  | (with_reducible refine LeO.bind ?_ (fun _ => ?_))
  | exact yard_gcd.mono _ _ _
  | exact LeO.none _
  | refine LeO.ite ?_ ?_
  | refine LeO.bind ?_ (fun _ => ?_)
def yard_frac.T2 : Bool × List (List Nat × List Nat) := (true, [([], []), ([], []), ([0, 1], [0, 1]), ([], []), ([], []), ([3, 4], [3, 4]), ([2, 5], [2, 5]), ([6, 0, 1, 2, 3, 4, 5, 6], [6])])
def yard_frac.B2 : List Nat := [0, 0, 3, 0, 0, 24, 63, 127]
theorem yard_frac.tab2 : rtab .any (opsOf Try.f88 2) = yard_frac.T2 := by kernel_rfl
theorem yard_frac.bits2 : waitsOk yard_frac.T2.2 yard_frac.B2 = true := by kernel_rfl
set_option maxHeartbeats 8000000 in
set_option maxRecDepth 100000 in
theorem yard_frac.calls (k : Nat) (a0 : Int) (a1 : Int) (r1 : Int) (r2 : Int) (w : World) (h : yard_frac.f k a0 a1 = some (r1, r2)) :
 Calls Try.prog 88 #[.int .i64 a0, .int .i64 a1] w fun e w' => e = .returned (.agg #[.int .i64 r1, .int .i64 r2]) ∧ Below w.heap.size w w' := by
 have hu23 := Try.underlying23
 have HB := Aside0.mk (Below.refl w.heap.size w)
 have H : ((yard_gcd.f k a0 a1).bind fun t335 => (if t335 = 0 then (none) else (some (wrap64 (Int.tdiv a0 t335), wrap64 (Int.tdiv a1 t335))))) = some (r1, r2) := h
 clear h
 replace H := Option.bind_eq_some_iff.mp H
 obtain ⟨t335, A30, H⟩ := H
 replace H : (if t335 = 0 then (none) else (some (wrap64 (Int.tdiv a0 t335), wrap64 (Int.tdiv a1 t335)))) = some (r1, r2) := H
 have A3 := Aside0.mk A30
 clear A30
 by_cases c4 : t335 = 0
 ·rw [if_pos c4] at H
  exact absurd H (by simp)
 ·rw [if_neg c4] at H
  have c4b0 : (t335 == 0) = false := beq_eq_false_iff_ne.mpr c4
  have c4b1 : (t335 != 0) = true := bne_iff_ne.mpr c4
  simp only [Option.some.injEq, Prod.mk.injEq] at H
  obtain ⟨rfl, rfl⟩ := H
  go_enter Try.func88, Try.ntmps88
  try go_wp2_with (first | ((with_reducible refine gate_dst (N := 4) rfl ?_); refine box_event ?hg (N := 4) ?hd (cs := #[.int .i64 0, .int .i64 0]) (t := 23) ?hr ?_; (case hd => rfl); (case hg => rfl); (case hr => first | (go_simp; done) | (go_simp; rfl)); intro gb334 hg w5 hbox hb; have BK334 := Aside0.mk (hbox); have GW334 := bG HB hg; have GE334 := bG HB hg; replace HB := bS HB hb; clear hb hbox hg) | ((with_reducible refine gate_callee (f := 65) rfl ?_); refine gL 8 Try.func65 #[.int .i64 a0, .int .i64 a1] (h := ?_); (with_reducible refine (yard_gcd.calls k a0 a1 t335 _ A3.out).mono ?_); rintro e w' ⟨rfl, ⟨nd, rfl⟩⟩; refine ⟨_, rfl, ?_⟩; (try (rw [drewN_self w5]; generalize hq_ : World.drewN w5 _ = w5; have n0_ : Aside0 (w5.heap[gb334]? = some (.cells #[.int .i64 0, .int .i64 0] 23 (0, 0))) := ⟨by rw [← hq_]; exact (kb BK334)⟩; have n1_ : Aside0 (Below w.heap.size w w5) := ⟨by rw [← hq_]; exact (bB HB)⟩; clear BK334 HB hq_; have BK334 := n0_; have HB := n1_; clear n0_ n1_))))
  replace BK334 := Aside0.mk (blk_drew BK334.out)
  replace HB := Aside0.mk (below_drew1 HB.out)
  refine start_ (n := 8) (S := fun w' => True) (ds := []) (lb 8 0) (by kernel_rfl) rfl rfl trivial (fun hHeld => ?_); refine with_tabW yard_frac.tab2 yard_frac.bits2 (fun HT_ HW_ => ?_)
  generalize w5.drew = w6 at BK334 HB hHeld ⊢
  refine pk HT_ 8 1 0 9 (h := ?_)
  refine pk HT_ 8 3 1 10 (h := ?_)
  refine pk HT_ 8 7 2 11 (h := ?_)
  refine pk HT_ 8 15 3 12 (h := ?_)
  refine pk HT_ 8 31 4 13 (h := ?_)
  refine pk HT_ 8 63 5 14 (h := ?_)
  refine pk HT_ 8 127 6 15 (h := ?_)
  refine one_ (i := 7) (N := none) (lb 8 255) rfl rfl (one_of HT_.out (by kernel_rfl)) (by decide) (fun K hK => ?_)
  have hs7 : w6.cell? ⟨gb334, 0, none⟩ = some (.int .i64 0) := (blk_cell BK334.out 0).trans rfl
  have hfs7 := blk_frozen BK334.out 0
  have hs8 : w6.cell? ⟨gb334, 1, none⟩ = some (.int .i64 0) := (blk_cell BK334.out 1).trans rfl
  have hfs8 := blk_frozen BK334.out 1
  refine skip_ (w1 := ?_) (by rfl) rfl ?_ ?_
  rotate_left
  ·go_simp
   rfl
  refine hK.out _ _ trivial (fun hHeld => ?_)
  clear hK K
  refine done_ (done_of HT_.out (by kernel_rfl)) ?_
  try go_wp2
  refine bodyPost_ret (results_cell_row rfl _ _ gb334 23 #[.int .i64 (wrap64 (Int.tdiv a0 t335)), .int .i64 (wrap64 (Int.tdiv a1 t335))] (0, 0) _ rfl (by (with_reducible repeat (first | refine blk_drewN ?_ _ | refine blk_drew ?_ | refine blk_alloc ?_ _)); refine blk_put (cs := #[.int .i64 (wrap64 (Int.tdiv a0 t335)), .int .i64 0]) ?_ 1 _ rfl; (with_reducible repeat (first | refine blk_drewN ?_ _ | refine blk_drew ?_ | refine blk_alloc ?_ _)); refine blk_put (cs := #[.int .i64 0, .int .i64 0]) ?_ 0 _ rfl; (with_reducible repeat (first | refine blk_drewN ?_ _ | refine blk_drew ?_ | refine blk_alloc ?_ _)); exact BK334.out) Try.underlying23 rfl (by kernel_rfl)) rfl ?_
  exact ⟨by first | rfl | (simp [errW_none, errW_some] <;> rfl) | (simp [*, errW_none, errW_some] <;> rfl), bB HB⟩
/-! ### yard_next: function 75 -/
def yard_next.l0 : Nat → Int → Bool → Int → Int → Int → Int → Int → Option (Int × Int × Bool)
 | 0, _, _, _, _, _, _, _ => none
 | k + 1, x0, x7, x8, x337000, x337001, x339000, x339001 => if x8 ≤ x0 then (if x337001 = 0 then (none) else (if (wrap64 ((wrap64 (Int.tdiv (wrap64 (x8 * x337000)) x337001)) + 1)) ≤ x8 then ((yard_frac.f k (wrap64 ((wrap64 (Int.tdiv (wrap64 (x8 * x337000)) x337001)) + 1)) x8).bind fun bt339 => (if x7 = true then ((yard_less.f bt339.1 bt339.2 x339000 x339001).bind fun t342 => (if t342 = true then (yard_next.l0 k x0 true (wrap64 (x8 + 1)) x337000 x337001 bt339.1 bt339.2) else (yard_next.l0 k x0 x7 (wrap64 (x8 + 1)) x337000 x337001 x339000 x339001))) else (yard_next.l0 k x0 true (wrap64 (x8 + 1)) x337000 x337001 bt339.1 bt339.2))) else (yard_next.l0 k x0 x7 (wrap64 (x8 + 1)) x337000 x337001 x339000 x339001))) else (some (x339000, x339001, x7))
def yard_next.f (k : Nat) (a0 : Int) (a1_0 : Int) (a1_1 : Int) : Option (Int × Int × Bool) := yard_next.l0 k a0 false 1 a1_0 a1_1 0 0
theorem yard_next.mono_l : ∀ k, (∀ y0 y1 y2 y3 y4 y5 y6, LeO (yard_next.l0 k y0 y1 y2 y3 y4 y5 y6) (yard_next.l0 (k + 1) y0 y1 y2 y3 y4 y5 y6))
 | 0 => fun _ _ _ _ _ _ _ r h => by simp [yard_next.l0] at h
 | k + 1 => by
  have ih0 := yard_next.mono_l k
  ·intro y0 y1 y2 y3 y4 y5 y6
   unfold yard_next.l0
   repeat' first
   | (with_reducible exact ih0 _ _ _ _ _ _ _)
   | (with_reducible exact yard_frac.mono _ _ _)
   | (with_reducible exact LeO.refl _)
   | (with_reducible exact LeO.none _)
   | (with_reducible refine LeO.ite ?_ ?_)
   | (with_reducible refine LeO.bind ?_ (fun _ => ?_))
   | exact ih0 _ _ _ _ _ _ _
   | exact yard_frac.mono _ _ _
   | exact LeO.none _
   | refine LeO.ite ?_ ?_
   | refine LeO.bind ?_ (fun _ => ?_)
theorem yard_next.mono : ∀ a0 a1 a2 k, LeO (yard_next.f k a0 a1 a2) (yard_next.f (k + 1) a0 a1 a2) := by
 intro a0 a1 a2 k
 have ih0 := yard_next.mono_l k
 unfold yard_next.f
 repeat' first
  | (with_reducible exact ih0 _ _ _ _ _ _ _)
  | (with_reducible exact yard_frac.mono _ _ _)
  | (with_reducible exact LeO.refl _)
  | (with_reducible exact LeO.none _)
  | (with_reducible refine LeO.ite ?_ ?_)
  | (with_reducible refine LeO.bind ?_ (fun _ => ?_))
  | exact ih0 _ _ _ _ _ _ _
  | exact yard_frac.mono _ _ _
  | exact LeO.none _
  | refine LeO.ite ?_ ?_
  | refine LeO.bind ?_ (fun _ => ?_)
set_option maxHeartbeats 8000000 in
set_option maxRecDepth 100000 in
theorem yard_next.calls (k : Nat) (a0 : Int) (a1_0 : Int) (a1_1 : Int) (r1 : Int) (r2 : Int) (r3 : Bool) (w : World) (h : yard_next.f k a0 a1_0 a1_1 = some (r1, r2, r3)) :
 Calls Try.prog 75 #[.int .i64 a0, .agg #[.int .i64 a1_0, .int .i64 a1_1]] w fun e w' => e = .returned (.tuple #[.agg #[.int .i64 r1, .int .i64 r2], .bool r3]) ∧ Below w.heap.size w w' := by
 have hu23 := Try.underlying23
 have HB := Aside0.mk (Below.refl w.heap.size w)
 have H : (yard_next.l0 k a0 false 1 a1_0 a1_1 0 0) = some (r1, r2, r3) := h
 clear h
 have H' := Aside0.mk H
 clear H
 go_enter Try.func75, Try.ntmps75
 go_wp2_with (first | ((with_reducible refine gate_dst (N := 3) rfl ?_); refine box_event ?hg (N := 3) ?hd (cs := #[.int .i64 a1_0, .int .i64 a1_1]) (t := 23) ?hr ?_; (case hd => rfl); (case hg => rfl); (case hr => first | (go_simp; done) | (go_simp; rfl)); intro gb336 hg w3 hbox hb; have BK336 := Aside0.mk (hbox); have GW336 := bG HB hg; have GE336 := bG HB hg; replace HB := bS HB hb; clear hb hbox hg) | ((with_reducible refine gate_dst (N := 4) rfl ?_); refine box_event ?hg (N := 4) ?hd (cs := #[.int .i64 0, .int .i64 0]) (t := 23) ?hr ?_; (case hd => rfl); (case hg => rfl); (case hr => first | (go_simp; done) | (go_simp; rfl)); intro gb337 hg w4 hbox hb; have BK337 := Aside0.mk (hbox); have GW337 := bG HB hg; have GE337 := bG HB hg; replace HB := bS HB hb; have NB336_337 := nL BK336 hg; have NB337_336 := nG BK336 hg; replace BK336 := kB BK336 hb; clear hb hbox hg) | ((with_reducible refine gate_dst (N := 6) rfl ?_); refine box_event ?hg (N := 6) ?hd (cs := #[.int .i64 0, .int .i64 0]) (t := 23) ?hr ?_; (case hd => rfl); (case hg => rfl); (case hr => first | (go_simp; done) | (go_simp; rfl)); intro gb338 hg w5 hbox hb; have BK338 := Aside0.mk (hbox); have GW338 := bG HB hg; have GE338 := bG HB hg; replace HB := bS HB hb; have NB336_338 := nL BK336 hg; have NB338_336 := nG BK336 hg; replace BK336 := kB BK336 hb; have NB337_338 := nL BK337 hg; have NB338_337 := nG BK337 hg; replace BK337 := kB BK337 hb; clear hb hbox hg; have hnb6 := NB338_336.out; have hnc6 := NB336_338.out; have hnb7 := NB338_337.out; have hnc7 := NB337_338.out; obtain ⟨hcz8_0, hcz8_1, hfz8_0, hfz8_1⟩ := cQ BK338))
 go_loopg [7, 8] k (fun kq v7 v8 w' => ∃ (x7_1 : Bool) (x8_1 : Int) (x339000_1 : Int) (x339001_1 : Int), v7 = .bool x7_1 ∧ v8 = .int .i64 x8_1 ∧ Aside0 (yard_next.l0 kq a0 x7_1 x8_1 a1_0 a1_1 x339000_1 x339001_1 = some (r1, r2, r3)) ∧ Aside0 (kq ≤ k) ∧ Aside0 (w'.heap[gb336]? = some (.cells #[.int .i64 a1_0, .int .i64 a1_1] 23 (0, 0))) ∧ Aside0 (w'.heap[gb337]? = some (.cells #[.int .i64 0, .int .i64 0] 23 (0, 0))) ∧ Aside0 (w'.heap[gb338]? = some (.cells #[.int .i64 x339000_1, .int .i64 x339001_1] 23 (0, 0))) ∧ Aside0 (Below w.heap.size w w'))
 case atStart => exact ⟨(false), (1), (0), (0), (by first | rfl | (simp; done) | (simp [*]; done)), (by first | rfl | (simp; done) | (simp [*]; done)), H', ⟨Nat.le_refl _⟩, kG BK336, kG BK337, ⟨by (with_reducible repeat (first | refine blk_drewN ?_ _ | refine blk_drew ?_ | refine blk_alloc ?_ _)); refine blk_put (cs := #[.int .i64 0, .int .i64 0]) ?_ 1 _ rfl; (with_reducible repeat (first | refine blk_drewN ?_ _ | refine blk_drew ?_ | refine blk_alloc ?_ _)); refine blk_put (cs := #[.int .i64 0, .int .i64 0]) ?_ 0 _ rfl; (with_reducible repeat (first | refine blk_drewN ?_ _ | refine blk_drew ?_ | refine blk_alloc ?_ _)); exact BK338.out⟩, bA HB⟩
 case round =>
  clear H'
  try clear p2
  obtain ⟨x7_1, x8_1, x339000_1, x339001_1, rfl, rfl, HA, HK1, BK336, BK337, BK338, HB⟩ := hrel
  cases gk with
  | zero => exact absurd HA.out (by simp [yard_next.l0])
  | succ k1 =>
   have H := HA.out
   clear HA
   simp only [yard_next.l0] at H
   by_cases c9 : x8_1 ≤ a0
   ·rw [if_pos c9] at H
    have c9b0 : decide (x8_1 ≤ a0) = true := decide_eq_true c9
    clear c9
    by_cases c10 : a1_1 = 0
    ·rw [if_pos c10] at H
     exact absurd H (by simp)
    ·rw [if_neg c10] at H
     have c10b0 : (a1_1 == 0) = false := beq_eq_false_iff_ne.mpr c10
     have c10b1 : (a1_1 != 0) = true := bne_iff_ne.mpr c10
     by_cases c11 : (wrap64 ((wrap64 (Int.tdiv (wrap64 (x8_1 * a1_0)) a1_1)) + 1)) ≤ x8_1
     ·rw [if_pos c11] at H
      have c11b0 : decide ((wrap64 ((wrap64 (Int.tdiv (wrap64 (x8_1 * a1_0)) a1_1)) + 1)) ≤ x8_1) = true := decide_eq_true c11
      clear c11
      replace H := Option.bind_eq_some_iff.mp H
      obtain ⟨⟨t339, t340⟩, A120, H⟩ := H
      replace H : (if x7_1 = true then ((yard_less.f t339 t340 x339000_1 x339001_1).bind fun t342 => (if t342 = true then (yard_next.l0 k1 a0 true (wrap64 (x8_1 + 1)) a1_0 a1_1 t339 t340) else (yard_next.l0 k1 a0 x7_1 (wrap64 (x8_1 + 1)) a1_0 a1_1 x339000_1 x339001_1))) else (yard_next.l0 k1 a0 true (wrap64 (x8_1 + 1)) a1_0 a1_1 t339 t340)) = some (r1, r2, r3) := H
      have A12 := Aside0.mk A120
      clear A120
      by_cases c13 : x7_1 = true
      ·subst c13
       have H1 : ((yard_less.f t339 t340 x339000_1 x339001_1).bind fun t342 => (if t342 = true then (yard_next.l0 k1 a0 true (wrap64 (x8_1 + 1)) a1_0 a1_1 t339 t340) else (yard_next.l0 k1 a0 true (wrap64 (x8_1 + 1)) a1_0 a1_1 x339000_1 x339001_1))) = some (r1, r2, r3) := by rw [if_pos rfl] at H; exact H
       clear H
       have H := H1
       clear H1
       replace H := Option.bind_eq_some_iff.mp H
       obtain ⟨t342, A140, H⟩ := H
       replace H : (if t342 = true then (yard_next.l0 k1 a0 true (wrap64 (x8_1 + 1)) a1_0 a1_1 t339 t340) else (yard_next.l0 k1 a0 true (wrap64 (x8_1 + 1)) a1_0 a1_1 x339000_1 x339001_1)) = some (r1, r2, r3) := H
       have A14 := Aside0.mk A140
       clear A140
       by_cases c15 : t342 = true
       ·subst c15
        have H1 : (yard_next.l0 k1 a0 true (wrap64 (x8_1 + 1)) a1_0 a1_1 t339 t340) = some (r1, r2, r3) := by rw [if_pos rfl] at H; exact H
        clear H
        have H := H1
        clear H1
        have H' := Aside0.mk H
        clear H
        have hnb16 := NB336_337.out
        have hnc16 := NB337_336.out
        have hnb17 := NB336_338.out
        have hnc17 := NB338_336.out
        obtain ⟨hcz18_0, hcz18_1, hfz18_0, hfz18_1⟩ := cQ BK336
        go_wp2_with (first | ((with_reducible refine gate_callee (f := 88) rfl ?_); refine gL 30 Try.func88 #[.int .i64 (wrap64 ((wrap64 (Int.tdiv (wrap64 (x8_1 * a1_0)) a1_1)) + 1)), .int .i64 x8_1] (h := ?_); (with_reducible refine (yard_frac.calls k1 (wrap64 ((wrap64 (Int.tdiv (wrap64 (x8_1 * a1_0)) a1_1)) + 1)) x8_1 t339 t340 _ A12.out).mono ?_); rintro e w19 ⟨rfl, hb⟩; refine ⟨_, rfl, ?_⟩; replace BK336 := kB BK336 hb; replace BK337 := kB BK337 hb; replace BK338 := kB BK338 hb; replace HB := bS HB hb; (try clear hb); (try clear hb2); (try clear hk); (try clear hi)) | ((with_reducible refine gate_dst (N := 10) rfl ?_); refine box_event ?hg (N := 10) ?hd (cs := #[.int .i64 0, .int .i64 0]) (t := 23) ?hr ?_; (case hd => rfl); (case hg => rfl); (case hr => first | (go_simp; done) | (go_simp; rfl)); intro gb341 hg w20 hbox hb; have BK341 := Aside0.mk (hbox); have GW341 := bG HB hg; have GE341 := bG HB hg; replace HB := bS HB hb; have NB336_341 := nL BK336 hg; have NB341_336 := nG BK336 hg; replace BK336 := kB BK336 hb; have NB337_341 := nL BK337 hg; have NB341_337 := nG BK337 hg; replace BK337 := kB BK337 hb; have NB338_341 := nL BK338 hg; have NB341_338 := nG BK338 hg; replace BK338 := kB BK338 hb; clear hb hbox hg; have hnb21 := NB341_336.out; have hnc21 := NB336_341.out; have hnb22 := NB341_337.out; have hnc22 := NB337_341.out; have hnb23 := NB341_338.out; have hnc23 := NB338_341.out; obtain ⟨hcz24_0, hcz24_1, hfz24_0, hfz24_1⟩ := cQ BK341; have hnb25 := NB338_337.out; have hnc25 := NB337_338.out; obtain ⟨hcz26_0, hcz26_1, hfz26_0, hfz26_1⟩ := cQ BK338) | (go_at_call 63; (with_reducible refine (yard_less.calls t339 t340 x339000_1 x339001_1 true _ A14.out).mono ?_); rintro e w27 ⟨rfl, hb⟩; replace BK336 := kF BK336 hb; replace BK337 := kF BK337 hb; replace BK338 := kF BK338 hb; replace BK341 := Aside0.mk (blk_below (g := gb341) (o := .cells #[.int .i64 t339, .int .i64 t340] 23 (0, 0)) (by (with_reducible repeat (first | refine blk_drewN ?_ _ | refine blk_drew ?_ | refine blk_alloc ?_ _)); refine blk_put (cs := #[.int .i64 t339, .int .i64 0]) ?_ 1 _ rfl; (with_reducible repeat (first | refine blk_drewN ?_ _ | refine blk_drew ?_ | refine blk_alloc ?_ _)); refine blk_put (cs := #[.int .i64 0, .int .i64 0]) ?_ 0 _ rfl; (with_reducible repeat (first | refine blk_drewN ?_ _ | refine blk_drew ?_ | refine blk_alloc ?_ _)); exact BK341.out) hb); replace HB := bS HB hb; (try clear hb); (try clear hb2); (try clear hk); (try clear hi); obtain ⟨hcz28_0, hcz28_1, hfz28_0, hfz28_1⟩ := cQ BK341; obtain ⟨hcz29_0, hcz29_1, hfz29_0, hfz29_1⟩ := cQ BK338))
        go_roundg k1
        case measure => have := HK1.out; omega
        case rel => exact ⟨(true), (wrap64 (x8_1 + 1)), (t339), (t340), (by first | rfl | (simp; done) | (simp [*]; done)), (by first | rfl | (simp; done) | (simp [*]; done)), H', ⟨by have := HK1.out; omega⟩, kG BK336, kG BK337, ⟨by (with_reducible repeat (first | refine blk_drewN ?_ _ | refine blk_drew ?_ | refine blk_alloc ?_ _)); refine blk_put (cs := #[.int .i64 t339, .int .i64 x339001_1]) ?_ 1 _ rfl; (with_reducible repeat (first | refine blk_drewN ?_ _ | refine blk_drew ?_ | refine blk_alloc ?_ _)); refine blk_put (cs := #[.int .i64 x339000_1, .int .i64 x339001_1]) ?_ 0 _ rfl; (with_reducible repeat (first | refine blk_drewN ?_ _ | refine blk_drew ?_ | refine blk_alloc ?_ _)); exact BK338.out⟩, bA HB⟩
       ·replace c15 := Bool.eq_false_iff.mpr c15
        subst c15
        have H1 : (yard_next.l0 k1 a0 true (wrap64 (x8_1 + 1)) a1_0 a1_1 x339000_1 x339001_1) = some (r1, r2, r3) := by rw [if_neg (show ¬ (false = true) by decide)] at H; exact H
        clear H
        have H := H1
        clear H1
        have H' := Aside0.mk H
        clear H
        have hnb30 := NB336_337.out
        have hnc30 := NB337_336.out
        have hnb31 := NB336_338.out
        have hnc31 := NB338_336.out
        obtain ⟨hcz32_0, hcz32_1, hfz32_0, hfz32_1⟩ := cQ BK336
        go_wp2_with (first | ((with_reducible refine gate_callee (f := 88) rfl ?_); refine gL 30 Try.func88 #[.int .i64 (wrap64 ((wrap64 (Int.tdiv (wrap64 (x8_1 * a1_0)) a1_1)) + 1)), .int .i64 x8_1] (h := ?_); (with_reducible refine (yard_frac.calls k1 (wrap64 ((wrap64 (Int.tdiv (wrap64 (x8_1 * a1_0)) a1_1)) + 1)) x8_1 t339 t340 _ A12.out).mono ?_); rintro e w33 ⟨rfl, hb⟩; refine ⟨_, rfl, ?_⟩; replace BK336 := kB BK336 hb; replace BK337 := kB BK337 hb; replace BK338 := kB BK338 hb; replace HB := bS HB hb; (try clear hb); (try clear hb2); (try clear hk); (try clear hi)) | ((with_reducible refine gate_dst (N := 10) rfl ?_); refine box_event ?hg (N := 10) ?hd (cs := #[.int .i64 0, .int .i64 0]) (t := 23) ?hr ?_; (case hd => rfl); (case hg => rfl); (case hr => first | (go_simp; done) | (go_simp; rfl)); intro gb341 hg w34 hbox hb; have BK341 := Aside0.mk (hbox); have GW341 := bG HB hg; have GE341 := bG HB hg; replace HB := bS HB hb; have NB336_341 := nL BK336 hg; have NB341_336 := nG BK336 hg; replace BK336 := kB BK336 hb; have NB337_341 := nL BK337 hg; have NB341_337 := nG BK337 hg; replace BK337 := kB BK337 hb; have NB338_341 := nL BK338 hg; have NB341_338 := nG BK338 hg; replace BK338 := kB BK338 hb; clear hb hbox hg; have hnb35 := NB341_336.out; have hnc35 := NB336_341.out; have hnb36 := NB341_337.out; have hnc36 := NB337_341.out; have hnb37 := NB341_338.out; have hnc37 := NB338_341.out; obtain ⟨hcz38_0, hcz38_1, hfz38_0, hfz38_1⟩ := cQ BK341; have hnb39 := NB338_337.out; have hnc39 := NB337_338.out; obtain ⟨hcz40_0, hcz40_1, hfz40_0, hfz40_1⟩ := cQ BK338) | (go_at_call 63; (with_reducible refine (yard_less.calls t339 t340 x339000_1 x339001_1 false _ A14.out).mono ?_); rintro e w41 ⟨rfl, hb⟩; replace BK336 := kF BK336 hb; replace BK337 := kF BK337 hb; replace BK338 := kF BK338 hb; replace BK341 := Aside0.mk (blk_below (g := gb341) (o := .cells #[.int .i64 t339, .int .i64 t340] 23 (0, 0)) (by (with_reducible repeat (first | refine blk_drewN ?_ _ | refine blk_drew ?_ | refine blk_alloc ?_ _)); refine blk_put (cs := #[.int .i64 t339, .int .i64 0]) ?_ 1 _ rfl; (with_reducible repeat (first | refine blk_drewN ?_ _ | refine blk_drew ?_ | refine blk_alloc ?_ _)); refine blk_put (cs := #[.int .i64 0, .int .i64 0]) ?_ 0 _ rfl; (with_reducible repeat (first | refine blk_drewN ?_ _ | refine blk_drew ?_ | refine blk_alloc ?_ _)); exact BK341.out) hb); replace HB := bS HB hb; (try clear hb); (try clear hb2); (try clear hk); (try clear hi)))
        go_roundg k1
        case measure => have := HK1.out; omega
        case rel => exact ⟨(true), (wrap64 (x8_1 + 1)), (x339000_1), (x339001_1), (by first | rfl | (simp; done) | (simp [*]; done)), (by first | rfl | (simp; done) | (simp [*]; done)), H', ⟨by have := HK1.out; omega⟩, kA BK336, kA BK337, kA BK338, bA HB⟩
      ·replace c13 := Bool.eq_false_iff.mpr c13
       subst c13
       have H1 : (yard_next.l0 k1 a0 true (wrap64 (x8_1 + 1)) a1_0 a1_1 t339 t340) = some (r1, r2, r3) := by rw [if_neg (show ¬ (false = true) by decide)] at H; exact H
       clear H
       have H := H1
       clear H1
       have H' := Aside0.mk H
       clear H
       have hnb42 := NB336_337.out
       have hnc42 := NB337_336.out
       have hnb43 := NB336_338.out
       have hnc43 := NB338_336.out
       obtain ⟨hcz44_0, hcz44_1, hfz44_0, hfz44_1⟩ := cQ BK336
       go_wp2_with (first | ((with_reducible refine gate_callee (f := 88) rfl ?_); refine gL 30 Try.func88 #[.int .i64 (wrap64 ((wrap64 (Int.tdiv (wrap64 (x8_1 * a1_0)) a1_1)) + 1)), .int .i64 x8_1] (h := ?_); (with_reducible refine (yard_frac.calls k1 (wrap64 ((wrap64 (Int.tdiv (wrap64 (x8_1 * a1_0)) a1_1)) + 1)) x8_1 t339 t340 _ A12.out).mono ?_); rintro e w45 ⟨rfl, hb⟩; refine ⟨_, rfl, ?_⟩; replace BK336 := kB BK336 hb; replace BK337 := kB BK337 hb; replace BK338 := kB BK338 hb; replace HB := bS HB hb; (try clear hb); (try clear hb2); (try clear hk); (try clear hi)) | ((with_reducible refine gate_dst (N := 10) rfl ?_); refine box_event ?hg (N := 10) ?hd (cs := #[.int .i64 0, .int .i64 0]) (t := 23) ?hr ?_; (case hd => rfl); (case hg => rfl); (case hr => first | (go_simp; done) | (go_simp; rfl)); intro gb341 hg w46 hbox hb; have BK341 := Aside0.mk (hbox); have GW341 := bG HB hg; have GE341 := bG HB hg; replace HB := bS HB hb; have NB336_341 := nL BK336 hg; have NB341_336 := nG BK336 hg; replace BK336 := kB BK336 hb; have NB337_341 := nL BK337 hg; have NB341_337 := nG BK337 hg; replace BK337 := kB BK337 hb; have NB338_341 := nL BK338 hg; have NB341_338 := nG BK338 hg; replace BK338 := kB BK338 hb; clear hb hbox hg; have hnb47 := NB341_336.out; have hnc47 := NB336_341.out; have hnb48 := NB341_337.out; have hnc48 := NB337_341.out; have hnb49 := NB341_338.out; have hnc49 := NB338_341.out; obtain ⟨hcz50_0, hcz50_1, hfz50_0, hfz50_1⟩ := cQ BK341; have hnb51 := NB338_337.out; have hnc51 := NB337_338.out; obtain ⟨hcz52_0, hcz52_1, hfz52_0, hfz52_1⟩ := cQ BK338))
       go_roundg k1
       case measure => have := HK1.out; omega
       case rel => exact ⟨(true), (wrap64 (x8_1 + 1)), (t339), (t340), (by first | rfl | (simp; done) | (simp [*]; done)), (by first | rfl | (simp; done) | (simp [*]; done)), H', ⟨by have := HK1.out; omega⟩, kG BK336, kG BK337, ⟨by (with_reducible repeat (first | refine blk_drewN ?_ _ | refine blk_drew ?_ | refine blk_alloc ?_ _)); refine blk_put (cs := #[.int .i64 t339, .int .i64 x339001_1]) ?_ 1 _ rfl; (with_reducible repeat (first | refine blk_drewN ?_ _ | refine blk_drew ?_ | refine blk_alloc ?_ _)); refine blk_put (cs := #[.int .i64 x339000_1, .int .i64 x339001_1]) ?_ 0 _ rfl; (with_reducible repeat (first | refine blk_drewN ?_ _ | refine blk_drew ?_ | refine blk_alloc ?_ _)); refine blk_far ?_ NB338_341.out _; (with_reducible repeat (first | refine blk_drewN ?_ _ | refine blk_drew ?_ | refine blk_alloc ?_ _)); refine blk_far ?_ NB338_341.out _; (with_reducible repeat (first | refine blk_drewN ?_ _ | refine blk_drew ?_ | refine blk_alloc ?_ _)); exact BK338.out⟩, bA HB⟩
     ·rw [if_neg c11] at H
      have c11b0 : decide ((wrap64 ((wrap64 (Int.tdiv (wrap64 (x8_1 * a1_0)) a1_1)) + 1)) ≤ x8_1) = false := decide_eq_false c11
      clear c11
      have H' := Aside0.mk H
      clear H
      have hnb53 := NB336_337.out
      have hnc53 := NB337_336.out
      have hnb54 := NB336_338.out
      have hnc54 := NB338_336.out
      obtain ⟨hcz55_0, hcz55_1, hfz55_0, hfz55_1⟩ := cQ BK336
      go_wp2
      go_roundg k1
      case measure => have := HK1.out; omega
      case rel => exact ⟨(x7_1), (wrap64 (x8_1 + 1)), (x339000_1), (x339001_1), (by first | rfl | (simp; done) | (simp [*]; done)), (by first | rfl | (simp; done) | (simp [*]; done)), H', ⟨by have := HK1.out; omega⟩, kA BK336, kA BK337, kA BK338, bA HB⟩
   ·rw [if_neg c9] at H
    have c9b0 : decide (x8_1 ≤ a0) = false := decide_eq_false c9
    clear c9
    simp only [Option.some.injEq, Prod.mk.injEq] at H
    obtain ⟨rfl, rfl, rfl⟩ := H
    have hnb56 := NB338_336.out
    have hnc56 := NB336_338.out
    have hnb57 := NB338_337.out
    have hnc57 := NB337_338.out
    obtain ⟨hcz58_0, hcz58_1, hfz58_0, hfz58_1⟩ := cQ BK338
    have hnb59 := NB337_336.out
    have hnc59 := NB336_337.out
    obtain ⟨hcz60_0, hcz60_1, hfz60_0, hfz60_1⟩ := cQ BK337
    go_wp2
    refine bodyPost_ret (results_ct rfl _ _ gb337 23 #[.int .i64 x339000_1, .int .i64 x339001_1] (0, 0) _ rfl (by (with_reducible repeat (first | refine blk_drewN ?_ _ | refine blk_drew ?_ | refine blk_alloc ?_ _)); refine blk_put (cs := #[.int .i64 x339000_1, .int .i64 0]) ?_ 1 _ rfl; (with_reducible repeat (first | refine blk_drewN ?_ _ | refine blk_drew ?_ | refine blk_alloc ?_ _)); refine blk_put (cs := #[.int .i64 0, .int .i64 0]) ?_ 0 _ rfl; (with_reducible repeat (first | refine blk_drewN ?_ _ | refine blk_drew ?_ | refine blk_alloc ?_ _)); exact BK337.out) Try.underlying23 rfl (by kernel_rfl)) rfl ?_
    exact ⟨by first | rfl | (simp [errW_none, errW_some] <;> rfl) | (simp [*, errW_none, errW_some] <;> rfl), bB HB⟩
/-! ### yard_mirrored: function 87 -/
def yard_mirrored.f (a0_0 : Int) (a0_1 : Int) : Option (Int × Int) := some (wrap64 (a0_1 - a0_0), a0_1)
set_option maxHeartbeats 8000000 in
set_option maxRecDepth 100000 in
theorem yard_mirrored.calls (a0_0 : Int) (a0_1 : Int) (r1 : Int) (r2 : Int) (w : World) (h : yard_mirrored.f a0_0 a0_1 = some (r1, r2)) :
 Calls Try.prog 87 #[.agg #[.int .i64 a0_0, .int .i64 a0_1]] w fun e w' => e = .returned (.agg #[.int .i64 r1, .int .i64 r2]) ∧ Below w.heap.size w w' := by
 have hu23 := Try.underlying23
 have HB := Aside0.mk (Below.refl w.heap.size w)
 have H : (some (wrap64 (a0_1 - a0_0), a0_1)) = some (r1, r2) := h
 clear h
 simp only [Option.some.injEq, Prod.mk.injEq] at H
 obtain ⟨rfl, rfl⟩ := H
 go_enter Try.func87, Try.ntmps87
 go_wp2_with (first | ((with_reducible refine gate_dst (N := 1) rfl ?_); refine box_event ?hg (N := 1) ?hd (cs := #[.int .i64 a0_0, .int .i64 a0_1]) (t := 23) ?hr ?_; (case hd => rfl); (case hg => rfl); (case hr => first | (go_simp; done) | (go_simp; rfl)); intro gb343 hg w2 hbox hb; have BK343 := Aside0.mk (hbox); have GW343 := bG HB hg; have GE343 := bG HB hg; replace HB := bS HB hb; clear hb hbox hg) | ((with_reducible refine gate_dst (N := 2) rfl ?_); refine box_event ?hg (N := 2) ?hd (cs := #[.int .i64 0, .int .i64 0]) (t := 23) ?hr ?_; (case hd => rfl); (case hg => rfl); (case hr => first | (go_simp; done) | (go_simp; rfl)); intro gb344 hg w3 hbox hb; have BK344 := Aside0.mk (hbox); have GW344 := bG HB hg; have GE344 := bG HB hg; replace HB := bS HB hb; have NB343_344 := nL BK343 hg; have NB344_343 := nG BK343 hg; replace BK343 := kB BK343 hb; clear hb hbox hg; have hnb4 := NB343_344.out; have hnc4 := NB344_343.out; obtain ⟨hcz5_0, hcz5_1, hfz5_0, hfz5_1⟩ := cQ BK343; obtain ⟨hcz6_0, hcz6_1, hfz6_0, hfz6_1⟩ := cQ BK344))
 refine bodyPost_ret (results_cell_row rfl _ _ gb344 23 #[.int .i64 (wrap64 (a0_1 - a0_0)), .int .i64 a0_1] (0, 0) _ rfl (by (with_reducible repeat (first | refine blk_drewN ?_ _ | refine blk_drew ?_ | refine blk_alloc ?_ _)); refine blk_put (cs := #[.int .i64 (wrap64 (a0_1 - a0_0)), .int .i64 0]) ?_ 1 _ rfl; (with_reducible repeat (first | refine blk_drewN ?_ _ | refine blk_drew ?_ | refine blk_alloc ?_ _)); refine blk_put (cs := #[.int .i64 0, .int .i64 0]) ?_ 0 _ rfl; (with_reducible repeat (first | refine blk_drewN ?_ _ | refine blk_drew ?_ | refine blk_alloc ?_ _)); exact BK344.out) Try.underlying23 rfl (by kernel_rfl)) rfl ?_
 exact ⟨by first | rfl | (simp [errW_none, errW_some] <;> rfl) | (simp [*, errW_none, errW_some] <;> rfl), bB HB⟩
/-! ### yard_before: function 74 -/
def yard_before.f (k : Nat) (a0 : Int) (a1_0 : Int) (a1_1 : Int) : Option (Int × Int × Bool) := (yard_mirrored.f a1_0 a1_1).bind fun bt347 => ((yard_next.f k a0 bt347.1 bt347.2).bind fun bt349 => ((yard_mirrored.f bt349.1 bt349.2.1).bind fun bt353 => (some (bt353.1, bt353.2, bt349.2.2))))
theorem yard_before.mono : ∀ a0 a1 a2 k, LeO (yard_before.f k a0 a1 a2) (yard_before.f (k + 1) a0 a1 a2) := by
 intro a0 a1 a2 k
 unfold yard_before.f
 repeat' first
  | (with_reducible exact yard_next.mono _ _ _ _)
  | (with_reducible exact LeO.refl _)
  | (with_reducible exact LeO.none _)
  | (with_reducible refine LeO.ite ?_ ?_)
  | (with_reducible refine LeO.bind ?_ (fun _ => ?_))
  | exact yard_next.mono _ _ _ _
  | exact LeO.none _
  | refine LeO.ite ?_ ?_
  | refine LeO.bind ?_ (fun _ => ?_)
set_option maxHeartbeats 8000000 in
set_option maxRecDepth 100000 in
theorem yard_before.calls (k : Nat) (a0 : Int) (a1_0 : Int) (a1_1 : Int) (r1 : Int) (r2 : Int) (r3 : Bool) (w : World) (h : yard_before.f k a0 a1_0 a1_1 = some (r1, r2, r3)) :
 Calls Try.prog 74 #[.int .i64 a0, .agg #[.int .i64 a1_0, .int .i64 a1_1]] w fun e w' => e = .returned (.tuple #[.agg #[.int .i64 r1, .int .i64 r2], .bool r3]) ∧ Below w.heap.size w w' := by
 have hu23 := Try.underlying23
 have HB := Aside0.mk (Below.refl w.heap.size w)
 have H : ((yard_mirrored.f a1_0 a1_1).bind fun bt347 => ((yard_next.f k a0 bt347.1 bt347.2).bind fun bt349 => ((yard_mirrored.f bt349.1 bt349.2.1).bind fun bt353 => (some (bt353.1, bt353.2, bt349.2.2))))) = some (r1, r2, r3) := h
 clear h
 replace H := Option.bind_eq_some_iff.mp H
 obtain ⟨⟨t347, t348⟩, A30, H⟩ := H
 replace H : ((yard_next.f k a0 t347 t348).bind fun bt349 => ((yard_mirrored.f bt349.1 bt349.2.1).bind fun bt353 => (some (bt353.1, bt353.2, bt349.2.2)))) = some (r1, r2, r3) := H
 have A3 := Aside0.mk A30
 clear A30
 replace H := Option.bind_eq_some_iff.mp H
 obtain ⟨⟨t349, t350, t351⟩, A40, H⟩ := H
 replace H : ((yard_mirrored.f t349 t350).bind fun bt353 => (some (bt353.1, bt353.2, t351))) = some (r1, r2, r3) := H
 have A4 := Aside0.mk A40
 clear A40
 replace H := Option.bind_eq_some_iff.mp H
 obtain ⟨⟨t353, t354⟩, A50, H⟩ := H
 replace H : (some (t353, t354, t351)) = some (r1, r2, r3) := H
 have A5 := Aside0.mk A50
 clear A50
 simp only [Option.some.injEq, Prod.mk.injEq] at H
 obtain ⟨rfl, rfl, rfl⟩ := H
 go_enter Try.func74, Try.ntmps74
 go_wp2_with (first | ((with_reducible refine gate_dst (N := 3) rfl ?_); refine box_event ?hg (N := 3) ?hd (cs := #[.int .i64 a1_0, .int .i64 a1_1]) (t := 23) ?hr ?_; (case hd => rfl); (case hg => rfl); (case hr => first | (go_simp; done) | (go_simp; rfl)); intro gb345 hg w6 hbox hb; have BK345 := Aside0.mk (hbox); have GW345 := bG HB hg; have GE345 := bG HB hg; replace HB := bS HB hb; clear hb hbox hg) | ((with_reducible refine gate_dst (N := 4) rfl ?_); refine box_event ?hg (N := 4) ?hd (cs := #[.int .i64 0, .int .i64 0]) (t := 23) ?hr ?_; (case hd => rfl); (case hg => rfl); (case hr => first | (go_simp; done) | (go_simp; rfl)); intro gb346 hg w7 hbox hb; have BK346 := Aside0.mk (hbox); have GW346 := bG HB hg; have GE346 := bG HB hg; replace HB := bS HB hb; have NB345_346 := nL BK345 hg; have NB346_345 := nG BK345 hg; replace BK345 := kB BK345 hb; clear hb hbox hg; have hnb8 := NB345_346.out; have hnc8 := NB346_345.out; obtain ⟨hcz9_0, hcz9_1, hfz9_0, hfz9_1⟩ := cQ BK345) | ((with_reducible refine gate_callee (f := 87) rfl ?_); refine gL 11 Try.func87 #[.agg #[.int .i64 a1_0, .int .i64 a1_1]] (h := ?_); (with_reducible refine (yard_mirrored.calls a1_0 a1_1 t347 t348 _ A3.out).mono ?_); rintro e w10 ⟨rfl, hb⟩; refine ⟨_, rfl, ?_⟩; replace BK345 := kB BK345 hb; replace BK346 := kB BK346 hb; replace HB := bS HB hb; (try clear hb); (try clear hb2); (try clear hk); (try clear hi)) | ((with_reducible refine gate_callee (f := 75) rfl ?_); refine gL 12 Try.func75 #[.int .i64 a0, .agg #[.int .i64 t347, .int .i64 t348]] (h := ?_); (with_reducible refine (yard_next.calls k a0 t347 t348 t349 t350 t351 _ A4.out).mono ?_); rintro e w11 ⟨rfl, hb⟩; refine ⟨_, rfl, ?_⟩; replace BK345 := kB BK345 hb; replace BK346 := kB BK346 hb; replace HB := bS HB hb; (try clear hb); (try clear hb2); (try clear hk); (try clear hi)) | ((with_reducible refine gate_dst (N := 6) rfl ?_); refine box_event ?hg (N := 6) ?hd (cs := #[.int .i64 0, .int .i64 0]) (t := 23) ?hr ?_; (case hd => rfl); (case hg => rfl); (case hr => first | (go_simp; done) | (go_simp; rfl)); intro gb352 hg w12 hbox hb; have BK352 := Aside0.mk (hbox); have GW352 := bG HB hg; have GE352 := bG HB hg; replace HB := bS HB hb; have NB345_352 := nL BK345 hg; have NB352_345 := nG BK345 hg; replace BK345 := kB BK345 hb; have NB346_352 := nL BK346 hg; have NB352_346 := nG BK346 hg; replace BK346 := kB BK346 hb; clear hb hbox hg; have hnb13 := NB352_345.out; have hnc13 := NB345_352.out; have hnb14 := NB352_346.out; have hnc14 := NB346_352.out; obtain ⟨hcz15_0, hcz15_1, hfz15_0, hfz15_1⟩ := cQ BK352) | ((with_reducible refine gate_callee (f := 87) rfl ?_); refine gL 16 Try.func87 #[.agg #[.int .i64 t349, .int .i64 t350]] (h := ?_); (with_reducible refine (yard_mirrored.calls t349 t350 t353 t354 _ A5.out).mono ?_); rintro e w16 ⟨rfl, hb⟩; refine ⟨_, rfl, ?_⟩; replace BK345 := kF BK345 hb; replace BK346 := kF BK346 hb; replace BK352 := Aside0.mk (blk_below (g := gb352) (o := .cells #[.int .i64 t349, .int .i64 t350] 23 (0, 0)) (by (with_reducible repeat (first | refine blk_drewN ?_ _ | refine blk_drew ?_ | refine blk_alloc ?_ _)); refine blk_put (cs := #[.int .i64 t349, .int .i64 0]) ?_ 1 _ rfl; (with_reducible repeat (first | refine blk_drewN ?_ _ | refine blk_drew ?_ | refine blk_alloc ?_ _)); refine blk_put (cs := #[.int .i64 0, .int .i64 0]) ?_ 0 _ rfl; (with_reducible repeat (first | refine blk_drewN ?_ _ | refine blk_drew ?_ | refine blk_alloc ?_ _)); exact BK352.out) hb); replace HB := bS HB hb; (try clear hb); (try clear hb2); (try clear hk); (try clear hi); obtain ⟨hcz17_0, hcz17_1, hfz17_0, hfz17_1⟩ := cQ BK346))
 refine bodyPost_ret (results_ct rfl _ _ gb346 23 #[.int .i64 t353, .int .i64 t354] (0, 0) _ rfl (by (with_reducible repeat (first | refine blk_drewN ?_ _ | refine blk_drew ?_ | refine blk_alloc ?_ _)); refine blk_put (cs := #[.int .i64 t353, .int .i64 0]) ?_ 1 _ rfl; (with_reducible repeat (first | refine blk_drewN ?_ _ | refine blk_drew ?_ | refine blk_alloc ?_ _)); refine blk_put (cs := #[.int .i64 0, .int .i64 0]) ?_ 0 _ rfl; (with_reducible repeat (first | refine blk_drewN ?_ _ | refine blk_drew ?_ | refine blk_alloc ?_ _)); exact BK346.out) Try.underlying23 rfl (by kernel_rfl)) rfl ?_
 exact ⟨by first | rfl | (simp [errW_none, errW_some] <;> rfl) | (simp [*, errW_none, errW_some] <;> rfl), bB HB⟩
end Go.Proofs.Ythjodhmkmjabbaa.PY
