/- The walks of yard.Between and its closure: what they compute, as Lean functions. -/
import Derived.Test.YthjodhmkmjabbaaPYx4
import Derived.Laws.EntriesVeiled
namespace Go.Proofs.Ythjodhmkmjabbaa.PY
open Go.RowKit Go.Proofs.YthjodhmkmjabbaaW.PrintWords Go.Proofs.YthjodhmkmjabbaaW.PrintLast Go.Proofs.YthjodhmkmjabbaaW.PrintMore
attribute [local go_sem] max2_int min2_int max_two min_two max_three min_three max_four min_four
set_option linter.unusedVariables false
set_option linter.unusedSimpArgs false
def yard_simplest.f : Nat → Int → Int → Int → Int → Option (Int × Int)
  | 0, _, _, _, _ => none
  | k + 1, a, b, c, d =>
    if b = 0 then none
    else if wrap64 (wrap64 (wrap64 (Int.tdiv a b) + 1) * d) < c then some (wrap64 (wrap64 (Int.tdiv a b) + 1), 1)
    else (yard_simplest.f k d (wrap64 (c - wrap64 (wrap64 (Int.tdiv a b) * d))) b (wrap64 (a - wrap64 (wrap64 (Int.tdiv a b) * b)))).bind fun x =>
      some (wrap64 (x.2 + wrap64 (wrap64 (Int.tdiv a b) * x.1)), x.1)
set_option maxHeartbeats 4000000 in
set_option maxRecDepth 100000 in
theorem simplest.calls (k : Nat) : ∀ (a b c d r1 r2 : Int) (g : Nat) (w : World) (hg : w.heap[g]? = some (.cells #[.func (.func 66) #[] #[.pointer (some ⟨g, 0, none⟩)]] 84 (0, 0))) (h : yard_simplest.f k a b c d = some (r1, r2)),
    Calls Try.prog 66 #[.agg #[.int .i64 a, .int .i64 b], .agg #[.int .i64 c, .int .i64 d], .pointer (some ⟨g, 0, none⟩)] w fun e w' => e = .returned (.agg #[.int .i64 r1, .int .i64 r2]) ∧ Below w.heap.size w w' := by
  have hu23 := Try.underlying23
  induction k with
  | zero => intro a b c d r1 r2 g w hg h; simp [yard_simplest.f] at h
  | succ k ih =>
    intro a b c d r1 r2 g w hg h
    simp only [yard_simplest.f] at h
    by_cases c1 : b = 0
    · rw [if_pos c1] at h; simp at h
    rw [if_neg c1] at h
    have c1b : (b == 0) = false := beq_eq_false_iff_ne.mpr c1
    have hgl := blk_lt hg
    have hgc := blk_cell hg 0
    have hgf := blk_frozen hg 0
    simp at hgc
    have hgl1 : g < w.heap.size + 1 := by omega
    have hgl2 : g < w.heap.size + 1 + 1 := by omega
    have hgn0 : ¬ g = w.heap.size := by omega
    have hgn1 : ¬ g = w.heap.size + 1 := by omega
    have hgn2 : ¬ g = w.heap.size + 1 + 1 := by omega
    obtain ⟨q, hq⟩ : ∃ q : Int, wrap64 (Int.tdiv a b) = q := ⟨_, rfl⟩
    have hq' : IntKind.i64.wrap (Int.tdiv a b) = q := (i64_w _).trans hq
    rw [hq] at h
    have HG := Aside0.mk hg
    clear hg
    have IH := Aside0.mk ih
    clear ih
    by_cases c2 : wrap64 (wrap64 (q + 1) * d) < c
    · rw [if_pos c2] at h
      simp only [Option.some.injEq, Prod.mk.injEq] at h
      obtain ⟨rfl, rfl⟩ := h
      have c2b : decide (wrap64 (wrap64 (q + 1) * d) < c) = true := decide_eq_true c2
      clear c2
      go_enter Try.func66, Try.ntmps66
      go_wp2
      exact bodyPost_ret (v := .agg #[.int .i64 (wrap64 (q + 1)), .int .i64 1]) (by simp [results, Try.results66, go_sem]) rfl ⟨rfl, below_alloc (below_alloc (below_alloc (Below.refl _ _) _) _) _⟩
    · rw [if_neg c2] at h
      have c2b : decide (wrap64 (wrap64 (q + 1) * d) < c) = false := decide_eq_false c2
      clear c2
      have H' := Aside0.mk h
      clear h
      obtain ⟨⟨x, y⟩, A, h⟩ := Option.bind_eq_some_iff.mp H'.out
      clear H'
      simp only [Option.some.injEq, Prod.mk.injEq] at h
      obtain ⟨rfl, rfl⟩ := h
      have A := Aside0.mk A
      go_enter Try.func66, Try.ntmps66
      go_wp2_with (go_at_call 66; (with_reducible refine (IH.out d (wrap64 (c - wrap64 (q * d))) b (wrap64 (a - wrap64 (q * b))) x y g _ ?hw A.out).mono ?_); (case hw => exact blk_alloc (blk_alloc (blk_alloc HG.out _) _) _); rintro e w1 ⟨rfl, hb⟩; have B5 := Aside0.mk (blk_below (blk_new _ _) hb); have HB := Aside0.mk (below_step (below_alloc (below_alloc (below_alloc (Below.refl _ w) _) _) _) hb); clear hgl hgl1 hgl2 hgn0 hgn1 hgn2 hgc hgf hb; simp only [World.size_alloc] at B5; have hl5 := blk_lt B5.out; have hf50 := blk_frozen B5.out 0; have hf51 := blk_frozen B5.out 1; have hc50 := blk_cell B5.out 0; have hc51 := blk_cell B5.out 1; have hn5 := Nat.ne_of_lt hl5; simp at hc50 hc51)
      refine bodyPost_ret (results_cell_row rfl _ _ (w.heap.size + 1 + 1) 23 #[.int .i64 (wrap64 (y + wrap64 (q * x))), .int .i64 x] (0, 0) _ rfl (by (with_reducible repeat (first | refine blk_drewN ?_ _ | refine blk_drew ?_ | refine blk_alloc ?_ _)); refine blk_put (cs := #[.int .i64 (wrap64 (y + wrap64 (q * x))), .int .i64 0]) ?_ 1 _ rfl; (with_reducible repeat (first | refine blk_drewN ?_ _ | refine blk_drew ?_ | refine blk_alloc ?_ _)); refine blk_put (cs := #[.int .i64 0, .int .i64 0]) ?_ 0 _ rfl; (with_reducible repeat (first | refine blk_drewN ?_ _ | refine blk_drew ?_ | refine blk_alloc ?_ _)); exact B5.out) Try.underlying23 rfl (by kernel_rfl)) rfl ?_
      exact ⟨rfl, by repeat (first | (with_reducible first | exact HB.out | apply below_alloc | apply pw_below_drewN | apply below_drew1 | refine below_set ?_ (by omega)) | exact HB.out)⟩
theorem yard_simplest.mono_l : ∀ k, (∀ y0 y1 y2 y3, LeO (yard_simplest.f k y0 y1 y2 y3) (yard_simplest.f (k + 1) y0 y1 y2 y3))
  | 0 => fun _ _ _ _ r h => by simp [yard_simplest.f] at h
  | k + 1 => by
    have ih0 := yard_simplest.mono_l k
    · intro y0 y1 y2 y3
      unfold yard_simplest.f
      repeat' first
      | (with_reducible exact ih0 _ _ _ _)
      | (with_reducible exact LeO.refl _)
      | (with_reducible exact LeO.none _)
      | (with_reducible refine LeO.ite ?_ ?_)
      | (with_reducible refine LeO.bind ?_ (fun _ => ?_))
def yard_Between.f (k : Nat) (a b c d : Int) : Option (Int × Int × Int) :=
  (yard_isFrac.f k a b).bind fun t1 => if t1 = true then
    ((yard_isFrac.f k c d).bind fun t2 => if t2 = true then
      ((yard_less.f a b c d).bind fun t3 => if t3 = true then
        ((yard_simplest.f k a b c d).bind fun x => if x.2 ≤ 1000000 then some (x.1, x.2, 0) else some (0, 0, 6)) else some (0, 0, 2)) else some (0, 0, 2)) else some (0, 0, 2)
theorem yard_Between.mono : ∀ a0 a1 a2 a3 k, LeO (yard_Between.f k a0 a1 a2 a3) (yard_Between.f (k + 1) a0 a1 a2 a3) := by
  intro a0 a1 a2 a3 k
  have ih0 := yard_simplest.mono_l k
  unfold yard_Between.f
  repeat' first
      | (with_reducible exact ih0 _ _ _ _)
      | (with_reducible exact yard_isFrac.mono _ _ _)
      | (with_reducible exact LeO.refl _)
      | (with_reducible exact LeO.none _)
      | (with_reducible refine LeO.ite ?_ ?_)
      | (with_reducible refine LeO.bind ?_ (fun _ => ?_))
theorem found_ok (a b : Int) : yard_found.f a b true = some (a, b, 0) := rfl
theorem found_no (a b : Int) : yard_found.f a b false = some (0, 0, 6) := rfl
set_option maxHeartbeats 4000000 in
set_option maxRecDepth 100000 in
theorem yard_Between.calls (k : Nat) (a0_0 a0_1 a1_0 a1_1 : Int) (r1 r2 r3 : Int) (w : World) (h : yard_Between.f k a0_0 a0_1 a1_0 a1_1 = some (r1, r2, r3)) :
    Calls Try.prog 30 #[.agg #[.int .i64 a0_0, .int .i64 a0_1], .agg #[.int .i64 a1_0, .int .i64 a1_1]] w fun e w' => e = .returned (.tuple #[.agg #[.int .i64 r1, .int .i64 r2], .int .i64 r3]) ∧ Below w.heap.size w w' := by
  have hu23 := Try.underlying23
  unfold yard_Between.f at h
  obtain ⟨t1, A1, h⟩ := Option.bind_eq_some_iff.mp h
  have A1 := Aside0.mk A1
  have B2 := Aside0.mk (blk_alloc (blk_alloc (blk_new w (.cells #[.int .i64 a0_0, .int .i64 a0_1] 23 (0, 0))) (.cells #[.int .i64 a1_0, .int .i64 a1_1] 23 (0, 0))) (.cells #[.int .i64 0, .int .i64 0] 23 (0, 0)))
  have B3 := Aside0.mk (blk_alloc (blk_new (w.alloc (.cells #[.int .i64 a0_0, .int .i64 a0_1] 23 (0, 0))) (.cells #[.int .i64 a1_0, .int .i64 a1_1] 23 (0, 0))) (.cells #[.int .i64 0, .int .i64 0] 23 (0, 0)))
  have B4 := Aside0.mk (blk_new ((w.alloc (.cells #[.int .i64 a0_0, .int .i64 a0_1] 23 (0, 0))).alloc (.cells #[.int .i64 a1_0, .int .i64 a1_1] 23 (0, 0))) (.cells #[.int .i64 0, .int .i64 0] 23 (0, 0)))
  have HB := Aside0.mk (below_alloc (below_alloc (below_alloc (Below.refl _ w) (.cells #[.int .i64 a0_0, .int .i64 a0_1] 23 (0, 0))) (.cells #[.int .i64 a1_0, .int .i64 a1_1] 23 (0, 0))) (.cells #[.int .i64 0, .int .i64 0] 23 (0, 0)))
  simp only [World.size_alloc] at B3 B4
  cases t1 with
  | false =>
    rw [if_neg (by decide)] at h
    simp only [Option.some.injEq, Prod.mk.injEq] at h
    obtain ⟨rfl, rfl, rfl⟩ := h
    go_enter Try.func30, Try.ntmps30
    go_wp2_with (first | (go_at_call 60; (with_reducible refine (yard_isFrac.calls k a0_0 a0_1 false _ A1.out).mono ?_); rintro e w1 ⟨rfl, hb⟩; have nB2 := Aside0.mk (blk_below B2.out hb); have nB3 := Aside0.mk (blk_below B3.out hb); have nB4 := Aside0.mk (blk_below B4.out hb); have nHB := Aside0.mk (below_step HB.out hb); clear B2 B3 B4 HB hb; have B2 := nB2; have B3 := nB3; have B4 := nB4; have HB := nHB; clear nB2 nB3 nB4 nHB; have hcB2_0 := blk_cell B2.out 0; have hfB2_0 := blk_frozen B2.out 0; have hcB2_1 := blk_cell B2.out 1; have hfB2_1 := blk_frozen B2.out 1; have hlB2 := blk_lt B2.out; have hcB3_0 := blk_cell B3.out 0; have hfB3_0 := blk_frozen B3.out 0; have hcB3_1 := blk_cell B3.out 1; have hfB3_1 := blk_frozen B3.out 1; have hlB3 := blk_lt B3.out; have hcB4_0 := blk_cell B4.out 0; have hfB4_0 := blk_frozen B4.out 0; have hcB4_1 := blk_cell B4.out 1; have hfB4_1 := blk_frozen B4.out 1; have hlB4 := blk_lt B4.out; simp at hcB2_0 hcB2_1 hcB3_0 hcB3_1 hcB4_0 hcB4_1))
    refine bodyPost_ret (results_ct rfl _ _ (w.heap.size + 1 + 1) 23 #[.int .i64 0, .int .i64 0] (0, 0) _ rfl (by (with_reducible repeat (first | refine blk_drewN ?_ _ | refine blk_drew ?_ | refine blk_alloc ?_ _)); refine blk_put (cs := #[.int .i64 0, .int .i64 0]) ?_ 1 _ rfl; (with_reducible repeat (first | refine blk_drewN ?_ _ | refine blk_drew ?_ | refine blk_alloc ?_ _)); refine blk_put (cs := #[.int .i64 0, .int .i64 0]) ?_ 0 _ rfl; (with_reducible repeat (first | refine blk_drewN ?_ _ | refine blk_drew ?_ | refine blk_alloc ?_ _)); exact B4.out) Try.underlying23 rfl (by kernel_rfl)) rfl ?_
    exact ⟨rfl, by repeat (first | (with_reducible first | exact HB.out | apply below_alloc | apply pw_below_drewN | apply below_drew1 | refine below_set ?_ (by omega)) | exact HB.out)⟩
  | true =>
    rw [if_pos rfl] at h
    obtain ⟨t2, A2, h⟩ := Option.bind_eq_some_iff.mp h
    have A2 := Aside0.mk A2
    cases t2 with
    | false =>
      rw [if_neg (by decide)] at h
      simp only [Option.some.injEq, Prod.mk.injEq] at h
      obtain ⟨rfl, rfl, rfl⟩ := h
      go_enter Try.func30, Try.ntmps30
      go_wp2_with (first | (go_at_call 60; (with_reducible refine (yard_isFrac.calls k a0_0 a0_1 true _ A1.out).mono ?_); rintro e w1 ⟨rfl, hb⟩; have nB2 := Aside0.mk (blk_below B2.out hb); have nB3 := Aside0.mk (blk_below B3.out hb); have nB4 := Aside0.mk (blk_below B4.out hb); have nHB := Aside0.mk (below_step HB.out hb); clear B2 B3 B4 HB hb; have B2 := nB2; have B3 := nB3; have B4 := nB4; have HB := nHB; clear nB2 nB3 nB4 nHB; have hcB2_0 := blk_cell B2.out 0; have hfB2_0 := blk_frozen B2.out 0; have hcB2_1 := blk_cell B2.out 1; have hfB2_1 := blk_frozen B2.out 1; have hlB2 := blk_lt B2.out; have hcB3_0 := blk_cell B3.out 0; have hfB3_0 := blk_frozen B3.out 0; have hcB3_1 := blk_cell B3.out 1; have hfB3_1 := blk_frozen B3.out 1; have hlB3 := blk_lt B3.out; have hcB4_0 := blk_cell B4.out 0; have hfB4_0 := blk_frozen B4.out 0; have hcB4_1 := blk_cell B4.out 1; have hfB4_1 := blk_frozen B4.out 1; have hlB4 := blk_lt B4.out; simp at hcB2_0 hcB2_1 hcB3_0 hcB3_1 hcB4_0 hcB4_1) | (go_at_call 60; (with_reducible refine (yard_isFrac.calls k a1_0 a1_1 false _ A2.out).mono ?_); rintro e w2 ⟨rfl, hb⟩; have nB2 := Aside0.mk (blk_below B2.out hb); have nB3 := Aside0.mk (blk_below B3.out hb); have nB4 := Aside0.mk (blk_below B4.out hb); have nHB := Aside0.mk (below_step HB.out hb); clear hcB2_0 hcB2_1 hfB2_0 hfB2_1 hlB2 hcB3_0 hcB3_1 hfB3_0 hfB3_1 hlB3 hcB4_0 hcB4_1 hfB4_0 hfB4_1 hlB4; clear B2 B3 B4 HB hb; have B2 := nB2; have B3 := nB3; have B4 := nB4; have HB := nHB; clear nB2 nB3 nB4 nHB; have hcB2_0 := blk_cell B2.out 0; have hfB2_0 := blk_frozen B2.out 0; have hcB2_1 := blk_cell B2.out 1; have hfB2_1 := blk_frozen B2.out 1; have hlB2 := blk_lt B2.out; have hcB3_0 := blk_cell B3.out 0; have hfB3_0 := blk_frozen B3.out 0; have hcB3_1 := blk_cell B3.out 1; have hfB3_1 := blk_frozen B3.out 1; have hlB3 := blk_lt B3.out; have hcB4_0 := blk_cell B4.out 0; have hfB4_0 := blk_frozen B4.out 0; have hcB4_1 := blk_cell B4.out 1; have hfB4_1 := blk_frozen B4.out 1; have hlB4 := blk_lt B4.out; simp at hcB2_0 hcB2_1 hcB3_0 hcB3_1 hcB4_0 hcB4_1))
      refine bodyPost_ret (results_ct rfl _ _ (w.heap.size + 1 + 1) 23 #[.int .i64 0, .int .i64 0] (0, 0) _ rfl (by (with_reducible repeat (first | refine blk_drewN ?_ _ | refine blk_drew ?_ | refine blk_alloc ?_ _)); refine blk_put (cs := #[.int .i64 0, .int .i64 0]) ?_ 1 _ rfl; (with_reducible repeat (first | refine blk_drewN ?_ _ | refine blk_drew ?_ | refine blk_alloc ?_ _)); refine blk_put (cs := #[.int .i64 0, .int .i64 0]) ?_ 0 _ rfl; (with_reducible repeat (first | refine blk_drewN ?_ _ | refine blk_drew ?_ | refine blk_alloc ?_ _)); exact B4.out) Try.underlying23 rfl (by kernel_rfl)) rfl ?_
      exact ⟨rfl, by repeat (first | (with_reducible first | exact HB.out | apply below_alloc | apply pw_below_drewN | apply below_drew1 | refine below_set ?_ (by omega)) | exact HB.out)⟩
    | true =>
      rw [if_pos rfl] at h
      obtain ⟨t3, A3, h⟩ := Option.bind_eq_some_iff.mp h
      have A3 := Aside0.mk A3
      cases t3 with
      | false =>
        rw [if_neg (by decide)] at h
        simp only [Option.some.injEq, Prod.mk.injEq] at h
        obtain ⟨rfl, rfl, rfl⟩ := h
        go_enter Try.func30, Try.ntmps30
        go_wp2_with (first | (go_at_call 60; (with_reducible refine (yard_isFrac.calls k a0_0 a0_1 true _ A1.out).mono ?_); rintro e w1 ⟨rfl, hb⟩; have nB2 := Aside0.mk (blk_below B2.out hb); have nB3 := Aside0.mk (blk_below B3.out hb); have nB4 := Aside0.mk (blk_below B4.out hb); have nHB := Aside0.mk (below_step HB.out hb); clear B2 B3 B4 HB hb; have B2 := nB2; have B3 := nB3; have B4 := nB4; have HB := nHB; clear nB2 nB3 nB4 nHB; have hcB2_0 := blk_cell B2.out 0; have hfB2_0 := blk_frozen B2.out 0; have hcB2_1 := blk_cell B2.out 1; have hfB2_1 := blk_frozen B2.out 1; have hlB2 := blk_lt B2.out; have hcB3_0 := blk_cell B3.out 0; have hfB3_0 := blk_frozen B3.out 0; have hcB3_1 := blk_cell B3.out 1; have hfB3_1 := blk_frozen B3.out 1; have hlB3 := blk_lt B3.out; have hcB4_0 := blk_cell B4.out 0; have hfB4_0 := blk_frozen B4.out 0; have hcB4_1 := blk_cell B4.out 1; have hfB4_1 := blk_frozen B4.out 1; have hlB4 := blk_lt B4.out; simp at hcB2_0 hcB2_1 hcB3_0 hcB3_1 hcB4_0 hcB4_1) | (go_at_call 60; (with_reducible refine (yard_isFrac.calls k a1_0 a1_1 true _ A2.out).mono ?_); rintro e w2 ⟨rfl, hb⟩; have nB2 := Aside0.mk (blk_below B2.out hb); have nB3 := Aside0.mk (blk_below B3.out hb); have nB4 := Aside0.mk (blk_below B4.out hb); have nHB := Aside0.mk (below_step HB.out hb); clear hcB2_0 hcB2_1 hfB2_0 hfB2_1 hlB2 hcB3_0 hcB3_1 hfB3_0 hfB3_1 hlB3 hcB4_0 hcB4_1 hfB4_0 hfB4_1 hlB4; clear B2 B3 B4 HB hb; have B2 := nB2; have B3 := nB3; have B4 := nB4; have HB := nHB; clear nB2 nB3 nB4 nHB; have hcB2_0 := blk_cell B2.out 0; have hfB2_0 := blk_frozen B2.out 0; have hcB2_1 := blk_cell B2.out 1; have hfB2_1 := blk_frozen B2.out 1; have hlB2 := blk_lt B2.out; have hcB3_0 := blk_cell B3.out 0; have hfB3_0 := blk_frozen B3.out 0; have hcB3_1 := blk_cell B3.out 1; have hfB3_1 := blk_frozen B3.out 1; have hlB3 := blk_lt B3.out; have hcB4_0 := blk_cell B4.out 0; have hfB4_0 := blk_frozen B4.out 0; have hcB4_1 := blk_cell B4.out 1; have hfB4_1 := blk_frozen B4.out 1; have hlB4 := blk_lt B4.out; simp at hcB2_0 hcB2_1 hcB3_0 hcB3_1 hcB4_0 hcB4_1) | (go_at_call 63; (with_reducible refine (yard_less.calls a0_0 a0_1 a1_0 a1_1 false _ A3.out).mono ?_); rintro e w3 ⟨rfl, hb⟩; have nB2 := Aside0.mk (blk_below B2.out hb); have nB3 := Aside0.mk (blk_below B3.out hb); have nB4 := Aside0.mk (blk_below B4.out hb); have nHB := Aside0.mk (below_step HB.out hb); clear hcB2_0 hcB2_1 hfB2_0 hfB2_1 hlB2 hcB3_0 hcB3_1 hfB3_0 hfB3_1 hlB3 hcB4_0 hcB4_1 hfB4_0 hfB4_1 hlB4; clear B2 B3 B4 HB hb; have B2 := nB2; have B3 := nB3; have B4 := nB4; have HB := nHB; clear nB2 nB3 nB4 nHB; have hcB2_0 := blk_cell B2.out 0; have hfB2_0 := blk_frozen B2.out 0; have hcB2_1 := blk_cell B2.out 1; have hfB2_1 := blk_frozen B2.out 1; have hlB2 := blk_lt B2.out; have hcB3_0 := blk_cell B3.out 0; have hfB3_0 := blk_frozen B3.out 0; have hcB3_1 := blk_cell B3.out 1; have hfB3_1 := blk_frozen B3.out 1; have hlB3 := blk_lt B3.out; have hcB4_0 := blk_cell B4.out 0; have hfB4_0 := blk_frozen B4.out 0; have hcB4_1 := blk_cell B4.out 1; have hfB4_1 := blk_frozen B4.out 1; have hlB4 := blk_lt B4.out; simp at hcB2_0 hcB2_1 hcB3_0 hcB3_1 hcB4_0 hcB4_1))
        refine bodyPost_ret (results_ct rfl _ _ (w.heap.size + 1 + 1) 23 #[.int .i64 0, .int .i64 0] (0, 0) _ rfl (by (with_reducible repeat (first | refine blk_drewN ?_ _ | refine blk_drew ?_ | refine blk_alloc ?_ _)); refine blk_put (cs := #[.int .i64 0, .int .i64 0]) ?_ 1 _ rfl; (with_reducible repeat (first | refine blk_drewN ?_ _ | refine blk_drew ?_ | refine blk_alloc ?_ _)); refine blk_put (cs := #[.int .i64 0, .int .i64 0]) ?_ 0 _ rfl; (with_reducible repeat (first | refine blk_drewN ?_ _ | refine blk_drew ?_ | refine blk_alloc ?_ _)); exact B4.out) Try.underlying23 rfl (by kernel_rfl)) rfl ?_
        exact ⟨rfl, by repeat (first | (with_reducible first | exact HB.out | apply below_alloc | apply pw_below_drewN | apply below_drew1 | refine below_set ?_ (by omega)) | exact HB.out)⟩
      | true =>
        rw [if_pos rfl] at h
        obtain ⟨⟨x, y⟩, A4, h⟩ := Option.bind_eq_some_iff.mp h
        have A4 := Aside0.mk A4
        by_cases c5 : y ≤ 1000000
        · replace h : some (x, y, 0) = some (r1, r2, r3) := by rw [← h, if_pos c5]
          simp only [Option.some.injEq, Prod.mk.injEq] at h
          obtain ⟨rfl, rfl, rfl⟩ := h
          have c5b : decide (y ≤ 1000000) = true := decide_eq_true c5
          clear c5
          go_enter Try.func30, Try.ntmps30
          go_wp2_with (first | (go_at_call 60; (with_reducible refine (yard_isFrac.calls k a0_0 a0_1 true _ A1.out).mono ?_); rintro e w1 ⟨rfl, hb⟩; have nB2 := Aside0.mk (blk_below B2.out hb); have nB3 := Aside0.mk (blk_below B3.out hb); have nB4 := Aside0.mk (blk_below B4.out hb); have nHB := Aside0.mk (below_step HB.out hb); clear B2 B3 B4 HB hb; have B2 := nB2; have B3 := nB3; have B4 := nB4; have HB := nHB; clear nB2 nB3 nB4 nHB; have hcB2_0 := blk_cell B2.out 0; have hfB2_0 := blk_frozen B2.out 0; have hcB2_1 := blk_cell B2.out 1; have hfB2_1 := blk_frozen B2.out 1; have hlB2 := blk_lt B2.out; have hcB3_0 := blk_cell B3.out 0; have hfB3_0 := blk_frozen B3.out 0; have hcB3_1 := blk_cell B3.out 1; have hfB3_1 := blk_frozen B3.out 1; have hlB3 := blk_lt B3.out; have hcB4_0 := blk_cell B4.out 0; have hfB4_0 := blk_frozen B4.out 0; have hcB4_1 := blk_cell B4.out 1; have hfB4_1 := blk_frozen B4.out 1; have hlB4 := blk_lt B4.out; simp at hcB2_0 hcB2_1 hcB3_0 hcB3_1 hcB4_0 hcB4_1) | (go_at_call 60; (with_reducible refine (yard_isFrac.calls k a1_0 a1_1 true _ A2.out).mono ?_); rintro e w2 ⟨rfl, hb⟩; have nB2 := Aside0.mk (blk_below B2.out hb); have nB3 := Aside0.mk (blk_below B3.out hb); have nB4 := Aside0.mk (blk_below B4.out hb); have nHB := Aside0.mk (below_step HB.out hb); clear hcB2_0 hcB2_1 hfB2_0 hfB2_1 hlB2 hcB3_0 hcB3_1 hfB3_0 hfB3_1 hlB3 hcB4_0 hcB4_1 hfB4_0 hfB4_1 hlB4; clear B2 B3 B4 HB hb; have B2 := nB2; have B3 := nB3; have B4 := nB4; have HB := nHB; clear nB2 nB3 nB4 nHB; have hcB2_0 := blk_cell B2.out 0; have hfB2_0 := blk_frozen B2.out 0; have hcB2_1 := blk_cell B2.out 1; have hfB2_1 := blk_frozen B2.out 1; have hlB2 := blk_lt B2.out; have hcB3_0 := blk_cell B3.out 0; have hfB3_0 := blk_frozen B3.out 0; have hcB3_1 := blk_cell B3.out 1; have hfB3_1 := blk_frozen B3.out 1; have hlB3 := blk_lt B3.out; have hcB4_0 := blk_cell B4.out 0; have hfB4_0 := blk_frozen B4.out 0; have hcB4_1 := blk_cell B4.out 1; have hfB4_1 := blk_frozen B4.out 1; have hlB4 := blk_lt B4.out; simp at hcB2_0 hcB2_1 hcB3_0 hcB3_1 hcB4_0 hcB4_1) | (go_at_call 63; (with_reducible refine (yard_less.calls a0_0 a0_1 a1_0 a1_1 true _ A3.out).mono ?_); rintro e w3 ⟨rfl, hb⟩; have nB2 := Aside0.mk (blk_below B2.out hb); have nB3 := Aside0.mk (blk_below B3.out hb); have nB4 := Aside0.mk (blk_below B4.out hb); have nHB := Aside0.mk (below_step HB.out hb); clear hcB2_0 hcB2_1 hfB2_0 hfB2_1 hlB2 hcB3_0 hcB3_1 hfB3_0 hfB3_1 hlB3 hcB4_0 hcB4_1 hfB4_0 hfB4_1 hlB4; clear B2 B3 B4 HB hb; have B2 := nB2; have B3 := nB3; have B4 := nB4; have HB := nHB; clear nB2 nB3 nB4 nHB; have hcB2_0 := blk_cell B2.out 0; have hfB2_0 := blk_frozen B2.out 0; have hcB2_1 := blk_cell B2.out 1; have hfB2_1 := blk_frozen B2.out 1; have hlB2 := blk_lt B2.out; have hcB3_0 := blk_cell B3.out 0; have hfB3_0 := blk_frozen B3.out 0; have hcB3_1 := blk_cell B3.out 1; have hfB3_1 := blk_frozen B3.out 1; have hlB3 := blk_lt B3.out; have hcB4_0 := blk_cell B4.out 0; have hfB4_0 := blk_frozen B4.out 0; have hcB4_1 := blk_cell B4.out 1; have hfB4_1 := blk_frozen B4.out 1; have hlB4 := blk_lt B4.out; simp at hcB2_0 hcB2_1 hcB3_0 hcB3_1 hcB4_0 hcB4_1; have B6a := Aside0.mk (blk_new w3 (.cells #[.func (.func 66) #[] #[.pointer (some ⟨w3.heap.size, 0, none⟩)]] 84 (0, 0)))) | (go_at_call 66; (with_reducible refine (simplest.calls k a0_0 a0_1 a1_0 a1_1 x y w3.heap.size _ ?hw A4.out).mono ?_); (case hw => exact B6a.out); rintro e w4 ⟨rfl, hb⟩; have B4 := Aside0.mk (blk_below (blk_alloc B4.out _) hb); have HB := Aside0.mk (below_step (below_alloc HB.out _) hb); clear hcB2_0 hcB2_1 hfB2_0 hfB2_1 hlB2 hcB3_0 hcB3_1 hfB3_0 hfB3_1 hlB3 hcB4_0 hcB4_1 hfB4_0 hfB4_1 hlB4; have hcB4_0 := blk_cell B4.out 0; have hfB4_0 := blk_frozen B4.out 0; have hcB4_1 := blk_cell B4.out 1; have hfB4_1 := blk_frozen B4.out 1; have hlB4 := blk_lt B4.out; simp at hcB4_0 hcB4_1) | (go_at_call 67; (with_reducible refine (yard_found.calls x y true x y 0 _ rfl).mono ?_); rintro e w5 ⟨rfl, hb⟩; have n4 := Aside0.mk (blk_below (blk_alloc B4.out _) hb); have nHB := Aside0.mk (below_step (below_alloc HB.out _) hb); clear hcB4_0 hcB4_1 hfB4_0 hfB4_1 hlB4; clear B4 HB; have B4 := n4; have HB := nHB; clear n4 nHB; have hcB4_0 := blk_cell B4.out 0; have hfB4_0 := blk_frozen B4.out 0; have hcB4_1 := blk_cell B4.out 1; have hfB4_1 := blk_frozen B4.out 1; have hlB4 := blk_lt B4.out; simp at hcB4_0 hcB4_1))
          refine bodyPost_ret (results_ct rfl _ _ (w.heap.size + 1 + 1) 23 #[.int .i64 x, .int .i64 y] (0, 0) _ rfl (by (with_reducible repeat (first | refine blk_drewN ?_ _ | refine blk_drew ?_ | refine blk_alloc ?_ _)); refine blk_put (cs := #[.int .i64 x, .int .i64 0]) ?_ 1 _ rfl; (with_reducible repeat (first | refine blk_drewN ?_ _ | refine blk_drew ?_ | refine blk_alloc ?_ _)); refine blk_put (cs := #[.int .i64 0, .int .i64 0]) ?_ 0 _ rfl; (with_reducible repeat (first | refine blk_drewN ?_ _ | refine blk_drew ?_ | refine blk_alloc ?_ _)); exact B4.out) Try.underlying23 rfl (by kernel_rfl)) rfl ?_
          exact ⟨rfl, by repeat (first | (with_reducible first | exact HB.out | apply below_alloc | apply pw_below_drewN | apply below_drew1 | refine below_set ?_ (by omega)) | exact HB.out)⟩
        · replace h : some (0, 0, 6) = some (r1, r2, r3) := by rw [← h, if_neg c5]
          simp only [Option.some.injEq, Prod.mk.injEq] at h
          obtain ⟨rfl, rfl, rfl⟩ := h
          have c5b : decide (y ≤ 1000000) = false := decide_eq_false c5
          clear c5
          go_enter Try.func30, Try.ntmps30
          go_wp2_with (first | (go_at_call 60; (with_reducible refine (yard_isFrac.calls k a0_0 a0_1 true _ A1.out).mono ?_); rintro e w1 ⟨rfl, hb⟩; have nB2 := Aside0.mk (blk_below B2.out hb); have nB3 := Aside0.mk (blk_below B3.out hb); have nB4 := Aside0.mk (blk_below B4.out hb); have nHB := Aside0.mk (below_step HB.out hb); clear B2 B3 B4 HB hb; have B2 := nB2; have B3 := nB3; have B4 := nB4; have HB := nHB; clear nB2 nB3 nB4 nHB; have hcB2_0 := blk_cell B2.out 0; have hfB2_0 := blk_frozen B2.out 0; have hcB2_1 := blk_cell B2.out 1; have hfB2_1 := blk_frozen B2.out 1; have hlB2 := blk_lt B2.out; have hcB3_0 := blk_cell B3.out 0; have hfB3_0 := blk_frozen B3.out 0; have hcB3_1 := blk_cell B3.out 1; have hfB3_1 := blk_frozen B3.out 1; have hlB3 := blk_lt B3.out; have hcB4_0 := blk_cell B4.out 0; have hfB4_0 := blk_frozen B4.out 0; have hcB4_1 := blk_cell B4.out 1; have hfB4_1 := blk_frozen B4.out 1; have hlB4 := blk_lt B4.out; simp at hcB2_0 hcB2_1 hcB3_0 hcB3_1 hcB4_0 hcB4_1) | (go_at_call 60; (with_reducible refine (yard_isFrac.calls k a1_0 a1_1 true _ A2.out).mono ?_); rintro e w2 ⟨rfl, hb⟩; have nB2 := Aside0.mk (blk_below B2.out hb); have nB3 := Aside0.mk (blk_below B3.out hb); have nB4 := Aside0.mk (blk_below B4.out hb); have nHB := Aside0.mk (below_step HB.out hb); clear hcB2_0 hcB2_1 hfB2_0 hfB2_1 hlB2 hcB3_0 hcB3_1 hfB3_0 hfB3_1 hlB3 hcB4_0 hcB4_1 hfB4_0 hfB4_1 hlB4; clear B2 B3 B4 HB hb; have B2 := nB2; have B3 := nB3; have B4 := nB4; have HB := nHB; clear nB2 nB3 nB4 nHB; have hcB2_0 := blk_cell B2.out 0; have hfB2_0 := blk_frozen B2.out 0; have hcB2_1 := blk_cell B2.out 1; have hfB2_1 := blk_frozen B2.out 1; have hlB2 := blk_lt B2.out; have hcB3_0 := blk_cell B3.out 0; have hfB3_0 := blk_frozen B3.out 0; have hcB3_1 := blk_cell B3.out 1; have hfB3_1 := blk_frozen B3.out 1; have hlB3 := blk_lt B3.out; have hcB4_0 := blk_cell B4.out 0; have hfB4_0 := blk_frozen B4.out 0; have hcB4_1 := blk_cell B4.out 1; have hfB4_1 := blk_frozen B4.out 1; have hlB4 := blk_lt B4.out; simp at hcB2_0 hcB2_1 hcB3_0 hcB3_1 hcB4_0 hcB4_1) | (go_at_call 63; (with_reducible refine (yard_less.calls a0_0 a0_1 a1_0 a1_1 true _ A3.out).mono ?_); rintro e w3 ⟨rfl, hb⟩; have nB2 := Aside0.mk (blk_below B2.out hb); have nB3 := Aside0.mk (blk_below B3.out hb); have nB4 := Aside0.mk (blk_below B4.out hb); have nHB := Aside0.mk (below_step HB.out hb); clear hcB2_0 hcB2_1 hfB2_0 hfB2_1 hlB2 hcB3_0 hcB3_1 hfB3_0 hfB3_1 hlB3 hcB4_0 hcB4_1 hfB4_0 hfB4_1 hlB4; clear B2 B3 B4 HB hb; have B2 := nB2; have B3 := nB3; have B4 := nB4; have HB := nHB; clear nB2 nB3 nB4 nHB; have hcB2_0 := blk_cell B2.out 0; have hfB2_0 := blk_frozen B2.out 0; have hcB2_1 := blk_cell B2.out 1; have hfB2_1 := blk_frozen B2.out 1; have hlB2 := blk_lt B2.out; have hcB3_0 := blk_cell B3.out 0; have hfB3_0 := blk_frozen B3.out 0; have hcB3_1 := blk_cell B3.out 1; have hfB3_1 := blk_frozen B3.out 1; have hlB3 := blk_lt B3.out; have hcB4_0 := blk_cell B4.out 0; have hfB4_0 := blk_frozen B4.out 0; have hcB4_1 := blk_cell B4.out 1; have hfB4_1 := blk_frozen B4.out 1; have hlB4 := blk_lt B4.out; simp at hcB2_0 hcB2_1 hcB3_0 hcB3_1 hcB4_0 hcB4_1; have B6a := Aside0.mk (blk_new w3 (.cells #[.func (.func 66) #[] #[.pointer (some ⟨w3.heap.size, 0, none⟩)]] 84 (0, 0)))) | (go_at_call 66; (with_reducible refine (simplest.calls k a0_0 a0_1 a1_0 a1_1 x y w3.heap.size _ ?hw A4.out).mono ?_); (case hw => exact B6a.out); rintro e w4 ⟨rfl, hb⟩; have B4 := Aside0.mk (blk_below (blk_alloc B4.out _) hb); have HB := Aside0.mk (below_step (below_alloc HB.out _) hb); clear hcB2_0 hcB2_1 hfB2_0 hfB2_1 hlB2 hcB3_0 hcB3_1 hfB3_0 hfB3_1 hlB3 hcB4_0 hcB4_1 hfB4_0 hfB4_1 hlB4; have hcB4_0 := blk_cell B4.out 0; have hfB4_0 := blk_frozen B4.out 0; have hcB4_1 := blk_cell B4.out 1; have hfB4_1 := blk_frozen B4.out 1; have hlB4 := blk_lt B4.out; simp at hcB4_0 hcB4_1) | (go_at_call 67; (with_reducible refine (yard_found.calls x y false 0 0 6 _ rfl).mono ?_); rintro e w5 ⟨rfl, hb⟩; have n4 := Aside0.mk (blk_below (blk_alloc B4.out _) hb); have nHB := Aside0.mk (below_step (below_alloc HB.out _) hb); clear hcB4_0 hcB4_1 hfB4_0 hfB4_1 hlB4; clear B4 HB; have B4 := n4; have HB := nHB; clear n4 nHB; have hcB4_0 := blk_cell B4.out 0; have hfB4_0 := blk_frozen B4.out 0; have hcB4_1 := blk_cell B4.out 1; have hfB4_1 := blk_frozen B4.out 1; have hlB4 := blk_lt B4.out; simp at hcB4_0 hcB4_1))
          refine bodyPost_ret (results_ct rfl _ _ (w.heap.size + 1 + 1) 23 #[.int .i64 0, .int .i64 0] (0, 0) _ rfl (by (with_reducible repeat (first | refine blk_drewN ?_ _ | refine blk_drew ?_ | refine blk_alloc ?_ _)); refine blk_put (cs := #[.int .i64 0, .int .i64 0]) ?_ 1 _ rfl; (with_reducible repeat (first | refine blk_drewN ?_ _ | refine blk_drew ?_ | refine blk_alloc ?_ _)); refine blk_put (cs := #[.int .i64 0, .int .i64 0]) ?_ 0 _ rfl; (with_reducible repeat (first | refine blk_drewN ?_ _ | refine blk_drew ?_ | refine blk_alloc ?_ _)); exact B4.out) Try.underlying23 rfl (by kernel_rfl)) rfl ?_
          exact ⟨rfl, by repeat (first | (with_reducible first | exact HB.out | apply below_alloc | apply pw_below_drewN | apply below_drew1 | refine below_set ?_ (by omega)) | exact HB.out)⟩
end Go.Proofs.Ythjodhmkmjabbaa.PY
