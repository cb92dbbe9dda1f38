-- Made by the session's own driver (wip/tools/p2.py) out of the translation; Lean checks it.
import Derived.Test.YthjodhmkmjabbaaSq
import Derived.Test.YthjodhmkmjabbaaPYx0
import Derived.Test.YthjodhmkmjabbaaPYx2
import Derived.Test.YthjodhmkmjabbaaPYx4
import Derived.Test.YthjodhmkmjabbaaPYx5
import Derived.Test.YthjodhmkmjabbaaPYx24
namespace Go.Proofs.Ythjodhmkmjabbaa.PY
open Go.RowKit Go.Proofs.YthjodhmkmjabbaaW.PrintWords Go.Proofs.YthjodhmkmjabbaaW.PrintLast Go.Proofs.YthjodhmkmjabbaaW.PrintMore
attribute [local go_sem] max2_int min2_int max_two min_two max_three min_three max_four min_four   -- for this text's walks alone
set_option linter.unusedVariables false
set_option linter.unusedSimpArgs false
/-! ### yard_Before: function 45 -/
def yard_Before.j0 : Nat → Int → Bool → Int → Int → Option (Int × Int × Int)
 | 0, _, _, _, _ => none
 | k + 1, x0, x13, x356000, x356001 => if x13 = true then (some (0, 0, 2)) else ((yard_before.f k x0 x356000 x356001).bind fun bt359 => ((yard_found.f bt359.1 bt359.2.1 bt359.2.2).bind fun bt362 => (some (bt362.1, bt362.2.1, bt362.2.2))))
def yard_Before.f (k : Nat) (a0 : Int) (a1_0 : Int) (a1_1 : Int) : Option (Int × Int × Int) := (yard_isRow.f a0).bind fun t357 => (if t357 = true then ((yard_isFrac.f k a1_0 a1_1).bind fun t358 => (yard_Before.j0 k a0 (!t358) a1_0 a1_1)) else (yard_Before.j0 k a0 true a1_0 a1_1))
theorem yard_Before.mono_l : ∀ k, (∀ y0 y1 y2 y3, LeO (yard_Before.j0 k y0 y1 y2 y3) (yard_Before.j0 (k + 1) y0 y1 y2 y3))
 | 0 => fun _ _ _ _ r h => by simp [yard_Before.j0] at h
 | k + 1 => by
  have ih0 := yard_Before.mono_l k
  ·intro y0 y1 y2 y3
   unfold yard_Before.j0
   repeat' first
   | (with_reducible exact ih0 _ _ _ _)
   | (with_reducible exact yard_before.mono _ _ _ _)
   | (with_reducible exact yard_isFrac.mono _ _ _)
   | (with_reducible exact LeO.refl _)
   | (with_reducible exact LeO.none _)
   | (with_reducible refine LeO.ite ?_ ?_)
   | (with_reducible refine LeO.bind ?_ (fun _ => ?_))
   | exact ih0 _ _ _ _
   | exact yard_before.mono _ _ _ _
   | exact yard_isFrac.mono _ _ _
   | exact LeO.none _
   | refine LeO.ite ?_ ?_
   | refine LeO.bind ?_ (fun _ => ?_)
theorem yard_Before.mono : ∀ a0 a1 a2 k, LeO (yard_Before.f k a0 a1 a2) (yard_Before.f (k + 1) a0 a1 a2) := by
 intro a0 a1 a2 k
 have ih0 := yard_Before.mono_l k
 unfold yard_Before.f
 repeat' first
  | (with_reducible exact ih0 _ _ _ _)
  | (with_reducible exact yard_before.mono _ _ _ _)
  | (with_reducible exact yard_isFrac.mono _ _ _)
  | (with_reducible exact LeO.refl _)
  | (with_reducible exact LeO.none _)
  | (with_reducible refine LeO.ite ?_ ?_)
  | (with_reducible refine LeO.bind ?_ (fun _ => ?_))
  | exact ih0 _ _ _ _
  | exact yard_before.mono _ _ _ _
  | exact yard_isFrac.mono _ _ _
  | exact LeO.none _
  | refine LeO.ite ?_ ?_
  | refine LeO.bind ?_ (fun _ => ?_)
set_option maxHeartbeats 8000000 in
set_option maxRecDepth 100000 in
theorem yard_Before.calls (k : Nat) (a0 : Int) (a1_0 : Int) (a1_1 : Int) (r1 : Int) (r2 : Int) (r3 : Int) (w : World) (h : yard_Before.f k a0 a1_0 a1_1 = some (r1, r2, r3)) :
 Calls Try.prog 45 #[.int .i64 a0, .agg #[.int .i64 a1_0, .int .i64 a1_1]] w fun e w' => e = .returned (.tuple #[.agg #[.int .i64 r1, .int .i64 r2], .int .i64 r3]) ∧ Below w.heap.size w w' := by
 have hu23 := Try.underlying23
 have HB := Aside0.mk (Below.refl w.heap.size w)
 have H : ((yard_isRow.f a0).bind fun t357 => (if t357 = true then ((yard_isFrac.f k a1_0 a1_1).bind fun t358 => (yard_Before.j0 k a0 (!t358) a1_0 a1_1)) else (yard_Before.j0 k a0 true a1_0 a1_1))) = some (r1, r2, r3) := h
 clear h
 have HC3 := Aside0.mk H
 clear H
 go_enter Try.func45, Try.ntmps45
 go_upto_region 1 with (first | ((with_reducible refine gate_dst (N := 3) rfl ?_); refine box_event ?hg (N := 3) ?hd (cs := #[.int .i64 a1_0, .int .i64 a1_1]) (t := 23) ?hr ?_; (case hd => rfl); (case hg => rfl); (case hr => first | (go_simp; done) | (go_simp; rfl)); intro gb355 hg w4 hbox hb; have BK355 := Aside0.mk (hbox); have GW355 := bG HB hg; have GE355 := bG HB hg; replace HB := bS HB hb; clear hb hbox hg) | ((with_reducible refine gate_dst (N := 4) rfl ?_); refine box_event ?hg (N := 4) ?hd (cs := #[.int .i64 0, .int .i64 0]) (t := 23) ?hr ?_; (case hd => rfl); (case hg => rfl); (case hr => first | (go_simp; done) | (go_simp; rfl)); intro gb356 hg w5 hbox hb; have BK356 := Aside0.mk (hbox); have GW356 := bG HB hg; have GE356 := bG HB hg; replace HB := bS HB hb; have NB355_356 := nL BK355 hg; have NB356_355 := nG BK355 hg; replace BK355 := kB BK355 hb; clear hb hbox hg))
 (try simp only [Act.put, List.setIfInBounds_toArray, List.set_cons_zero, List.set_cons_succ])
 go_cut [13] (fun v13 wc => ∃ (kq : Nat) (x13_2 : Bool), v13 = .bool x13_2 ∧ Aside0 (yard_Before.j0 kq a0 x13_2 a1_0 a1_1 = some (r1, r2, r3)) ∧ Aside0 (kq ≤ k) ∧ Aside0 (wc.heap[gb355]? = some (.cells #[.int .i64 a1_0, .int .i64 a1_1] 23 (0, 0))) ∧ Aside0 (wc.heap[gb356]? = some (.cells #[.int .i64 0, .int .i64 0] 23 (0, 0))) ∧ Aside0 (Below w.heap.size w wc))
 case first =>
  have H := HC3.out
  clear HC3
  replace H := Option.bind_eq_some_iff.mp H
  obtain ⟨t357, A60, H⟩ := H
  replace H : (if t357 = true then ((yard_isFrac.f k a1_0 a1_1).bind fun t358 => (yard_Before.j0 k a0 (!t358) a1_0 a1_1)) else (yard_Before.j0 k a0 true a1_0 a1_1)) = some (r1, r2, r3) := H
  have A6 := Aside0.mk A60
  clear A60
  by_cases c7 : t357 = true
  ·subst c7
   have H1 : ((yard_isFrac.f k a1_0 a1_1).bind fun t358 => (yard_Before.j0 k a0 (!t358) a1_0 a1_1)) = some (r1, r2, r3) := by rw [if_pos rfl] at H; exact H
   clear H
   have H := H1
   clear H1
   replace H := Option.bind_eq_some_iff.mp H
   obtain ⟨t358, A80, H⟩ := H
   replace H : (yard_Before.j0 k a0 (!t358) a1_0 a1_1) = some (r1, r2, r3) := H
   have A8 := Aside0.mk A80
   clear A80
   have H' := Aside0.mk H
   clear H
   go_wp2_with (first | ((with_reducible refine gate_callee (f := 69) rfl ?_); refine gL 7 Try.func69 #[.int .i64 a0] (h := ?_); (with_reducible refine (yard_isRow.calls a0 true _ A6.out).mono ?_); rintro e w' ⟨rfl, ⟨nd, rfl⟩⟩; refine ⟨_, rfl, ?_⟩; have hnb9 := NB355_356.out; have hnc9 := NB356_355.out; obtain ⟨hcz10_0, hcz10_1, hfz10_0, hfz10_1⟩ := cQ BK355) | (go_at_call 60; (with_reducible refine (yard_isFrac.calls k a1_0 a1_1 t358 _ A8.out).mono ?_); rintro e w11 ⟨rfl, hb⟩; replace BK355 := kB BK355 hb; replace BK356 := kB BK356 hb; replace HB := bS HB hb; (try clear hb); (try clear hb2); (try clear hk); (try clear hi)))
   go_meet
   case rel => exact ⟨_, (!t358), (by first | rfl | (simp; done) | (simp [*]; done)), H', ⟨by first | omega | exact Nat.le_refl _⟩, kA BK355, kA BK356, bA HB⟩
  ·replace c7 := Bool.eq_false_iff.mpr c7
   subst c7
   have H1 : (yard_Before.j0 k a0 true a1_0 a1_1) = some (r1, r2, r3) := by rw [if_neg (show ¬ (false = true) by decide)] at H; exact H
   clear H
   have H := H1
   clear H1
   have H' := Aside0.mk H
   clear H
   go_wp2_with (first | ((with_reducible refine gate_callee (f := 69) rfl ?_); refine gL 7 Try.func69 #[.int .i64 a0] (h := ?_); (with_reducible refine (yard_isRow.calls a0 false _ A6.out).mono ?_); rintro e w' ⟨rfl, ⟨nd, rfl⟩⟩; refine ⟨_, rfl, ?_⟩))
   go_meet
   case rel => exact ⟨_, (true), (by first | rfl | (simp; done) | (simp [*]; done)), H', ⟨by first | omega | exact Nat.le_refl _⟩, kA BK355, kA BK356, bA HB⟩
 case rest =>
  clear HC3
  try clear p2
  obtain ⟨kq, x13_2, rfl, HA, HJ2, BK355, BK356, HB⟩ := hcut
  cases kq with
  | zero => exact absurd HA.out (by simp [yard_Before.j0])
  | succ kj2 =>
   have H := HA.out
   clear HA
   simp only [yard_Before.j0] at H
   by_cases c12 : x13_2 = true
   ·subst c12
    have H1 : (some (0, 0, 2)) = some (r1, r2, r3) := by rw [if_pos rfl] at H; exact H
    clear H
    have H := H1
    clear H1
    simp only [Option.some.injEq, Prod.mk.injEq] at H
    obtain ⟨rfl, rfl, rfl⟩ := H
    have hnb13 := NB356_355.out
    have hnc13 := NB355_356.out
    obtain ⟨hcz14_0, hcz14_1, hfz14_0, hfz14_1⟩ := cQ BK356
    go_wp2
    refine bodyPost_ret (results_ct rfl _ _ gb356 23 #[.int .i64 0, .int .i64 0] (0, 0) _ rfl (by (with_reducible repeat (first | refine blk_drewN ?_ _ | refine blk_drew ?_ | refine blk_alloc ?_ _)); refine blk_put (cs := #[.int .i64 0, .int .i64 0]) ?_ 1 _ rfl; (with_reducible repeat (first | refine blk_drewN ?_ _ | refine blk_drew ?_ | refine blk_alloc ?_ _)); refine blk_put (cs := #[.int .i64 0, .int .i64 0]) ?_ 0 _ rfl; (with_reducible repeat (first | refine blk_drewN ?_ _ | refine blk_drew ?_ | refine blk_alloc ?_ _)); exact BK356.out) Try.underlying23 rfl (by kernel_rfl)) rfl ?_
    exact ⟨by first | rfl | (simp [errW_none, errW_some] <;> rfl) | (simp [*, errW_none, errW_some] <;> rfl), bB HB⟩
   ·replace c12 := Bool.eq_false_iff.mpr c12
    subst c12
    have H1 : ((yard_before.f kj2 a0 a1_0 a1_1).bind fun bt359 => ((yard_found.f bt359.1 bt359.2.1 bt359.2.2).bind fun bt362 => (some (bt362.1, bt362.2.1, bt362.2.2)))) = some (r1, r2, r3) := by rw [if_neg (show ¬ (false = true) by decide)] at H; exact H
    clear H
    have H := H1
    clear H1
    replace H := Option.bind_eq_some_iff.mp H
    obtain ⟨⟨t359, t360, t361⟩, A150, H⟩ := H
    replace H : ((yard_found.f t359 t360 t361).bind fun bt362 => (some (bt362.1, bt362.2.1, bt362.2.2))) = some (r1, r2, r3) := H
    have A15 := Aside0.mk A150
    clear A150
    replace H := Option.bind_eq_some_iff.mp H
    obtain ⟨⟨t362, t363, t364⟩, A160, H⟩ := H
    replace H : (some (t362, t363, t364)) = some (r1, r2, r3) := H
    have A16 := Aside0.mk A160
    clear A160
    simp only [Option.some.injEq, Prod.mk.injEq] at H
    obtain ⟨rfl, rfl, rfl⟩ := H
    have hnb17 := NB355_356.out
    have hnc17 := NB356_355.out
    obtain ⟨hcz18_0, hcz18_1, hfz18_0, hfz18_1⟩ := cQ BK355
    go_wp2_with (first | ((with_reducible refine gate_callee (f := 74) rfl ?_); refine gL 17 Try.func74 #[.int .i64 a0, .agg #[.int .i64 a1_0, .int .i64 a1_1]] (h := ?_); (with_reducible refine (yard_before.calls kj2 a0 a1_0 a1_1 t359 t360 t361 _ A15.out).mono ?_); rintro e w19 ⟨rfl, hb⟩; refine ⟨_, rfl, ?_⟩; replace BK355 := kB BK355 hb; replace BK356 := kB BK356 hb; replace HB := bS HB hb; (try clear hb); (try clear hb2); (try clear hk); (try clear hi)) | ((with_reducible refine gate_callee (f := 67) rfl ?_); refine gL 20 Try.func67 #[.agg #[.int .i64 t359, .int .i64 t360], .bool t361] (h := ?_); (with_reducible refine (yard_found.calls t359 t360 t361 t362 t363 t364 _ A16.out).mono ?_); rintro e w20 ⟨rfl, hb⟩; refine ⟨_, rfl, ?_⟩; replace BK355 := kB BK355 hb; replace BK356 := kB BK356 hb; replace HB := bS HB hb; (try clear hb); (try clear hb2); (try clear hk); (try clear hi); obtain ⟨hcz21_0, hcz21_1, hfz21_0, hfz21_1⟩ := cQ BK356))
    refine bodyPost_ret (results_ct rfl _ _ gb356 23 #[.int .i64 t362, .int .i64 t363] (0, 0) _ rfl (by (with_reducible repeat (first | refine blk_drewN ?_ _ | refine blk_drew ?_ | refine blk_alloc ?_ _)); refine blk_put (cs := #[.int .i64 t362, .int .i64 0]) ?_ 1 _ rfl; (with_reducible repeat (first | refine blk_drewN ?_ _ | refine blk_drew ?_ | refine blk_alloc ?_ _)); refine blk_put (cs := #[.int .i64 0, .int .i64 0]) ?_ 0 _ rfl; (with_reducible repeat (first | refine blk_drewN ?_ _ | refine blk_drew ?_ | refine blk_alloc ?_ _)); exact BK356.out) Try.underlying23 rfl (by kernel_rfl)) rfl ?_
    exact ⟨by first | rfl | (simp [errW_none, errW_some] <;> rfl) | (simp [*, errW_none, errW_some] <;> rfl), bB HB⟩
/-! ### yard_Next: function 46 -/
def yard_Next.j0 : Nat → Int → Bool → Int → Int → Option (Int × Int × Int)
 | 0, _, _, _, _ => none
 | k + 1, x0, x13, x366000, x366001 => if x13 = true then (some (0, 0, 2)) else ((yard_next.f k x0 x366000 x366001).bind fun bt369 => ((yard_found.f bt369.1 bt369.2.1 bt369.2.2).bind fun bt372 => (some (bt372.1, bt372.2.1, bt372.2.2))))
def yard_Next.f (k : Nat) (a0 : Int) (a1_0 : Int) (a1_1 : Int) : Option (Int × Int × Int) := (yard_isRow.f a0).bind fun t367 => (if t367 = true then ((yard_isFrac.f k a1_0 a1_1).bind fun t368 => (yard_Next.j0 k a0 (!t368) a1_0 a1_1)) else (yard_Next.j0 k a0 true a1_0 a1_1))
theorem yard_Next.mono_l : ∀ k, (∀ y0 y1 y2 y3, LeO (yard_Next.j0 k y0 y1 y2 y3) (yard_Next.j0 (k + 1) y0 y1 y2 y3))
 | 0 => fun _ _ _ _ r h => by simp [yard_Next.j0] at h
 | k + 1 => by
  have ih0 := yard_Next.mono_l k
  ·intro y0 y1 y2 y3
   unfold yard_Next.j0
   repeat' first
   | (with_reducible exact ih0 _ _ _ _)
   | (with_reducible exact yard_isFrac.mono _ _ _)
   | (with_reducible exact yard_next.mono _ _ _ _)
   | (with_reducible exact LeO.refl _)
   | (with_reducible exact LeO.none _)
   | (with_reducible refine LeO.ite ?_ ?_)
   | (with_reducible refine LeO.bind ?_ (fun _ => ?_))
   | exact ih0 _ _ _ _
   | exact yard_isFrac.mono _ _ _
   | exact yard_next.mono _ _ _ _
   | exact LeO.none _
   | refine LeO.ite ?_ ?_
   | refine LeO.bind ?_ (fun _ => ?_)
theorem yard_Next.mono : ∀ a0 a1 a2 k, LeO (yard_Next.f k a0 a1 a2) (yard_Next.f (k + 1) a0 a1 a2) := by
 intro a0 a1 a2 k
 have ih0 := yard_Next.mono_l k
 unfold yard_Next.f
 repeat' first
  | (with_reducible exact ih0 _ _ _ _)
  | (with_reducible exact yard_isFrac.mono _ _ _)
  | (with_reducible exact yard_next.mono _ _ _ _)
  | (with_reducible exact LeO.refl _)
  | (with_reducible exact LeO.none _)
  | (with_reducible refine LeO.ite ?_ ?_)
  | (with_reducible refine LeO.bind ?_ (fun _ => ?_))
  | exact ih0 _ _ _ _
  | exact yard_isFrac.mono _ _ _
  | exact yard_next.mono _ _ _ _
  | exact LeO.none _
  | refine LeO.ite ?_ ?_
  | refine LeO.bind ?_ (fun _ => ?_)
set_option maxHeartbeats 8000000 in
set_option maxRecDepth 100000 in
theorem yard_Next.calls (k : Nat) (a0 : Int) (a1_0 : Int) (a1_1 : Int) (r1 : Int) (r2 : Int) (r3 : Int) (w : World) (h : yard_Next.f k a0 a1_0 a1_1 = some (r1, r2, r3)) :
 Calls Try.prog 46 #[.int .i64 a0, .agg #[.int .i64 a1_0, .int .i64 a1_1]] w fun e w' => e = .returned (.tuple #[.agg #[.int .i64 r1, .int .i64 r2], .int .i64 r3]) ∧ Below w.heap.size w w' := by
 have hu23 := Try.underlying23
 have HB := Aside0.mk (Below.refl w.heap.size w)
 have H : ((yard_isRow.f a0).bind fun t367 => (if t367 = true then ((yard_isFrac.f k a1_0 a1_1).bind fun t368 => (yard_Next.j0 k a0 (!t368) a1_0 a1_1)) else (yard_Next.j0 k a0 true a1_0 a1_1))) = some (r1, r2, r3) := h
 clear h
 have HC3 := Aside0.mk H
 clear H
 go_enter Try.func46, Try.ntmps46
 go_upto_region 1 with (first | ((with_reducible refine gate_dst (N := 3) rfl ?_); refine box_event ?hg (N := 3) ?hd (cs := #[.int .i64 a1_0, .int .i64 a1_1]) (t := 23) ?hr ?_; (case hd => rfl); (case hg => rfl); (case hr => first | (go_simp; done) | (go_simp; rfl)); intro gb365 hg w4 hbox hb; have BK365 := Aside0.mk (hbox); have GW365 := bG HB hg; have GE365 := bG HB hg; replace HB := bS HB hb; clear hb hbox hg) | ((with_reducible refine gate_dst (N := 4) rfl ?_); refine box_event ?hg (N := 4) ?hd (cs := #[.int .i64 0, .int .i64 0]) (t := 23) ?hr ?_; (case hd => rfl); (case hg => rfl); (case hr => first | (go_simp; done) | (go_simp; rfl)); intro gb366 hg w5 hbox hb; have BK366 := Aside0.mk (hbox); have GW366 := bG HB hg; have GE366 := bG HB hg; replace HB := bS HB hb; have NB365_366 := nL BK365 hg; have NB366_365 := nG BK365 hg; replace BK365 := kB BK365 hb; clear hb hbox hg))
 (try simp only [Act.put, List.setIfInBounds_toArray, List.set_cons_zero, List.set_cons_succ])
 go_cut [13] (fun v13 wc => ∃ (kq : Nat) (x13_2 : Bool), v13 = .bool x13_2 ∧ Aside0 (yard_Next.j0 kq a0 x13_2 a1_0 a1_1 = some (r1, r2, r3)) ∧ Aside0 (kq ≤ k) ∧ Aside0 (wc.heap[gb365]? = some (.cells #[.int .i64 a1_0, .int .i64 a1_1] 23 (0, 0))) ∧ Aside0 (wc.heap[gb366]? = some (.cells #[.int .i64 0, .int .i64 0] 23 (0, 0))) ∧ Aside0 (Below w.heap.size w wc))
 case first =>
  have H := HC3.out
  clear HC3
  replace H := Option.bind_eq_some_iff.mp H
  obtain ⟨t367, A60, H⟩ := H
  replace H : (if t367 = true then ((yard_isFrac.f k a1_0 a1_1).bind fun t368 => (yard_Next.j0 k a0 (!t368) a1_0 a1_1)) else (yard_Next.j0 k a0 true a1_0 a1_1)) = some (r1, r2, r3) := H
  have A6 := Aside0.mk A60
  clear A60
  by_cases c7 : t367 = true
  ·subst c7
   have H1 : ((yard_isFrac.f k a1_0 a1_1).bind fun t368 => (yard_Next.j0 k a0 (!t368) a1_0 a1_1)) = some (r1, r2, r3) := by rw [if_pos rfl] at H; exact H
   clear H
   have H := H1
   clear H1
   replace H := Option.bind_eq_some_iff.mp H
   obtain ⟨t368, A80, H⟩ := H
   replace H : (yard_Next.j0 k a0 (!t368) a1_0 a1_1) = some (r1, r2, r3) := H
   have A8 := Aside0.mk A80
   clear A80
   have H' := Aside0.mk H
   clear H
   go_wp2_with (first | ((with_reducible refine gate_callee (f := 69) rfl ?_); refine gL 7 Try.func69 #[.int .i64 a0] (h := ?_); (with_reducible refine (yard_isRow.calls a0 true _ A6.out).mono ?_); rintro e w' ⟨rfl, ⟨nd, rfl⟩⟩; refine ⟨_, rfl, ?_⟩; have hnb9 := NB365_366.out; have hnc9 := NB366_365.out; obtain ⟨hcz10_0, hcz10_1, hfz10_0, hfz10_1⟩ := cQ BK365) | (go_at_call 60; (with_reducible refine (yard_isFrac.calls k a1_0 a1_1 t368 _ A8.out).mono ?_); rintro e w11 ⟨rfl, hb⟩; replace BK365 := kB BK365 hb; replace BK366 := kB BK366 hb; replace HB := bS HB hb; (try clear hb); (try clear hb2); (try clear hk); (try clear hi)))
   go_meet
   case rel => exact ⟨_, (!t368), (by first | rfl | (simp; done) | (simp [*]; done)), H', ⟨by first | omega | exact Nat.le_refl _⟩, kA BK365, kA BK366, bA HB⟩
  ·replace c7 := Bool.eq_false_iff.mpr c7
   subst c7
   have H1 : (yard_Next.j0 k a0 true a1_0 a1_1) = some (r1, r2, r3) := by rw [if_neg (show ¬ (false = true) by decide)] at H; exact H
   clear H
   have H := H1
   clear H1
   have H' := Aside0.mk H
   clear H
   go_wp2_with (first | ((with_reducible refine gate_callee (f := 69) rfl ?_); refine gL 7 Try.func69 #[.int .i64 a0] (h := ?_); (with_reducible refine (yard_isRow.calls a0 false _ A6.out).mono ?_); rintro e w' ⟨rfl, ⟨nd, rfl⟩⟩; refine ⟨_, rfl, ?_⟩))
   go_meet
   case rel => exact ⟨_, (true), (by first | rfl | (simp; done) | (simp [*]; done)), H', ⟨by first | omega | exact Nat.le_refl _⟩, kA BK365, kA BK366, bA HB⟩
 case rest =>
  clear HC3
  try clear p2
  obtain ⟨kq, x13_2, rfl, HA, HJ2, BK365, BK366, HB⟩ := hcut
  cases kq with
  | zero => exact absurd HA.out (by simp [yard_Next.j0])
  | succ kj2 =>
   have H := HA.out
   clear HA
   simp only [yard_Next.j0] at H
   by_cases c12 : x13_2 = true
   ·subst c12
    have H1 : (some (0, 0, 2)) = some (r1, r2, r3) := by rw [if_pos rfl] at H; exact H
    clear H
    have H := H1
    clear H1
    simp only [Option.some.injEq, Prod.mk.injEq] at H
    obtain ⟨rfl, rfl, rfl⟩ := H
    have hnb13 := NB366_365.out
    have hnc13 := NB365_366.out
    obtain ⟨hcz14_0, hcz14_1, hfz14_0, hfz14_1⟩ := cQ BK366
    go_wp2
    refine bodyPost_ret (results_ct rfl _ _ gb366 23 #[.int .i64 0, .int .i64 0] (0, 0) _ rfl (by (with_reducible repeat (first | refine blk_drewN ?_ _ | refine blk_drew ?_ | refine blk_alloc ?_ _)); refine blk_put (cs := #[.int .i64 0, .int .i64 0]) ?_ 1 _ rfl; (with_reducible repeat (first | refine blk_drewN ?_ _ | refine blk_drew ?_ | refine blk_alloc ?_ _)); refine blk_put (cs := #[.int .i64 0, .int .i64 0]) ?_ 0 _ rfl; (with_reducible repeat (first | refine blk_drewN ?_ _ | refine blk_drew ?_ | refine blk_alloc ?_ _)); exact BK366.out) Try.underlying23 rfl (by kernel_rfl)) rfl ?_
    exact ⟨by first | rfl | (simp [errW_none, errW_some] <;> rfl) | (simp [*, errW_none, errW_some] <;> rfl), bB HB⟩
   ·replace c12 := Bool.eq_false_iff.mpr c12
    subst c12
    have H1 : ((yard_next.f kj2 a0 a1_0 a1_1).bind fun bt369 => ((yard_found.f bt369.1 bt369.2.1 bt369.2.2).bind fun bt372 => (some (bt372.1, bt372.2.1, bt372.2.2)))) = some (r1, r2, r3) := by rw [if_neg (show ¬ (false = true) by decide)] at H; exact H
    clear H
    have H := H1
    clear H1
    replace H := Option.bind_eq_some_iff.mp H
    obtain ⟨⟨t369, t370, t371⟩, A150, H⟩ := H
    replace H : ((yard_found.f t369 t370 t371).bind fun bt372 => (some (bt372.1, bt372.2.1, bt372.2.2))) = some (r1, r2, r3) := H
    have A15 := Aside0.mk A150
    clear A150
    replace H := Option.bind_eq_some_iff.mp H
    obtain ⟨⟨t372, t373, t374⟩, A160, H⟩ := H
    replace H : (some (t372, t373, t374)) = some (r1, r2, r3) := H
    have A16 := Aside0.mk A160
    clear A160
    simp only [Option.some.injEq, Prod.mk.injEq] at H
    obtain ⟨rfl, rfl, rfl⟩ := H
    have hnb17 := NB365_366.out
    have hnc17 := NB366_365.out
    obtain ⟨hcz18_0, hcz18_1, hfz18_0, hfz18_1⟩ := cQ BK365
    go_wp2_with (first | ((with_reducible refine gate_callee (f := 75) rfl ?_); refine gL 17 Try.func75 #[.int .i64 a0, .agg #[.int .i64 a1_0, .int .i64 a1_1]] (h := ?_); (with_reducible refine (yard_next.calls kj2 a0 a1_0 a1_1 t369 t370 t371 _ A15.out).mono ?_); rintro e w19 ⟨rfl, hb⟩; refine ⟨_, rfl, ?_⟩; replace BK365 := kB BK365 hb; replace BK366 := kB BK366 hb; replace HB := bS HB hb; (try clear hb); (try clear hb2); (try clear hk); (try clear hi)) | ((with_reducible refine gate_callee (f := 67) rfl ?_); refine gL 20 Try.func67 #[.agg #[.int .i64 t369, .int .i64 t370], .bool t371] (h := ?_); (with_reducible refine (yard_found.calls t369 t370 t371 t372 t373 t374 _ A16.out).mono ?_); rintro e w20 ⟨rfl, hb⟩; refine ⟨_, rfl, ?_⟩; replace BK365 := kB BK365 hb; replace BK366 := kB BK366 hb; replace HB := bS HB hb; (try clear hb); (try clear hb2); (try clear hk); (try clear hi); obtain ⟨hcz21_0, hcz21_1, hfz21_0, hfz21_1⟩ := cQ BK366))
    refine bodyPost_ret (results_ct rfl _ _ gb366 23 #[.int .i64 t372, .int .i64 t373] (0, 0) _ rfl (by (with_reducible repeat (first | refine blk_drewN ?_ _ | refine blk_drew ?_ | refine blk_alloc ?_ _)); refine blk_put (cs := #[.int .i64 t372, .int .i64 0]) ?_ 1 _ rfl; (with_reducible repeat (first | refine blk_drewN ?_ _ | refine blk_drew ?_ | refine blk_alloc ?_ _)); refine blk_put (cs := #[.int .i64 0, .int .i64 0]) ?_ 0 _ rfl; (with_reducible repeat (first | refine blk_drewN ?_ _ | refine blk_drew ?_ | refine blk_alloc ?_ _)); exact BK366.out) Try.underlying23 rfl (by kernel_rfl)) rfl ?_
    exact ⟨by first | rfl | (simp [errW_none, errW_some] <;> rfl) | (simp [*, errW_none, errW_some] <;> rfl), bB HB⟩
end Go.Proofs.Ythjodhmkmjabbaa.PY
