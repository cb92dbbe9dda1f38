-- Made by the session's own driver (wip/tools/p2.py) out of the translation; Lean checks it.
import Derived.Test.YthjodhmkmjabbaaSq
import Derived.Test.YthjodhmkmjabbaaPYx0
import Derived.Test.YthjodhmkmjabbaaPYx3
namespace Go.Proofs.Ythjodhmkmjabbaa.PY
open Go.RowKit Go.Proofs.YthjodhmkmjabbaaW.PrintWords Go.Proofs.YthjodhmkmjabbaaW.PrintLast Go.Proofs.YthjodhmkmjabbaaW.PrintMore
attribute [local go_sem] max2_int min2_int max_two min_two max_three min_three max_four min_four   -- for this text's walks alone
set_option linter.unusedVariables false
set_option linter.unusedSimpArgs false
/-! ### galloonlaw03_mod: function 47 -/
def galloonlaw03_mod.f (a0 : Int) (a1 : Int) : Option (Int) := if (IntKind.u64.wrap (a1)) = 0 then (none) else (some (wrap64 (Int.tmod (IntKind.u64.wrap (a0)) (IntKind.u64.wrap (a1)))))
set_option maxHeartbeats 8000000 in
set_option maxRecDepth 100000 in
theorem galloonlaw03_mod.calls (a0 : Int) (a1 : Int) (r : Int) (w : World) (h : galloonlaw03_mod.f a0 a1 = some r) :
 Calls Try.prog 47 #[.int .i64 a0, .int .i64 a1] w fun e w' => e = .returned (.int .i64 r) ∧ Drawn0 w w' := by
 have H : (if (IntKind.u64.wrap (a1)) = 0 then (none) else (some (wrap64 (Int.tmod (IntKind.u64.wrap (a0)) (IntKind.u64.wrap (a1)))))) = some r := h
 clear h
 by_cases c3 : (IntKind.u64.wrap (a1)) = 0
 ·rw [if_pos c3] at H
  exact absurd H (by simp)
 ·rw [if_neg c3] at H
  have c3b0 : ((IntKind.u64.wrap (a1)) == 0) = false := beq_eq_false_iff_ne.mpr c3
  have c3b1 : ((IntKind.u64.wrap (a1)) != 0) = true := bne_iff_ne.mpr c3
  obtain rfl := Option.some.inj H
  go_enter Try.func47, Try.ntmps47
  go_wp2
  go_ret
  exact ⟨by first | rfl | (simp; done) | (simp [*]; done), by repeat (first | exact Drawn0.refl _ | apply Drawn0.step)⟩
/-! ### galloonlaw03_tame: function 26 -/
def galloonlaw03_tame.f (k : Nat) (a0_0 : Int) (a0_1 : Int) (a1 : Int) : Option (Int × Int) := (galloonlaw03_mod.f (wrap64 (a0_1 - 1)) a1).bind fun t195 => ((galloonlaw03_mod.f a0_0 (wrap64 ((wrap64 (1 + t195)) + 1))).bind fun t196 => ((galloonref03_Gcd.f k t196 (wrap64 (1 + t195))).bind fun t197 => (if t197 = 0 then (none) else (some (wrap64 (Int.tdiv t196 t197), wrap64 (Int.tdiv (wrap64 (1 + t195)) t197))))))
theorem galloonlaw03_tame.mono : ∀ a0 a1 a2 k, LeO (galloonlaw03_tame.f k a0 a1 a2) (galloonlaw03_tame.f (k + 1) a0 a1 a2) := by
 intro a0 a1 a2 k
 unfold galloonlaw03_tame.f
 repeat' first
  | (with_reducible exact galloonref03_Gcd.mono _ _ _)
  | (with_reducible exact LeO.refl _)
  | (with_reducible exact LeO.none _)
  | (with_reducible refine LeO.ite ?_ ?_)
  | (with_reducible refine LeO.bind ?_ (fun _ => ?_))
  | exact galloonref03_Gcd.mono _ _ _
  | exact LeO.none _
  | refine LeO.ite ?_ ?_
  | refine LeO.bind ?_ (fun _ => ?_)
def galloonlaw03_tame.T4 : Bool × List (List Nat × List Nat) := (true, [([], []), ([], []), ([0, 1], [0, 1]), ([], []), ([], []), ([3, 4], [3, 4]), ([2, 5], [2, 5]), ([6, 0, 1, 2, 3, 4, 5, 6], [6])])
def galloonlaw03_tame.B4 : List Nat := [0, 0, 3, 0, 0, 24, 63, 127]
theorem galloonlaw03_tame.tab4 : rtab .any (opsOf Try.f26 4) = galloonlaw03_tame.T4 := by kernel_rfl
theorem galloonlaw03_tame.bits4 : waitsOk galloonlaw03_tame.T4.2 galloonlaw03_tame.B4 = true := by kernel_rfl
set_option maxHeartbeats 8000000 in
set_option maxRecDepth 100000 in
theorem galloonlaw03_tame.calls (k : Nat) (a0_0 : Int) (a0_1 : Int) (a1 : Int) (r1 : Int) (r2 : Int) (w : World) (h : galloonlaw03_tame.f k a0_0 a0_1 a1 = some (r1, r2)) :
 Calls Try.prog 26 #[.agg #[.int .i64 a0_0, .int .i64 a0_1], .int .i64 a1] w fun e w' => e = .returned (.agg #[.int .i64 r1, .int .i64 r2]) ∧ Below w.heap.size w w' := by
 have hu23 := Try.underlying23
 have HB := Aside0.mk (Below.refl w.heap.size w)
 have H : ((galloonlaw03_mod.f (wrap64 (a0_1 - 1)) a1).bind fun t195 => ((galloonlaw03_mod.f a0_0 (wrap64 ((wrap64 (1 + t195)) + 1))).bind fun t196 => ((galloonref03_Gcd.f k t196 (wrap64 (1 + t195))).bind fun t197 => (if t197 = 0 then (none) else (some (wrap64 (Int.tdiv t196 t197), wrap64 (Int.tdiv (wrap64 (1 + t195)) t197))))))) = some (r1, r2) := h
 clear h
 replace H := Option.bind_eq_some_iff.mp H
 obtain ⟨t195, A30, H⟩ := H
 replace H : ((galloonlaw03_mod.f a0_0 (wrap64 ((wrap64 (1 + t195)) + 1))).bind fun t196 => ((galloonref03_Gcd.f k t196 (wrap64 (1 + t195))).bind fun t197 => (if t197 = 0 then (none) else (some (wrap64 (Int.tdiv t196 t197), wrap64 (Int.tdiv (wrap64 (1 + t195)) t197)))))) = some (r1, r2) := H
 have A3 := Aside0.mk A30
 clear A30
 replace H := Option.bind_eq_some_iff.mp H
 obtain ⟨t196, A40, H⟩ := H
 replace H : ((galloonref03_Gcd.f k t196 (wrap64 (1 + t195))).bind fun t197 => (if t197 = 0 then (none) else (some (wrap64 (Int.tdiv t196 t197), wrap64 (Int.tdiv (wrap64 (1 + t195)) t197))))) = some (r1, r2) := H
 have A4 := Aside0.mk A40
 clear A40
 replace H := Option.bind_eq_some_iff.mp H
 obtain ⟨t197, A50, H⟩ := H
 replace H : (if t197 = 0 then (none) else (some (wrap64 (Int.tdiv t196 t197), wrap64 (Int.tdiv (wrap64 (1 + t195)) t197)))) = some (r1, r2) := H
 have A5 := Aside0.mk A50
 clear A50
 by_cases c6 : t197 = 0
 ·rw [if_pos c6] at H
  exact absurd H (by simp)
 ·rw [if_neg c6] at H
  have c6b0 : (t197 == 0) = false := beq_eq_false_iff_ne.mpr c6
  have c6b1 : (t197 != 0) = true := bne_iff_ne.mpr c6
  simp only [Option.some.injEq, Prod.mk.injEq] at H
  obtain ⟨rfl, rfl⟩ := H
  go_enter Try.func26, Try.ntmps26
  try go_wp2_with (first | ((with_reducible refine gate_dst (N := 2) rfl ?_); refine box_event ?hg (N := 2) ?hd (cs := #[.int .i64 a0_0, .int .i64 a0_1]) (t := 23) ?hr ?_; (case hd => rfl); (case hg => rfl); (case hr => first | (go_simp; done) | (go_simp; rfl)); intro gb193 hg w7 hbox hb; have BK193 := Aside0.mk (hbox); have GW193 := bG HB hg; have GE193 := bG HB hg; replace HB := bS HB hb; clear hb hbox hg) | ((with_reducible refine gate_dst (N := 4) rfl ?_); refine box_event ?hg (N := 4) ?hd (cs := #[.int .i64 0, .int .i64 0]) (t := 23) ?hr ?_; (case hd => rfl); (case hg => rfl); (case hr => first | (go_simp; done) | (go_simp; rfl)); intro gb194 hg w8 hbox hb; have BK194 := Aside0.mk (hbox); have GW194 := bG HB hg; have GE194 := bG HB hg; replace HB := bS HB hb; have NB193_194 := nL BK193 hg; have NB194_193 := nG BK193 hg; replace BK193 := kB BK193 hb; clear hb hbox hg; have hnb9 := NB193_194.out; have hnc9 := NB194_193.out; obtain ⟨hcz10_0, hcz10_1, hfz10_0, hfz10_1⟩ := cQ BK193) | ((with_reducible refine gate_callee (f := 47) rfl ?_); refine gL 12 Try.func47 #[.int .i64 (wrap64 (a0_1 - 1)), .int .i64 a1] (h := ?_); (with_reducible refine (galloonlaw03_mod.calls (wrap64 (a0_1 - 1)) a1 t195 _ A3.out).mono ?_); rintro e w' ⟨rfl, ⟨nd, rfl⟩⟩; refine ⟨_, rfl, ?_⟩; (try (rw [drewN_self w8]; generalize hq_ : World.drewN w8 _ = w8; have n0_ : Aside0 (w8.heap[gb193]? = some (.cells #[.int .i64 a0_0, .int .i64 a0_1] 23 (0, 0))) := ⟨by rw [← hq_]; exact (kb BK193)⟩; have n1_ : Aside0 (w8.heap[gb194]? = some (.cells #[.int .i64 0, .int .i64 0] 23 (0, 0))) := ⟨by rw [← hq_]; exact (kb BK194)⟩; have n2_ : Aside0 (Below w.heap.size w w8) := ⟨by rw [← hq_]; exact (bB HB)⟩; clear BK193 BK194 HB hq_; have BK193 := n0_; have BK194 := n1_; have HB := n2_; clear n0_ n1_ n2_; have hcz10_0 : w8.cell? ⟨gb193, 0, none⟩ = some (.int .i64 a0_0) := (blk_cell BK193.out 0).trans rfl; have hcz10_1 : w8.cell? ⟨gb193, 1, none⟩ = some (.int .i64 a0_1) := (blk_cell BK193.out 1).trans rfl; have hfz10_0 := blk_frozen BK193.out 0; have hfz10_1 := blk_frozen BK193.out 1))) | ((with_reducible refine gate_callee (f := 47) rfl ?_); refine gL 18 Try.func47 #[.int .i64 a0_0, .int .i64 (wrap64 ((wrap64 (1 + t195)) + 1))] (h := ?_); (with_reducible refine (galloonlaw03_mod.calls a0_0 (wrap64 ((wrap64 (1 + t195)) + 1)) t196 _ A4.out).mono ?_); rintro e w' ⟨rfl, ⟨nd, rfl⟩⟩; refine ⟨_, rfl, ?_⟩; (try (rw [drewN_self w8]; generalize hq_ : World.drewN w8 _ = w8; have n0_ : Aside0 (w8.heap[gb193]? = some (.cells #[.int .i64 a0_0, .int .i64 a0_1] 23 (0, 0))) := ⟨by rw [← hq_]; exact (kb BK193)⟩; have n1_ : Aside0 (w8.heap[gb194]? = some (.cells #[.int .i64 0, .int .i64 0] 23 (0, 0))) := ⟨by rw [← hq_]; exact (kb BK194)⟩; have n2_ : Aside0 (Below w.heap.size w w8) := ⟨by rw [← hq_]; exact (bB HB)⟩; clear BK193 BK194 HB hq_; have BK193 := n0_; have BK194 := n1_; have HB := n2_; clear n0_ n1_ n2_; have hcz10_0 : w8.cell? ⟨gb193, 0, none⟩ = some (.int .i64 a0_0) := (blk_cell BK193.out 0).trans rfl; have hcz10_1 : w8.cell? ⟨gb193, 1, none⟩ = some (.int .i64 a0_1) := (blk_cell BK193.out 1).trans rfl; have hfz10_0 := blk_frozen BK193.out 0; have hfz10_1 := blk_frozen BK193.out 1))) | ((with_reducible refine gate_callee (f := 28) rfl ?_); refine gL 21 Try.func28 #[.int .i64 t196, .int .i64 (wrap64 (1 + t195))] (h := ?_); (with_reducible refine (galloonref03_Gcd.calls k t196 (wrap64 (1 + t195)) t197 _ A5.out).mono ?_); rintro e w' ⟨rfl, ⟨nd, rfl⟩⟩; refine ⟨_, rfl, ?_⟩; (try (rw [drewN_self w8]; generalize hq_ : World.drewN w8 _ = w8; have n0_ : Aside0 (w8.heap[gb193]? = some (.cells #[.int .i64 a0_0, .int .i64 a0_1] 23 (0, 0))) := ⟨by rw [← hq_]; exact (kb BK193)⟩; have n1_ : Aside0 (w8.heap[gb194]? = some (.cells #[.int .i64 0, .int .i64 0] 23 (0, 0))) := ⟨by rw [← hq_]; exact (kb BK194)⟩; have n2_ : Aside0 (Below w.heap.size w w8) := ⟨by rw [← hq_]; exact (bB HB)⟩; clear BK193 BK194 HB hq_; have BK193 := n0_; have BK194 := n1_; have HB := n2_; clear n0_ n1_ n2_; have hcz10_0 : w8.cell? ⟨gb193, 0, none⟩ = some (.int .i64 a0_0) := (blk_cell BK193.out 0).trans rfl; have hcz10_1 : w8.cell? ⟨gb193, 1, none⟩ = some (.int .i64 a0_1) := (blk_cell BK193.out 1).trans rfl; have hfz10_0 := blk_frozen BK193.out 0; have hfz10_1 := blk_frozen BK193.out 1))))
  replace BK193 := Aside0.mk (blk_drew BK193.out)
  replace BK194 := Aside0.mk (blk_drew BK194.out)
  replace HB := Aside0.mk (below_drew1 HB.out)
  refine start_ (n := 8) (S := fun w' => True) (ds := []) (lb 8 0) (by kernel_rfl) rfl rfl trivial (fun hHeld => ?_); refine with_tabW galloonlaw03_tame.tab4 galloonlaw03_tame.bits4 (fun HT_ HW_ => ?_)
  generalize w8.drew = w11 at BK193 BK194 HB hHeld ⊢
  refine pk HT_ 8 1 0 22 (h := ?_)
  refine pk HT_ 8 3 1 23 (h := ?_)
  refine pk HT_ 8 7 2 24 (h := ?_)
  refine pk HT_ 8 15 3 25 (h := ?_)
  refine pk HT_ 8 31 4 26 (h := ?_)
  refine pk HT_ 8 63 5 27 (h := ?_)
  refine pk HT_ 8 127 6 28 (h := ?_)
  refine one_ (i := 7) (N := none) (lb 8 255) rfl rfl (one_of HT_.out (by kernel_rfl)) (by decide) (fun K hK => ?_)
  have hs12 : w11.cell? ⟨gb194, 0, none⟩ = some (.int .i64 0) := (blk_cell BK194.out 0).trans rfl
  have hfs12 := blk_frozen BK194.out 0
  have hns12_0 := NB193_194.out
  have hms12_0 := NB194_193.out
  have hs13 : w11.cell? ⟨gb194, 1, none⟩ = some (.int .i64 0) := (blk_cell BK194.out 1).trans rfl
  have hfs13 := blk_frozen BK194.out 1
  have hns13_0 := NB193_194.out
  have hms13_0 := NB194_193.out
  refine skip_ (w1 := ?_) (by rfl) rfl ?_ ?_
  rotate_left
  ·go_simp
   rfl
  refine hK.out _ _ trivial (fun hHeld => ?_)
  clear hK K
  refine done_ (done_of HT_.out (by kernel_rfl)) ?_
  try go_wp2
  refine bodyPost_ret (results_cell_row rfl _ _ gb194 23 #[.int .i64 (wrap64 (Int.tdiv t196 t197)), .int .i64 (wrap64 (Int.tdiv (wrap64 (1 + t195)) t197))] (0, 0) _ rfl (by (with_reducible repeat (first | refine blk_drewN ?_ _ | refine blk_drew ?_ | refine blk_alloc ?_ _)); refine blk_put (cs := #[.int .i64 (wrap64 (Int.tdiv t196 t197)), .int .i64 0]) ?_ 1 _ rfl; (with_reducible repeat (first | refine blk_drewN ?_ _ | refine blk_drew ?_ | refine blk_alloc ?_ _)); refine blk_put (cs := #[.int .i64 0, .int .i64 0]) ?_ 0 _ rfl; (with_reducible repeat (first | refine blk_drewN ?_ _ | refine blk_drew ?_ | refine blk_alloc ?_ _)); exact BK194.out) Try.underlying23 rfl (by kernel_rfl)) rfl ?_
  exact ⟨by first | rfl | (simp [errW_none, errW_some] <;> rfl) | (simp [*, errW_none, errW_some] <;> rfl), bB HB⟩
/-! ### galloonlaw03_rest: function 27 -/
def galloonlaw03_rest.f (a0_0 : Int) (a0_1 : Int) : Option (Int × Int) := some (wrap64 (a0_1 - a0_0), a0_1)
set_option maxHeartbeats 8000000 in
set_option maxRecDepth 100000 in
theorem galloonlaw03_rest.calls (a0_0 : Int) (a0_1 : Int) (r1 : Int) (r2 : Int) (w : World) (h : galloonlaw03_rest.f a0_0 a0_1 = some (r1, r2)) :
 Calls Try.prog 27 #[.agg #[.int .i64 a0_0, .int .i64 a0_1]] w fun e w' => e = .returned (.agg #[.int .i64 r1, .int .i64 r2]) ∧ Below w.heap.size w w' := by
 have hu23 := Try.underlying23
 have HB := Aside0.mk (Below.refl w.heap.size w)
 have H : (some (wrap64 (a0_1 - a0_0), a0_1)) = some (r1, r2) := h
 clear h
 simp only [Option.some.injEq, Prod.mk.injEq] at H
 obtain ⟨rfl, rfl⟩ := H
 go_enter Try.func27, Try.ntmps27
 go_wp2_with (first | ((with_reducible refine gate_dst (N := 1) rfl ?_); refine box_event ?hg (N := 1) ?hd (cs := #[.int .i64 a0_0, .int .i64 a0_1]) (t := 23) ?hr ?_; (case hd => rfl); (case hg => rfl); (case hr => first | (go_simp; done) | (go_simp; rfl)); intro gb198 hg w2 hbox hb; have BK198 := Aside0.mk (hbox); have GW198 := bG HB hg; have GE198 := bG HB hg; replace HB := bS HB hb; clear hb hbox hg) | ((with_reducible refine gate_dst (N := 2) rfl ?_); refine box_event ?hg (N := 2) ?hd (cs := #[.int .i64 0, .int .i64 0]) (t := 23) ?hr ?_; (case hd => rfl); (case hg => rfl); (case hr => first | (go_simp; done) | (go_simp; rfl)); intro gb199 hg w3 hbox hb; have BK199 := Aside0.mk (hbox); have GW199 := bG HB hg; have GE199 := bG HB hg; replace HB := bS HB hb; have NB198_199 := nL BK198 hg; have NB199_198 := nG BK198 hg; replace BK198 := kB BK198 hb; clear hb hbox hg; have hnb4 := NB198_199.out; have hnc4 := NB199_198.out; obtain ⟨hcz5_0, hcz5_1, hfz5_0, hfz5_1⟩ := cQ BK198; obtain ⟨hcz6_0, hcz6_1, hfz6_0, hfz6_1⟩ := cQ BK199))
 refine bodyPost_ret (results_cell_row rfl _ _ gb199 23 #[.int .i64 (wrap64 (a0_1 - a0_0)), .int .i64 a0_1] (0, 0) _ rfl (by (with_reducible repeat (first | refine blk_drewN ?_ _ | refine blk_drew ?_ | refine blk_alloc ?_ _)); refine blk_put (cs := #[.int .i64 (wrap64 (a0_1 - a0_0)), .int .i64 0]) ?_ 1 _ rfl; (with_reducible repeat (first | refine blk_drewN ?_ _ | refine blk_drew ?_ | refine blk_alloc ?_ _)); refine blk_put (cs := #[.int .i64 0, .int .i64 0]) ?_ 0 _ rfl; (with_reducible repeat (first | refine blk_drewN ?_ _ | refine blk_drew ?_ | refine blk_alloc ?_ _)); exact BK199.out) Try.underlying23 rfl (by kernel_rfl)) rfl ?_
 exact ⟨by first | rfl | (simp [errW_none, errW_some] <;> rfl) | (simp [*, errW_none, errW_some] <;> rfl), bB HB⟩
end Go.Proofs.Ythjodhmkmjabbaa.PY
