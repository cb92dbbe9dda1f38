-- Made by the session's own driver (wip/tools/p2.py) out of the translation; Lean checks it.
import Derived.Test.YthjodhmkmjabbaaSq
import Derived.Test.YthjodhmkmjabbaaPYx0
import Derived.Test.YthjodhmkmjabbaaPYx8
import Derived.Test.YthjodhmkmjabbaaPYx17
namespace Go.Proofs.Ythjodhmkmjabbaa.PY
open Go.RowKit Go.Proofs.YthjodhmkmjabbaaW.PrintWords Go.Proofs.YthjodhmkmjabbaaW.PrintLast Go.Proofs.YthjodhmkmjabbaaW.PrintMore
attribute [local go_sem] max2_int min2_int max_two min_two max_three min_three max_four min_four   -- for this text's walks alone
set_option linter.unusedVariables false
set_option linter.unusedSimpArgs false
/-! ### galloonref03_Below: function 56 -/
def galloonref03_Below.l0 : Nat → List (S23) → Int → Int → Int → Option (Int)
 | 0, _, _, _, _ => none
 | k + 1, x5, x6, x630000, x630001 => if x6 < (x5.length : Int) then (if 0 ≤ x6 then ((galloonref03_Less.f ((rd_T23 x5 x6).f0) ((rd_T23 x5 x6).f1) x630000 x630001).bind fun t634 => (if t634 = true then (galloonref03_Below.l0 k x5 (wrap64 (x6 + 1)) x630000 x630001) else (some x6))) else (none)) else (some x6)
def galloonref03_Below.f (k : Nat) (a0 : Int) (a1_0 : Int) (a1_1 : Int) : Option (Int) := (galloonref03_Row.f k a0).bind fun t630 => (galloonref03_Below.l0 k t630 0 a1_0 a1_1)
theorem galloonref03_Below.mono_l : ∀ k, (∀ y0 y1 y2 y3, LeO (galloonref03_Below.l0 k y0 y1 y2 y3) (galloonref03_Below.l0 (k + 1) y0 y1 y2 y3))
 | 0 => fun _ _ _ _ r h => by simp [galloonref03_Below.l0] at h
 | k + 1 => by
  have ih0 := galloonref03_Below.mono_l k
  ·intro y0 y1 y2 y3
   unfold galloonref03_Below.l0
   repeat' first
   | (with_reducible exact ih0 _ _ _ _)
   | (with_reducible exact galloonref03_Row.mono _ _)
   | (with_reducible exact LeO.refl _)
   | (with_reducible exact LeO.none _)
   | (with_reducible refine LeO.ite ?_ ?_)
   | (with_reducible refine LeO.bind ?_ (fun _ => ?_))
   | exact ih0 _ _ _ _
   | exact galloonref03_Row.mono _ _
   | exact LeO.none _
   | refine LeO.ite ?_ ?_
   | refine LeO.bind ?_ (fun _ => ?_)
theorem galloonref03_Below.mono : ∀ a0 a1 a2 k, LeO (galloonref03_Below.f k a0 a1 a2) (galloonref03_Below.f (k + 1) a0 a1 a2) := by
 intro a0 a1 a2 k
 have ih0 := galloonref03_Below.mono_l k
 unfold galloonref03_Below.f
 repeat' first
  | (with_reducible exact ih0 _ _ _ _)
  | (with_reducible exact galloonref03_Row.mono _ _)
  | (with_reducible exact LeO.refl _)
  | (with_reducible exact LeO.none _)
  | (with_reducible refine LeO.ite ?_ ?_)
  | (with_reducible refine LeO.bind ?_ (fun _ => ?_))
  | exact ih0 _ _ _ _
  | exact galloonref03_Row.mono _ _
  | exact LeO.none _
  | refine LeO.ite ?_ ?_
  | refine LeO.bind ?_ (fun _ => ?_)
def galloonref03_Below.T3 : Bool × List (List Nat × List Nat) := (true, [([], []), ([], []), ([1], [1]), ([0, 2], [0, 2]), ([3], [3]), ([4], [4]), ([4], [4]), ([5, 6, 4], [4, 5, 6]), ([7, 4], [4, 7]), ([4], [4]), ([8, 9, 4, 4], [4, 8, 9]), ([4, 10], [4, 10])])
def galloonref03_Below.B3 : List Nat := [0, 0, 2, 7, 15, 31, 31, 127, 255, 31, 1023, 2047]
theorem galloonref03_Below.tab3 : rtab .any (opsOf Try.f56 3) = galloonref03_Below.T3 := by kernel_rfl
theorem galloonref03_Below.bits3 : waitsOk galloonref03_Below.T3.2 galloonref03_Below.B3 = true := by kernel_rfl
set_option maxHeartbeats 8000000 in
set_option maxRecDepth 100000 in
theorem galloonref03_Below.calls (k : Nat) (a0 : Int) (a1_0 : Int) (a1_1 : Int) (r : Int) (w : World) (h : galloonref03_Below.f k a0 a1_0 a1_1 = some r) :
 Calls Try.prog 56 #[.int .i64 a0, .agg #[.int .i64 a1_0, .int .i64 a1_1]] w fun e w' => e = .returned (.int .i64 r) ∧ Below w.heap.size w w' := by
 have hu23 := Try.underlying23
 have HB := Aside0.mk (Below.refl w.heap.size w)
 have H : ((galloonref03_Row.f k a0).bind fun t630 => (galloonref03_Below.l0 k t630 0 a1_0 a1_1)) = some r := h
 clear h
 replace H := Option.bind_eq_some_iff.mp H
 obtain ⟨t630, A30, H⟩ := H
 replace H : (galloonref03_Below.l0 k t630 0 a1_0 a1_1) = some r := H
 have A3 := Aside0.mk A30
 clear A30
 have H' := Aside0.mk H
 clear H
 go_enter Try.func56, Try.ntmps56
 go_wp2_with (first | ((with_reducible refine gate_dst (N := 3) rfl ?_); refine box_event ?hg (N := 3) ?hd (cs := #[.int .i64 a1_0, .int .i64 a1_1]) (t := 23) ?hr ?_; (case hd => rfl); (case hg => rfl); (case hr => first | (go_simp; done) | (go_simp; rfl)); intro gb629 hg w4 hbox hb; have BK629 := Aside0.mk (hbox); have GW629 := bG HB hg; have GE629 := bG HB hg; replace HB := bS HB hb; clear hb hbox hg) | ((with_reducible refine gate_callee (f := 38) rfl ?_); refine gL 8 Try.func38 #[.int .i64 a0] (h := ?_); (with_reducible refine (galloonref03_Row.calls k a0 t630 _ A3.out).mono ?_); rintro e w5 ⟨v631, rfl, ho0, hb⟩; refine ⟨_, rfl, ?_⟩; have HO632 := Aside0.mk (Kd.R_lower (Kd.R_newB ho0 (g := gb629) (o := .cells #[.int .i64 a1_0, .int .i64 a1_1] 23 (0, 0)) (kb BK629)) (below_size (bB HB))); replace BK629 := kB BK629 hb; replace HB := bS HB hb; (try clear hb); (try clear hb2); (try clear hk); (try clear hi); (try clear ho0)))
 go_loopg [6] k (fun kq v6 w' => ∃ (x6_1 : Int), v6 = .int .i64 x6_1 ∧ Aside0 (galloonref03_Below.l0 kq t630 x6_1 a1_0 a1_1 = some r) ∧ Aside0 (kq ≤ k) ∧ Aside0 (Kd.R k23 23 w' w.heap.size (fun k_ => k_ ≠ gb629) v631 t630) ∧ Aside0 (w'.heap[gb629]? = some (.cells #[.int .i64 a1_0, .int .i64 a1_1] 23 (0, 0))) ∧ Aside0 (Below w.heap.size w w'))
 case atStart => exact ⟨(0), (by first | rfl | (simp; done) | (simp [*]; done)), H', ⟨Nat.le_refl _⟩, ⟨by (with_reducible repeat (first | apply Kd.R_alloc | apply Kd.R_drewN | apply Kd.R_drew)); exact Kd.R_mono HO632.out (fun _ hk => hk.2)⟩, kA BK629, bA HB⟩
 case round =>
  clear H'
  try clear p2
  obtain ⟨x6_1, rfl, HA, HK1, HO_5, BK629, HB⟩ := hrel
  cases gk with
  | zero => exact absurd HA.out (by simp [galloonref03_Below.l0])
  | succ k1 =>
   have H := HA.out
   clear HA
   simp only [galloonref03_Below.l0] at H
   by_cases c6 : x6_1 < (t630.length : Int)
   ·rw [if_pos c6] at H
    have c6b0 : decide (x6_1 < (t630.length : Int)) = true := decide_eq_true c6
    clear c6
    by_cases c7 : 0 ≤ x6_1
    case neg =>
     rw [if_neg c7] at H
     exact absurd H (by simp)
    rw [if_pos c7] at H
    have c7b0 : decide (0 ≤ x6_1) = true := decide_eq_true c7
    clear c7
    replace H := Option.bind_eq_some_iff.mp H
    obtain ⟨t634, A80, H⟩ := H
    replace H : (if t634 = true then (galloonref03_Below.l0 k1 t630 (wrap64 (x6_1 + 1)) a1_0 a1_1) else (some x6_1)) = some r := H
    have A8 := Aside0.mk A80
    clear A80
    by_cases c9 : t634 = true
    ·subst c9
     have H1 : (galloonref03_Below.l0 k1 t630 (wrap64 (x6_1 + 1)) a1_0 a1_1) = some r := by rw [if_pos rfl] at H; exact H
     clear H
     have H := H1
     clear H1
     have H' := Aside0.mk H
     clear H
     try go_wp2
     replace HO_5 := Aside0.mk (Kd.R_drew HO_5.out)
     replace BK629 := Aside0.mk (blk_drew BK629.out)
     replace HB := Aside0.mk (below_drew1 HB.out)
     obtain ⟨Ao11, co11, eo11⟩ := Kd.R_slice HO_5.out
     (first | subst eo11 | (injection eo11 with f1_ f2_ f3_; have f4_ := f1_.symm; have f5_ := f3_.symm; clear f1_ f2_ f3_; subst f4_; subst f5_))
     have p633 : 0 ≤ (x6_1 : Int) := oD
     have q633 : x6_1 < (t630.length : Int) := oD
     obtain ⟨ad633, e633, hx633_0, hx633_1⟩ := at_T23 (Kd.R_reads' HO_5.out).2.2 x6_1 p633 q633
     cases e633
     replace p633 := eq_true p633
     replace q633 := eq_true q633
     refine start_ (n := 12) (S := fun w' => w'.cell? ⟨gb629, 0, none⟩ = some (.int .i64 a1_0) ∧ w'.cell? ⟨gb629, 1, none⟩ = some (.int .i64 a1_1) ∧ w'.cell? (ad633.add ((x6_1).toNat * 2)) = some (.int .i64 ((rd_T23 t630 x6_1).f0)) ∧ w'.cell? ⟨(ad633.add ((x6_1).toNat * 2)).block, (ad633.add ((x6_1).toNat * 2)).off + 1, none⟩ = some (.int .i64 ((rd_T23 t630 x6_1).f1))) (ds := []) (lb 12 0) (by kernel_rfl) rfl (by kernel_rfl) ⟨(blk_cell BK629.out 0).trans rfl, (blk_cell BK629.out 1).trans rfl, hx633_0, hx633_1⟩ (fun hHeld => ?_); refine with_tabW galloonref03_Below.tab3 galloonref03_Below.bits3 (fun HT_ HW_ => ?_)
     generalize wr.drew = w10 at HO_5 BK629 HB hx633_0 hx633_1 hHeld ⊢
     refine pk HT_ 12 1 0 9 (h := ?_)
     refine pk HT_ 12 3 1 10 (h := ?_)
     refine pk HT_ 12 7 2 11 (h := ?_)
     refine pk HT_ 12 15 3 12 (h := ?_)
     refine pk HT_ 12 31 4 13 (h := ?_)
     refine pk HT_ 12 63 5 14 (h := ?_)
     refine pk HT_ 12 127 6 15 (h := ?_)
     refine pk HT_ 12 255 7 16 (h := ?_)
     refine tk4 HT_ HW_ hHeld 12 511 8 17 (h := ?_)
     refine tk4 HT_ HW_ hHeld 12 0x3ff 9 18 (h := ?_)
     refine one_ (i := 10) (N := some 19) (lb 12 0x7ff) rfl rfl (one_of HT_.out (by kernel_rfl)) (by decide) (fun K hK => ?_)
     refine gS Try.func29 #[.agg #[.int .i64 ((rd_T23 t630 x6_1).f0), .int .i64 ((rd_T23 t630 x6_1).f1)], .agg #[.int .i64 a1_0, .int .i64 a1_1]] (h := ?_)
     with_reducible refine (galloonref03_Less.calls ((rd_T23 t630 x6_1).f0) ((rd_T23 t630 x6_1).f1) a1_0 a1_1 true _ A8.out).mono ?_
     rintro e w12 ⟨rfl, hb⟩
     have HS2_ := cS hHeld.2.2.1 hb
     have HS3_ := cS hHeld.2.2.2 hb
     refine ⟨_, rfl, ?_⟩
     replace HO_5 := rB HO_5 hb
     replace BK629 := kB BK629 hb
     replace HB := bS HB hb
     (try clear hb)
     (try clear hb2)
     (try clear hk)
     (try clear hi)
     refine hK.out _ _ ⟨(blk_cell BK629.out 0).trans rfl, (blk_cell BK629.out 1).trans rfl, HS2_, HS3_⟩ (fun hHeld => ?_)
     clear hK K
     refine norm_ (a' := ?_) ?_ ?_
     rotate_left
     ·show Act.put _ (some 19) _ = _
      simp only [Act.put, List.setIfInBounds_toArray, List.set_cons_zero, List.set_cons_succ, i64_w, i32_w]
      rfl
     refine pk HT_ 12 0xfff 11 20 (h := ?_)
     refine done_ (done_of HT_.out (by kernel_rfl)) ?_
     try go_wp2
     go_roundg k1
     case measure => have := HK1.out; omega
     case rel => exact ⟨(wrap64 (x6_1 + 1)), (by first | rfl | (simp; done) | (simp [*]; done)), H', ⟨by have := HK1.out; omega⟩, ⟨by (with_reducible repeat (first | apply Kd.R_alloc | apply Kd.R_drewN | apply Kd.R_drew)); exact HO_5.out⟩, kA BK629, bA HB⟩
    ·replace c9 := Bool.eq_false_iff.mpr c9
     subst c9
     have H1 : (some x6_1) = some r := by rw [if_neg (show ¬ (false = true) by decide)] at H; exact H
     clear H
     have H := H1
     clear H1
     obtain rfl := Option.some.inj H
     try go_wp2
     replace HO_5 := Aside0.mk (Kd.R_drew HO_5.out)
     replace BK629 := Aside0.mk (blk_drew BK629.out)
     replace HB := Aside0.mk (below_drew1 HB.out)
     obtain ⟨Ao14, co14, eo14⟩ := Kd.R_slice HO_5.out
     (first | subst eo14 | (injection eo14 with f1_ f2_ f3_; have f4_ := f1_.symm; have f5_ := f3_.symm; clear f1_ f2_ f3_; subst f4_; subst f5_))
     have p633 : 0 ≤ (x6_1 : Int) := oD
     have q633 : x6_1 < (t630.length : Int) := oD
     obtain ⟨ad633, e633, hx633_0, hx633_1⟩ := at_T23 (Kd.R_reads' HO_5.out).2.2 x6_1 p633 q633
     cases e633
     replace p633 := eq_true p633
     replace q633 := eq_true q633
     refine start_ (n := 12) (S := fun w' => w'.cell? ⟨gb629, 0, none⟩ = some (.int .i64 a1_0) ∧ w'.cell? ⟨gb629, 1, none⟩ = some (.int .i64 a1_1) ∧ w'.cell? (ad633.add ((x6_1).toNat * 2)) = some (.int .i64 ((rd_T23 t630 x6_1).f0)) ∧ w'.cell? ⟨(ad633.add ((x6_1).toNat * 2)).block, (ad633.add ((x6_1).toNat * 2)).off + 1, none⟩ = some (.int .i64 ((rd_T23 t630 x6_1).f1))) (ds := []) (lb 12 0) (by kernel_rfl) rfl (by kernel_rfl) ⟨(blk_cell BK629.out 0).trans rfl, (blk_cell BK629.out 1).trans rfl, hx633_0, hx633_1⟩ (fun hHeld => ?_); refine with_tabW galloonref03_Below.tab3 galloonref03_Below.bits3 (fun HT_ HW_ => ?_)
     generalize wr.drew = w13 at HO_5 BK629 HB hx633_0 hx633_1 hHeld ⊢
     refine pk HT_ 12 1 0 9 (h := ?_)
     refine pk HT_ 12 3 1 10 (h := ?_)
     refine pk HT_ 12 7 2 11 (h := ?_)
     refine pk HT_ 12 15 3 12 (h := ?_)
     refine pk HT_ 12 31 4 13 (h := ?_)
     refine pk HT_ 12 63 5 14 (h := ?_)
     refine pk HT_ 12 127 6 15 (h := ?_)
     refine pk HT_ 12 255 7 16 (h := ?_)
     refine tk4 HT_ HW_ hHeld 12 511 8 17 (h := ?_)
     refine tk4 HT_ HW_ hHeld 12 0x3ff 9 18 (h := ?_)
     refine one_ (i := 10) (N := some 19) (lb 12 0x7ff) rfl rfl (one_of HT_.out (by kernel_rfl)) (by decide) (fun K hK => ?_)
     refine gS Try.func29 #[.agg #[.int .i64 ((rd_T23 t630 x6_1).f0), .int .i64 ((rd_T23 t630 x6_1).f1)], .agg #[.int .i64 a1_0, .int .i64 a1_1]] (h := ?_)
     with_reducible refine (galloonref03_Less.calls ((rd_T23 t630 x6_1).f0) ((rd_T23 t630 x6_1).f1) a1_0 a1_1 false _ A8.out).mono ?_
     rintro e w15 ⟨rfl, hb⟩
     have HS2_ := cS hHeld.2.2.1 hb
     have HS3_ := cS hHeld.2.2.2 hb
     refine ⟨_, rfl, ?_⟩
     replace HO_5 := rB HO_5 hb
     replace BK629 := kB BK629 hb
     replace HB := bS HB hb
     (try clear hb)
     (try clear hb2)
     (try clear hk)
     (try clear hi)
     refine hK.out _ _ ⟨(blk_cell BK629.out 0).trans rfl, (blk_cell BK629.out 1).trans rfl, HS2_, HS3_⟩ (fun hHeld => ?_)
     clear hK K
     refine norm_ (a' := ?_) ?_ ?_
     rotate_left
     ·show Act.put _ (some 19) _ = _
      simp only [Act.put, List.setIfInBounds_toArray, List.set_cons_zero, List.set_cons_succ, i64_w, i32_w]
      rfl
     refine pk HT_ 12 0xfff 11 20 (h := ?_)
     refine done_ (done_of HT_.out (by kernel_rfl)) ?_
     try go_wp2
     go_ret
     exact ⟨by first | rfl | (simp [errW_none, errW_some] <;> rfl) | (simp [*, errW_none, errW_some] <;> rfl), bB HB⟩
   ·rw [if_neg c6] at H
    have c6b0 : decide (x6_1 < (t630.length : Int)) = false := decide_eq_false c6
    clear c6
    obtain rfl := Option.some.inj H
    try go_wp2
    replace HO_5 := Aside0.mk (Kd.R_drew HO_5.out)
    replace BK629 := Aside0.mk (blk_drew BK629.out)
    replace HB := Aside0.mk (below_drew1 HB.out)
    obtain ⟨Ao17, co17, eo17⟩ := Kd.R_slice HO_5.out
    (first | subst eo17 | (injection eo17 with f1_ f2_ f3_; have f4_ := f1_.symm; have f5_ := f3_.symm; clear f1_ f2_ f3_; subst f4_; subst f5_))
    refine start_ (n := 12) (S := fun w' => True) (ds := []) (lb 12 0) (by kernel_rfl) rfl rfl trivial (fun hHeld => ?_); refine with_tabW galloonref03_Below.tab3 galloonref03_Below.bits3 (fun HT_ HW_ => ?_)
    generalize wr.drew = w16 at HO_5 BK629 HB hHeld ⊢
    refine pk HT_ 12 1 0 9 (h := ?_)
    refine pk HT_ 12 3 1 10 (h := ?_)
    refine pk HT_ 12 7 2 11 (h := ?_)
    refine pk HT_ 12 15 3 12 (h := ?_)
    refine pk HT_ 12 31 4 13 (h := ?_)
    refine pu HT_ 12 63 5 14 (h := ?_)
    refine pu HT_ 12 127 6 15 (h := ?_)
    refine pu HT_ 12 255 7 16 (h := ?_)
    refine pu HT_ 12 511 8 17 (h := ?_)
    refine pu HT_ 12 0x3ff 9 18 (h := ?_)
    refine pu HT_ 12 0x7ff 10 19 (h := ?_)
    refine pk HT_ 12 0xfff 11 20 (h := ?_)
    refine done_ (done_of HT_.out (by kernel_rfl)) ?_
    try go_wp2
    go_ret
    exact ⟨by first | rfl | (simp [errW_none, errW_some] <;> rfl) | (simp [*, errW_none, errW_some] <;> rfl), bB HB⟩
end Go.Proofs.Ythjodhmkmjabbaa.PY
