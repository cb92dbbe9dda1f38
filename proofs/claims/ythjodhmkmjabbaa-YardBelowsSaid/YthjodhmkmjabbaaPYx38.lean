-- Made by the session's own driver (wip/tools/p2.py) out of the translation; Lean checks it.
import Derived.Test.YthjodhmkmjabbaaSq
import Derived.Test.YthjodhmkmjabbaaPYx0
import Derived.Test.YthjodhmkmjabbaaPYx8
import Derived.Test.YthjodhmkmjabbaaPYx17
namespace Go.Proofs.Ythjodhmkmjabbaa.PY
open Go.RowKit Go.Proofs.YthjodhmkmjabbaaW.PrintWords Go.Proofs.YthjodhmkmjabbaaW.PrintLast Go.Proofs.YthjodhmkmjabbaaW.PrintMore
attribute [local go_sem] max2_int min2_int max_two min_two max_three min_three max_four min_four   -- for this text's walks alone
set_option linter.unusedVariables false
set_option linter.unusedSimpArgs false
/-! ### galloonref03_Next: function 54 -/
def galloonref03_Next.l0 : Nat → List (S23) → Int → Int → Int → Option (Int × Int × Bool)
 | 0, _, _, _, _ => none
 | k + 1, x6, x7, x622000, x622001 => if x7 < (x6.length : Int) then (if 0 ≤ x7 then ((galloonref03_Less.f x622000 x622001 ((rd_T23 x6 x7).f0) ((rd_T23 x6 x7).f1)).bind fun t627 => (if t627 = true then (if x7 = (x6.length : Int) then (some (0, 0, false)) else (some ((rd_T23 x6 x7).f0, (rd_T23 x6 x7).f1, true))) else (galloonref03_Next.l0 k x6 (wrap64 (x7 + 1)) x622000 x622001))) else (none)) else (if x7 = (x6.length : Int) then (some (0, 0, false)) else (if 0 ≤ x7 then (none) else (none)))
def galloonref03_Next.f (k : Nat) (a0 : Int) (a1_0 : Int) (a1_1 : Int) : Option (Int × Int × Bool) := (galloonref03_Row.f k a0).bind fun t623 => (galloonref03_Next.l0 k t623 0 a1_0 a1_1)
theorem galloonref03_Next.mono_l : ∀ k, (∀ y0 y1 y2 y3, LeO (galloonref03_Next.l0 k y0 y1 y2 y3) (galloonref03_Next.l0 (k + 1) y0 y1 y2 y3))
 | 0 => fun _ _ _ _ r h => by simp [galloonref03_Next.l0] at h
 | k + 1 => by
  have ih0 := galloonref03_Next.mono_l k
  ·intro y0 y1 y2 y3
   unfold galloonref03_Next.l0
   repeat' first
   | (with_reducible exact ih0 _ _ _ _)
   | (with_reducible exact galloonref03_Row.mono _ _)
   | (with_reducible exact LeO.refl _)
   | (with_reducible exact LeO.none _)
   | (with_reducible refine LeO.ite ?_ ?_)
   | (with_reducible refine LeO.bind ?_ (fun _ => ?_))
   | exact ih0 _ _ _ _
   | exact galloonref03_Row.mono _ _
   | exact LeO.none _
   | refine LeO.ite ?_ ?_
   | refine LeO.bind ?_ (fun _ => ?_)
theorem galloonref03_Next.mono : ∀ a0 a1 a2 k, LeO (galloonref03_Next.f k a0 a1 a2) (galloonref03_Next.f (k + 1) a0 a1 a2) := by
 intro a0 a1 a2 k
 have ih0 := galloonref03_Next.mono_l k
 unfold galloonref03_Next.f
 repeat' first
  | (with_reducible exact ih0 _ _ _ _)
  | (with_reducible exact galloonref03_Row.mono _ _)
  | (with_reducible exact LeO.refl _)
  | (with_reducible exact LeO.none _)
  | (with_reducible refine LeO.ite ?_ ?_)
  | (with_reducible refine LeO.bind ?_ (fun _ => ?_))
  | exact ih0 _ _ _ _
  | exact galloonref03_Row.mono _ _
  | exact LeO.none _
  | refine LeO.ite ?_ ?_
  | refine LeO.bind ?_ (fun _ => ?_)
def galloonref03_Next.T3 : Bool × List (List Nat × List Nat) := (true, [([], []), ([], []), ([1], [1]), ([0, 2], [0, 2]), ([3], [3]), ([4], [4]), ([4], [4]), ([4], [4]), ([6, 7, 4], [4, 6, 7]), ([8, 4], [4, 8]), ([5, 9, 4, 4], [4, 5, 9]), ([10, 4], [4, 10]), ([4, 11], [4, 11])])
def galloonref03_Next.B3 : List Nat := [0, 0, 2, 7, 15, 31, 31, 31, 223, 479, 1023, 2047, 4095]
theorem galloonref03_Next.tab3 : rtab .any (opsOf Try.f54 3) = galloonref03_Next.T3 := by kernel_rfl
theorem galloonref03_Next.bits3 : waitsOk galloonref03_Next.T3.2 galloonref03_Next.B3 = true := by kernel_rfl
set_option maxHeartbeats 8000000 in
set_option maxRecDepth 100000 in
theorem galloonref03_Next.calls (k : Nat) (a0 : Int) (a1_0 : Int) (a1_1 : Int) (r1 : Int) (r2 : Int) (r3 : Bool) (w : World) (h : galloonref03_Next.f k a0 a1_0 a1_1 = some (r1, r2, r3)) :
 Calls Try.prog 54 #[.int .i64 a0, .agg #[.int .i64 a1_0, .int .i64 a1_1]] w fun e w' => e = .returned (.tuple #[.agg #[.int .i64 r1, .int .i64 r2], .bool r3]) ∧ Below w.heap.size w w' := by
 have hu23 := Try.underlying23
 have HB := Aside0.mk (Below.refl w.heap.size w)
 have H : ((galloonref03_Row.f k a0).bind fun t623 => (galloonref03_Next.l0 k t623 0 a1_0 a1_1)) = some (r1, r2, r3) := h
 clear h
 replace H := Option.bind_eq_some_iff.mp H
 obtain ⟨t623, A30, H⟩ := H
 replace H : (galloonref03_Next.l0 k t623 0 a1_0 a1_1) = some (r1, r2, r3) := H
 have A3 := Aside0.mk A30
 clear A30
 have H' := Aside0.mk H
 clear H
 go_enter Try.func54, Try.ntmps54
 go_wp2_with (first | ((with_reducible refine gate_dst (N := 3) rfl ?_); refine box_event ?hg (N := 3) ?hd (cs := #[.int .i64 a1_0, .int .i64 a1_1]) (t := 23) ?hr ?_; (case hd => rfl); (case hg => rfl); (case hr => first | (go_simp; done) | (go_simp; rfl)); intro gb621 hg w4 hbox hb; have BK621 := Aside0.mk (hbox); have GW621 := bG HB hg; have GE621 := bG HB hg; replace HB := bS HB hb; clear hb hbox hg) | ((with_reducible refine gate_dst (N := 4) rfl ?_); refine box_event ?hg (N := 4) ?hd (cs := #[.int .i64 0, .int .i64 0]) (t := 23) ?hr ?_; (case hd => rfl); (case hg => rfl); (case hr => first | (go_simp; done) | (go_simp; rfl)); intro gb622 hg w5 hbox hb; have BK622 := Aside0.mk (hbox); have GW622 := bG HB hg; have GE622 := bG HB hg; replace HB := bS HB hb; have NB621_622 := nL BK621 hg; have NB622_621 := nG BK621 hg; replace BK621 := kB BK621 hb; clear hb hbox hg) | ((with_reducible refine gate_callee (f := 38) rfl ?_); refine gL 9 Try.func38 #[.int .i64 a0] (h := ?_); (with_reducible refine (galloonref03_Row.calls k a0 t623 _ A3.out).mono ?_); rintro e w6 ⟨v624, rfl, ho0, hb⟩; refine ⟨_, rfl, ?_⟩; have HO625 := Aside0.mk (Kd.R_lower (Kd.R_newB (Kd.R_newB ho0 (g := gb621) (o := .cells #[.int .i64 a1_0, .int .i64 a1_1] 23 (0, 0)) (kb BK621)) (g := gb622) (o := .cells #[.int .i64 0, .int .i64 0] 23 (0, 0)) (kb BK622)) (below_size (bB HB))); replace BK621 := kB BK621 hb; replace BK622 := kB BK622 hb; replace HB := bS HB hb; (try clear hb); (try clear hb2); (try clear hk); (try clear hi); (try clear ho0)))
 go_loopg [7] k (fun kq v7 w' => ∃ (x7_1 : Int), v7 = .int .i64 x7_1 ∧ Aside0 (galloonref03_Next.l0 kq t623 x7_1 a1_0 a1_1 = some (r1, r2, r3)) ∧ Aside0 (kq ≤ k) ∧ Aside0 (Kd.R k23 23 w' w.heap.size (fun k_ => k_ ≠ gb621 ∧ k_ ≠ gb622) v624 t623) ∧ Aside0 (w'.heap[gb621]? = some (.cells #[.int .i64 a1_0, .int .i64 a1_1] 23 (0, 0))) ∧ Aside0 (w'.heap[gb622]? = some (.cells #[.int .i64 0, .int .i64 0] 23 (0, 0))) ∧ Aside0 (Below w.heap.size w w'))
 case atStart => exact ⟨(0), (by first | rfl | (simp; done) | (simp [*]; done)), H', ⟨Nat.le_refl _⟩, ⟨by (with_reducible repeat (first | apply Kd.R_alloc | apply Kd.R_drewN | apply Kd.R_drew)); exact Kd.R_mono HO625.out (fun _ hk => ⟨hk.1.2, hk.2⟩)⟩, kA BK621, kA BK622, bA HB⟩
 case round =>
  clear H'
  try clear p2
  obtain ⟨x7_1, rfl, HA, HK1, HO_6, BK621, BK622, HB⟩ := hrel
  cases gk with
  | zero => exact absurd HA.out (by simp [galloonref03_Next.l0])
  | succ k1 =>
   have H := HA.out
   clear HA
   simp only [galloonref03_Next.l0] at H
   by_cases c7 : x7_1 < (t623.length : Int)
   ·rw [if_pos c7] at H
    have c7b0 : decide (x7_1 < (t623.length : Int)) = true := decide_eq_true c7
    clear c7
    by_cases c8 : 0 ≤ x7_1
    case neg =>
     rw [if_neg c8] at H
     exact absurd H (by simp)
    rw [if_pos c8] at H
    have c8b0 : decide (0 ≤ x7_1) = true := decide_eq_true c8
    clear c8
    replace H := Option.bind_eq_some_iff.mp H
    obtain ⟨t627, A90, H⟩ := H
    replace H : (if t627 = true then (if x7_1 = (t623.length : Int) then (some (0, 0, false)) else (some ((rd_T23 t623 x7_1).f0, (rd_T23 t623 x7_1).f1, true))) else (galloonref03_Next.l0 k1 t623 (wrap64 (x7_1 + 1)) a1_0 a1_1)) = some (r1, r2, r3) := H
    have A9 := Aside0.mk A90
    clear A90
    by_cases c10 : t627 = true
    ·subst c10
     have H1 : (if x7_1 = (t623.length : Int) then (some (0, 0, false)) else (some ((rd_T23 t623 x7_1).f0, (rd_T23 t623 x7_1).f1, true))) = some (r1, r2, r3) := by rw [if_pos rfl] at H; exact H
     clear H
     have H := H1
     clear H1
     by_cases c11 : x7_1 = (t623.length : Int)
     ·rw [if_pos c11] at H
      have c11b0 : (x7_1 == (t623.length : Int)) = true := beq_iff_eq.mpr c11
      have c11b1 : (x7_1 != (t623.length : Int)) = false := bne_eq_false_iff_eq.mpr c11
      clear c11
      simp only [Option.some.injEq, Prod.mk.injEq] at H
      obtain ⟨rfl, rfl, rfl⟩ := H
      try go_wp2
      replace HO_6 := Aside0.mk (Kd.R_drew HO_6.out)
      replace BK621 := Aside0.mk (blk_drew BK621.out)
      replace BK622 := Aside0.mk (blk_drew BK622.out)
      replace HB := Aside0.mk (below_drew1 HB.out)
      obtain ⟨Ao13, co13, eo13⟩ := Kd.R_slice HO_6.out
      (first | subst eo13 | (injection eo13 with f1_ f2_ f3_; have f4_ := f1_.symm; have f5_ := f3_.symm; clear f1_ f2_ f3_; subst f4_; subst f5_))
      have p626 : 0 ≤ (x7_1 : Int) := oD
      have q626 : x7_1 < (t623.length : Int) := oD
      obtain ⟨ad626, e626, hx626_0, hx626_1⟩ := at_T23 (Kd.R_reads' HO_6.out).2.2 x7_1 p626 q626
      cases e626
      replace p626 := eq_true p626
      replace q626 := eq_true q626
      refine start_ (n := 13) (S := fun w' => w'.cell? ⟨gb621, 0, none⟩ = some (.int .i64 a1_0) ∧ w'.cell? ⟨gb621, 1, none⟩ = some (.int .i64 a1_1) ∧ w'.cell? (ad626.add ((x7_1).toNat * 2)) = some (.int .i64 ((rd_T23 t623 x7_1).f0)) ∧ w'.cell? ⟨(ad626.add ((x7_1).toNat * 2)).block, (ad626.add ((x7_1).toNat * 2)).off + 1, none⟩ = some (.int .i64 ((rd_T23 t623 x7_1).f1))) (ds := []) (lb 13 0) (by kernel_rfl) rfl (by kernel_rfl) ⟨(blk_cell BK621.out 0).trans rfl, (blk_cell BK621.out 1).trans rfl, hx626_0, hx626_1⟩ (fun hHeld => ?_); refine with_tabW galloonref03_Next.tab3 galloonref03_Next.bits3 (fun HT_ HW_ => ?_)
      generalize wr.drew = w12 at HO_6 BK621 BK622 HB hx626_0 hx626_1 hHeld ⊢
      refine pk HT_ 13 1 0 10 (h := ?_)
      refine pk HT_ 13 3 1 11 (h := ?_)
      refine pk HT_ 13 7 2 12 (h := ?_)
      refine pk HT_ 13 15 3 13 (h := ?_)
      refine pk HT_ 13 31 4 14 (h := ?_)
      refine pk HT_ 13 95 6 16 (h := ?_)
      refine pk HT_ 13 223 7 17 (h := ?_)
      refine pk HT_ 13 479 8 18 (h := ?_)
      refine tk4 HT_ HW_ hHeld 13 511 5 15 (h := ?_)
      refine tk4 HT_ HW_ hHeld 13 0x3ff 9 19 (h := ?_)
      refine one_ (i := 10) (N := some 20) (lb 13 0x7ff) rfl rfl (one_of HT_.out (by kernel_rfl)) (by decide) (fun K hK => ?_)
      refine gS Try.func29 #[.agg #[.int .i64 a1_0, .int .i64 a1_1], .agg #[.int .i64 ((rd_T23 t623 x7_1).f0), .int .i64 ((rd_T23 t623 x7_1).f1)]] (h := ?_)
      with_reducible refine (galloonref03_Less.calls a1_0 a1_1 ((rd_T23 t623 x7_1).f0) ((rd_T23 t623 x7_1).f1) true _ A9.out).mono ?_
      rintro e w14 ⟨rfl, hb⟩
      have HS2_ := cS hHeld.2.2.1 hb
      have HS3_ := cS hHeld.2.2.2 hb
      refine ⟨_, rfl, ?_⟩
      replace HO_6 := rB HO_6 hb
      replace BK621 := kB BK621 hb
      replace BK622 := kB BK622 hb
      replace HB := bS HB hb
      (try clear hb)
      (try clear hb2)
      (try clear hk)
      (try clear hi)
      refine hK.out _ _ ⟨(blk_cell BK621.out 0).trans rfl, (blk_cell BK621.out 1).trans rfl, HS2_, HS3_⟩ (fun hHeld => ?_)
      clear hK K
      refine norm_ (a' := ?_) ?_ ?_
      rotate_left
      ·show Act.put _ (some 20) _ = _
       simp only [Act.put, List.setIfInBounds_toArray, List.set_cons_zero, List.set_cons_succ, i64_w, i32_w]
       rfl
      refine pk HT_ 13 0xfff 11 21 (h := ?_)
      refine pk HT_ 13 0x1fff 12 22 (h := ?_)
      refine done_ (done_of HT_.out (by kernel_rfl)) ?_
      have hnb15 := NB622_621.out
      have hnc15 := NB621_622.out
      obtain ⟨hcz16_0, hcz16_1, hfz16_0, hfz16_1⟩ := cQ BK622
      try go_wp2
      refine bodyPost_ret (results_ct rfl _ _ gb622 23 #[.int .i64 0, .int .i64 0] (0, 0) _ rfl (by (with_reducible repeat (first | refine blk_drewN ?_ _ | refine blk_drew ?_ | refine blk_alloc ?_ _)); refine blk_put (cs := #[.int .i64 0, .int .i64 0]) ?_ 1 _ rfl; (with_reducible repeat (first | refine blk_drewN ?_ _ | refine blk_drew ?_ | refine blk_alloc ?_ _)); refine blk_put (cs := #[.int .i64 0, .int .i64 0]) ?_ 0 _ rfl; (with_reducible repeat (first | refine blk_drewN ?_ _ | refine blk_drew ?_ | refine blk_alloc ?_ _)); exact BK622.out) Try.underlying23 rfl (by kernel_rfl)) rfl ?_
      exact ⟨by first | rfl | (simp [errW_none, errW_some] <;> rfl) | (simp [*, errW_none, errW_some] <;> rfl), bB HB⟩
     ·rw [if_neg c11] at H
      have c11b0 : (x7_1 == (t623.length : Int)) = false := beq_eq_false_iff_ne.mpr c11
      have c11b1 : (x7_1 != (t623.length : Int)) = true := bne_iff_ne.mpr c11
      simp only [Option.some.injEq, Prod.mk.injEq] at H
      obtain ⟨rfl, rfl, rfl⟩ := H
      try go_wp2
      replace HO_6 := Aside0.mk (Kd.R_drew HO_6.out)
      replace BK621 := Aside0.mk (blk_drew BK621.out)
      replace BK622 := Aside0.mk (blk_drew BK622.out)
      replace HB := Aside0.mk (below_drew1 HB.out)
      obtain ⟨Ao18, co18, eo18⟩ := Kd.R_slice HO_6.out
      (first | subst eo18 | (injection eo18 with f1_ f2_ f3_; have f4_ := f1_.symm; have f5_ := f3_.symm; clear f1_ f2_ f3_; subst f4_; subst f5_))
      have p626 : 0 ≤ (x7_1 : Int) := oD
      have q626 : x7_1 < (t623.length : Int) := oD
      obtain ⟨ad626, e626, hx626_0, hx626_1⟩ := at_T23 (Kd.R_reads' HO_6.out).2.2 x7_1 p626 q626
      cases e626
      replace p626 := eq_true p626
      replace q626 := eq_true q626
      refine start_ (n := 13) (S := fun w' => w'.cell? ⟨gb621, 0, none⟩ = some (.int .i64 a1_0) ∧ w'.cell? ⟨gb621, 1, none⟩ = some (.int .i64 a1_1) ∧ w'.cell? (ad626.add ((x7_1).toNat * 2)) = some (.int .i64 ((rd_T23 t623 x7_1).f0)) ∧ w'.cell? ⟨(ad626.add ((x7_1).toNat * 2)).block, (ad626.add ((x7_1).toNat * 2)).off + 1, none⟩ = some (.int .i64 ((rd_T23 t623 x7_1).f1))) (ds := []) (lb 13 0) (by kernel_rfl) rfl (by kernel_rfl) ⟨(blk_cell BK621.out 0).trans rfl, (blk_cell BK621.out 1).trans rfl, hx626_0, hx626_1⟩ (fun hHeld => ?_); refine with_tabW galloonref03_Next.tab3 galloonref03_Next.bits3 (fun HT_ HW_ => ?_)
      generalize wr.drew = w17 at HO_6 BK621 BK622 HB hx626_0 hx626_1 hHeld ⊢
      refine pk HT_ 13 1 0 10 (h := ?_)
      refine pk HT_ 13 3 1 11 (h := ?_)
      refine pk HT_ 13 7 2 12 (h := ?_)
      refine pk HT_ 13 15 3 13 (h := ?_)
      refine pk HT_ 13 31 4 14 (h := ?_)
      refine pk HT_ 13 95 6 16 (h := ?_)
      refine pk HT_ 13 223 7 17 (h := ?_)
      refine pk HT_ 13 479 8 18 (h := ?_)
      refine tk4 HT_ HW_ hHeld 13 511 5 15 (h := ?_)
      refine tk4 HT_ HW_ hHeld 13 0x3ff 9 19 (h := ?_)
      refine one_ (i := 10) (N := some 20) (lb 13 0x7ff) rfl rfl (one_of HT_.out (by kernel_rfl)) (by decide) (fun K hK => ?_)
      refine gS Try.func29 #[.agg #[.int .i64 a1_0, .int .i64 a1_1], .agg #[.int .i64 ((rd_T23 t623 x7_1).f0), .int .i64 ((rd_T23 t623 x7_1).f1)]] (h := ?_)
      with_reducible refine (galloonref03_Less.calls a1_0 a1_1 ((rd_T23 t623 x7_1).f0) ((rd_T23 t623 x7_1).f1) true _ A9.out).mono ?_
      rintro e w19 ⟨rfl, hb⟩
      have HS2_ := cS hHeld.2.2.1 hb
      have HS3_ := cS hHeld.2.2.2 hb
      refine ⟨_, rfl, ?_⟩
      replace HO_6 := rB HO_6 hb
      replace BK621 := kB BK621 hb
      replace BK622 := kB BK622 hb
      replace HB := bS HB hb
      (try clear hb)
      (try clear hb2)
      (try clear hk)
      (try clear hi)
      refine hK.out _ _ ⟨(blk_cell BK621.out 0).trans rfl, (blk_cell BK621.out 1).trans rfl, HS2_, HS3_⟩ (fun hHeld => ?_)
      clear hK K
      refine norm_ (a' := ?_) ?_ ?_
      rotate_left
      ·show Act.put _ (some 20) _ = _
       simp only [Act.put, List.setIfInBounds_toArray, List.set_cons_zero, List.set_cons_succ, i64_w, i32_w]
       rfl
      refine pk HT_ 13 0xfff 11 21 (h := ?_)
      refine pk HT_ 13 0x1fff 12 22 (h := ?_)
      refine done_ (done_of HT_.out (by kernel_rfl)) ?_
      have p628 : 0 ≤ (x7_1 : Int) := oD
      have q628 : x7_1 < (t623.length : Int) := oD
      obtain ⟨ad628, e628, hx628_0, hx628_1⟩ := at_T23 (Kd.R_reads' HO_6.out).2.2 x7_1 p628 q628
      obtain rfl : ad626 = ad628 := (by injection e628)
      replace p628 := eq_true p628
      replace q628 := eq_true q628
      have hnb20 := NB622_621.out
      have hnc20 := NB621_622.out
      obtain ⟨hcz21_0, hcz21_1, hfz21_0, hfz21_1⟩ := cQ BK622
      try go_wp2
      refine bodyPost_ret (results_ct rfl _ _ gb622 23 #[.int .i64 ((rd_T23 t623 x7_1).f0), .int .i64 ((rd_T23 t623 x7_1).f1)] (0, 0) _ rfl (by (with_reducible repeat (first | refine blk_drewN ?_ _ | refine blk_drew ?_ | refine blk_alloc ?_ _)); refine blk_put (cs := #[.int .i64 ((rd_T23 t623 x7_1).f0), .int .i64 0]) ?_ 1 _ rfl; (with_reducible repeat (first | refine blk_drewN ?_ _ | refine blk_drew ?_ | refine blk_alloc ?_ _)); refine blk_put (cs := #[.int .i64 0, .int .i64 0]) ?_ 0 _ rfl; (with_reducible repeat (first | refine blk_drewN ?_ _ | refine blk_drew ?_ | refine blk_alloc ?_ _)); exact BK622.out) Try.underlying23 rfl (by kernel_rfl)) rfl ?_
      exact ⟨by first | rfl | (simp [errW_none, errW_some] <;> rfl) | (simp [*, errW_none, errW_some] <;> rfl), bB HB⟩
    ·replace c10 := Bool.eq_false_iff.mpr c10
     subst c10
     have H1 : (galloonref03_Next.l0 k1 t623 (wrap64 (x7_1 + 1)) a1_0 a1_1) = some (r1, r2, r3) := by rw [if_neg (show ¬ (false = true) by decide)] at H; exact H
     clear H
     have H := H1
     clear H1
     have H' := Aside0.mk H
     clear H
     try go_wp2
     replace HO_6 := Aside0.mk (Kd.R_drew HO_6.out)
     replace BK621 := Aside0.mk (blk_drew BK621.out)
     replace BK622 := Aside0.mk (blk_drew BK622.out)
     replace HB := Aside0.mk (below_drew1 HB.out)
     obtain ⟨Ao23, co23, eo23⟩ := Kd.R_slice HO_6.out
     (first | subst eo23 | (injection eo23 with f1_ f2_ f3_; have f4_ := f1_.symm; have f5_ := f3_.symm; clear f1_ f2_ f3_; subst f4_; subst f5_))
     have p626 : 0 ≤ (x7_1 : Int) := oD
     have q626 : x7_1 < (t623.length : Int) := oD
     obtain ⟨ad626, e626, hx626_0, hx626_1⟩ := at_T23 (Kd.R_reads' HO_6.out).2.2 x7_1 p626 q626
     cases e626
     replace p626 := eq_true p626
     replace q626 := eq_true q626
     refine start_ (n := 13) (S := fun w' => w'.cell? ⟨gb621, 0, none⟩ = some (.int .i64 a1_0) ∧ w'.cell? ⟨gb621, 1, none⟩ = some (.int .i64 a1_1) ∧ w'.cell? (ad626.add ((x7_1).toNat * 2)) = some (.int .i64 ((rd_T23 t623 x7_1).f0)) ∧ w'.cell? ⟨(ad626.add ((x7_1).toNat * 2)).block, (ad626.add ((x7_1).toNat * 2)).off + 1, none⟩ = some (.int .i64 ((rd_T23 t623 x7_1).f1))) (ds := []) (lb 13 0) (by kernel_rfl) rfl (by kernel_rfl) ⟨(blk_cell BK621.out 0).trans rfl, (blk_cell BK621.out 1).trans rfl, hx626_0, hx626_1⟩ (fun hHeld => ?_); refine with_tabW galloonref03_Next.tab3 galloonref03_Next.bits3 (fun HT_ HW_ => ?_)
     generalize wr.drew = w22 at HO_6 BK621 BK622 HB hx626_0 hx626_1 hHeld ⊢
     refine pk HT_ 13 1 0 10 (h := ?_)
     refine pk HT_ 13 3 1 11 (h := ?_)
     refine pk HT_ 13 7 2 12 (h := ?_)
     refine pk HT_ 13 15 3 13 (h := ?_)
     refine pk HT_ 13 31 4 14 (h := ?_)
     refine pk HT_ 13 95 6 16 (h := ?_)
     refine pk HT_ 13 223 7 17 (h := ?_)
     refine pk HT_ 13 479 8 18 (h := ?_)
     refine tk4 HT_ HW_ hHeld 13 511 5 15 (h := ?_)
     refine tk4 HT_ HW_ hHeld 13 0x3ff 9 19 (h := ?_)
     refine one_ (i := 10) (N := some 20) (lb 13 0x7ff) rfl rfl (one_of HT_.out (by kernel_rfl)) (by decide) (fun K hK => ?_)
     refine gS Try.func29 #[.agg #[.int .i64 a1_0, .int .i64 a1_1], .agg #[.int .i64 ((rd_T23 t623 x7_1).f0), .int .i64 ((rd_T23 t623 x7_1).f1)]] (h := ?_)
     with_reducible refine (galloonref03_Less.calls a1_0 a1_1 ((rd_T23 t623 x7_1).f0) ((rd_T23 t623 x7_1).f1) false _ A9.out).mono ?_
     rintro e w24 ⟨rfl, hb⟩
     have HS2_ := cS hHeld.2.2.1 hb
     have HS3_ := cS hHeld.2.2.2 hb
     refine ⟨_, rfl, ?_⟩
     replace HO_6 := rB HO_6 hb
     replace BK621 := kB BK621 hb
     replace BK622 := kB BK622 hb
     replace HB := bS HB hb
     (try clear hb)
     (try clear hb2)
     (try clear hk)
     (try clear hi)
     refine hK.out _ _ ⟨(blk_cell BK621.out 0).trans rfl, (blk_cell BK621.out 1).trans rfl, HS2_, HS3_⟩ (fun hHeld => ?_)
     clear hK K
     refine norm_ (a' := ?_) ?_ ?_
     rotate_left
     ·show Act.put _ (some 20) _ = _
      simp only [Act.put, List.setIfInBounds_toArray, List.set_cons_zero, List.set_cons_succ, i64_w, i32_w]
      rfl
     refine pk HT_ 13 0xfff 11 21 (h := ?_)
     refine pk HT_ 13 0x1fff 12 22 (h := ?_)
     refine done_ (done_of HT_.out (by kernel_rfl)) ?_
     try go_wp2
     go_roundg k1
     case measure => have := HK1.out; omega
     case rel => exact ⟨(wrap64 (x7_1 + 1)), (by first | rfl | (simp; done) | (simp [*]; done)), H', ⟨by have := HK1.out; omega⟩, ⟨by (with_reducible repeat (first | apply Kd.R_alloc | apply Kd.R_drewN | apply Kd.R_drew)); exact HO_6.out⟩, kA BK621, kA BK622, bA HB⟩
   ·rw [if_neg c7] at H
    have c7b0 : decide (x7_1 < (t623.length : Int)) = false := decide_eq_false c7
    clear c7
    by_cases c25 : x7_1 = (t623.length : Int)
    ·rw [if_pos c25] at H
     have c25b0 : (x7_1 == (t623.length : Int)) = true := beq_iff_eq.mpr c25
     have c25b1 : (x7_1 != (t623.length : Int)) = false := bne_eq_false_iff_eq.mpr c25
     clear c25
     simp only [Option.some.injEq, Prod.mk.injEq] at H
     obtain ⟨rfl, rfl, rfl⟩ := H
     try go_wp2
     replace HO_6 := Aside0.mk (Kd.R_drew HO_6.out)
     replace BK621 := Aside0.mk (blk_drew BK621.out)
     replace BK622 := Aside0.mk (blk_drew BK622.out)
     replace HB := Aside0.mk (below_drew1 HB.out)
     obtain ⟨Ao27, co27, eo27⟩ := Kd.R_slice HO_6.out
     (first | subst eo27 | (injection eo27 with f1_ f2_ f3_; have f4_ := f1_.symm; have f5_ := f3_.symm; clear f1_ f2_ f3_; subst f4_; subst f5_))
     refine start_ (n := 13) (S := fun w' => True) (ds := []) (lb 13 0) (by kernel_rfl) rfl rfl trivial (fun hHeld => ?_); refine with_tabW galloonref03_Next.tab3 galloonref03_Next.bits3 (fun HT_ HW_ => ?_)
     generalize wr.drew = w26 at HO_6 BK621 BK622 HB hHeld ⊢
     refine pk HT_ 13 1 0 10 (h := ?_)
     refine pk HT_ 13 3 1 11 (h := ?_)
     refine pk HT_ 13 7 2 12 (h := ?_)
     refine pk HT_ 13 15 3 13 (h := ?_)
     refine pk HT_ 13 31 4 14 (h := ?_)
     refine pu HT_ 13 63 5 15 (h := ?_)
     refine pu HT_ 13 127 6 16 (h := ?_)
     refine pu HT_ 13 255 7 17 (h := ?_)
     refine pu HT_ 13 511 8 18 (h := ?_)
     refine pu HT_ 13 0x3ff 9 19 (h := ?_)
     refine pu HT_ 13 0x7ff 10 20 (h := ?_)
     refine pu HT_ 13 0xfff 11 21 (h := ?_)
     refine pk HT_ 13 0x1fff 12 22 (h := ?_)
     refine done_ (done_of HT_.out (by kernel_rfl)) ?_
     have hnb28 := NB622_621.out
     have hnc28 := NB621_622.out
     obtain ⟨hcz29_0, hcz29_1, hfz29_0, hfz29_1⟩ := cQ BK622
     try go_wp2
     refine bodyPost_ret (results_ct rfl _ _ gb622 23 #[.int .i64 0, .int .i64 0] (0, 0) _ rfl (by (with_reducible repeat (first | refine blk_drewN ?_ _ | refine blk_drew ?_ | refine blk_alloc ?_ _)); refine blk_put (cs := #[.int .i64 0, .int .i64 0]) ?_ 1 _ rfl; (with_reducible repeat (first | refine blk_drewN ?_ _ | refine blk_drew ?_ | refine blk_alloc ?_ _)); refine blk_put (cs := #[.int .i64 0, .int .i64 0]) ?_ 0 _ rfl; (with_reducible repeat (first | refine blk_drewN ?_ _ | refine blk_drew ?_ | refine blk_alloc ?_ _)); exact BK622.out) Try.underlying23 rfl (by kernel_rfl)) rfl ?_
     exact ⟨by first | rfl | (simp [errW_none, errW_some] <;> rfl) | (simp [*, errW_none, errW_some] <;> rfl), bB HB⟩
    ·rw [if_neg c25] at H
     have c25b0 : (x7_1 == (t623.length : Int)) = false := beq_eq_false_iff_ne.mpr c25
     have c25b1 : (x7_1 != (t623.length : Int)) = true := bne_iff_ne.mpr c25
     by_cases c30 : 0 ≤ x7_1
     ·rw [if_pos c30] at H
      exact absurd H (by simp)
     ·rw [if_neg c30] at H
      exact absurd H (by simp)
end Go.Proofs.Ythjodhmkmjabbaa.PY
