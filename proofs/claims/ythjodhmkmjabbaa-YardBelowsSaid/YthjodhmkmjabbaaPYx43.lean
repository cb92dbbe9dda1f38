-- Made by the session's own driver (wip/tools/p2.py) out of the translation; Lean checks it.
import Derived.Test.YthjodhmkmjabbaaSq
import Derived.Test.YthjodhmkmjabbaaPYx0
import Derived.Test.YthjodhmkmjabbaaPYx14
import Derived.Test.YthjodhmkmjabbaaPYx17
namespace Go.Proofs.Ythjodhmkmjabbaa.PY
open Go.RowKit Go.Proofs.YthjodhmkmjabbaaW.PrintWords Go.Proofs.YthjodhmkmjabbaaW.PrintLast Go.Proofs.YthjodhmkmjabbaaW.PrintMore
attribute [local go_sem] max2_int min2_int max_two min_two max_three min_three max_four min_four   -- for this text's walks alone
set_option linter.unusedVariables false
set_option linter.unusedSimpArgs false
/-! ### galloonref03_Touching: function 59 -/
def galloonref03_Touching.l0 : Nat → List (S23) → List (S23) → Int → Int → Int → Option ((List (S23)))
 | 0, _, _, _, _, _ => none
 | k + 1, x5, x6, x7, x662000, x662001 => if x7 < (x5.length : Int) then (if 0 ≤ x7 then ((galloonref03_Neighbors.f ((rd_T23 x5 x7).f0) ((rd_T23 x5 x7).f1) x662000 x662001).bind fun t666 => (if t666 = true then (if x6.length < 8796093022208 then (galloonref03_Touching.l0 k x5 (x6 ++ [(⟨(rd_T23 x5 x7).f0, (rd_T23 x5 x7).f1⟩ : S23)]) (wrap64 (x7 + 1)) x662000 x662001) else (none)) else ((galloonref03_Neighbors.f x662000 x662001 ((rd_T23 x5 x7).f0) ((rd_T23 x5 x7).f1)).bind fun t672 => (if t672 = true then (if x6.length < 8796093022208 then (galloonref03_Touching.l0 k x5 (x6 ++ [(⟨(rd_T23 x5 x7).f0, (rd_T23 x5 x7).f1⟩ : S23)]) (wrap64 (x7 + 1)) x662000 x662001) else (none)) else (galloonref03_Touching.l0 k x5 x6 (wrap64 (x7 + 1)) x662000 x662001))))) else (none)) else (some x6)
def galloonref03_Touching.f (k : Nat) (a0 : Int) (a1_0 : Int) (a1_1 : Int) : Option ((List (S23))) := (galloonref03_Row.f k a0).bind fun t662 => (galloonref03_Touching.l0 k t662 ([] : List (S23)) 0 a1_0 a1_1)
theorem galloonref03_Touching.mono_l : ∀ k, (∀ y0 y1 y2 y3 y4, LeO (galloonref03_Touching.l0 k y0 y1 y2 y3 y4) (galloonref03_Touching.l0 (k + 1) y0 y1 y2 y3 y4))
 | 0 => fun _ _ _ _ _ r h => by simp [galloonref03_Touching.l0] at h
 | k + 1 => by
  have ih0 := galloonref03_Touching.mono_l k
  ·intro y0 y1 y2 y3 y4
   unfold galloonref03_Touching.l0
   repeat' first
   | (with_reducible exact ih0 _ _ _ _ _)
   | (with_reducible exact galloonref03_Row.mono _ _)
   | (with_reducible exact LeO.refl _)
   | (with_reducible exact LeO.none _)
   | (with_reducible refine LeO.ite ?_ ?_)
   | (with_reducible refine LeO.bind ?_ (fun _ => ?_))
   | exact ih0 _ _ _ _ _
   | exact galloonref03_Row.mono _ _
   | exact LeO.none _
   | refine LeO.ite ?_ ?_
   | refine LeO.bind ?_ (fun _ => ?_)
theorem galloonref03_Touching.mono : ∀ a0 a1 a2 k, LeO (galloonref03_Touching.f k a0 a1 a2) (galloonref03_Touching.f (k + 1) a0 a1 a2) := by
 intro a0 a1 a2 k
 have ih0 := galloonref03_Touching.mono_l k
 unfold galloonref03_Touching.f
 repeat' first
  | (with_reducible exact ih0 _ _ _ _ _)
  | (with_reducible exact galloonref03_Row.mono _ _)
  | (with_reducible exact LeO.refl _)
  | (with_reducible exact LeO.none _)
  | (with_reducible refine LeO.ite ?_ ?_)
  | (with_reducible refine LeO.bind ?_ (fun _ => ?_))
  | exact ih0 _ _ _ _ _
  | exact galloonref03_Row.mono _ _
  | exact LeO.none _
  | refine LeO.ite ?_ ?_
  | refine LeO.bind ?_ (fun _ => ?_)
def galloonref03_Touching.T6 : Bool × List (List Nat × List Nat) := (true, [([], []), ([], []), ([0, 1], [0, 1]), ([2], [2]), ([], []), ([3, 4], [3, 4]), ([5, 5], [5]), ([6], [6]), ([6], [6]), ([6], [6]), ([8, 9, 6], [6, 8, 9]), ([10, 6], [6, 10]), ([7, 11, 6, 6], [6, 7, 11]), ([6, 12], [6, 12])])
def galloonref03_Touching.B6 : List Nat := [0, 0, 3, 7, 0, 31, 63, 127, 127, 127, 895, 1919, 4095, 8191]
theorem galloonref03_Touching.tab6 : rtab .any (opsOf Try.f59 6) = galloonref03_Touching.T6 := by kernel_rfl
theorem galloonref03_Touching.bits6 : waitsOk galloonref03_Touching.T6.2 galloonref03_Touching.B6 = true := by kernel_rfl
set_option maxHeartbeats 8000000 in
set_option maxRecDepth 100000 in
theorem galloonref03_Touching.calls (k : Nat) (a0 : Int) (a1_0 : Int) (a1_1 : Int) (r : List (S23)) (w : World) (h : galloonref03_Touching.f k a0 a1_0 a1_1 = some r) :
 Calls Try.prog 59 #[.int .i64 a0, .agg #[.int .i64 a1_0, .int .i64 a1_1]] w fun e w' => ∃ v0_ : Value, e = .returned (v0_) ∧ Kd.R k23 23 w' w.heap.size (fun _ => True) v0_ r ∧ Below w.heap.size w w' := by
 have hu23 := Try.underlying23
 have HB := Aside0.mk (Below.refl w.heap.size w)
 have H : ((galloonref03_Row.f k a0).bind fun t662 => (galloonref03_Touching.l0 k t662 ([] : List (S23)) 0 a1_0 a1_1)) = some r := h
 clear h
 replace H := Option.bind_eq_some_iff.mp H
 obtain ⟨t662, A30, H⟩ := H
 replace H : (galloonref03_Touching.l0 k t662 ([] : List (S23)) 0 a1_0 a1_1) = some r := H
 have A3 := Aside0.mk A30
 clear A30
 have H' := Aside0.mk H
 clear H
 go_enter Try.func59, Try.ntmps59
 go_wp2_with (first | ((with_reducible refine gate_dst (N := 3) rfl ?_); refine box_event ?hg (N := 3) ?hd (cs := #[.int .i64 a1_0, .int .i64 a1_1]) (t := 23) ?hr ?_; (case hd => rfl); (case hg => rfl); (case hr => first | (go_simp; done) | (go_simp; rfl)); intro gb661 hg w4 hbox hb; have BK661 := Aside0.mk (hbox); have GW661 := bG HB hg; have GE661 := bG HB hg; replace HB := bS HB hb; clear hb hbox hg) | ((with_reducible refine gate_callee (f := 38) rfl ?_); refine gL 9 Try.func38 #[.int .i64 a0] (h := ?_); (with_reducible refine (galloonref03_Row.calls k a0 t662 _ A3.out).mono ?_); rintro e w5 ⟨v663, rfl, ho0, hb⟩; refine ⟨_, rfl, ?_⟩; have HO664 := Aside0.mk (Kd.R_lower (Kd.R_newB ho0 (g := gb661) (o := .cells #[.int .i64 a1_0, .int .i64 a1_1] 23 (0, 0)) (kb BK661)) (below_size (bB HB))); replace BK661 := kB BK661 hb; replace HB := bS HB hb; (try clear hb); (try clear hb2); (try clear hk); (try clear hi); (try clear ho0)))
 go_loopg [6, 7] k (fun kq v6 v7 w' => ∃ (x6_1 : List (S23)) (x7_1 : Int), v7 = .int .i64 x7_1 ∧ Aside0 (galloonref03_Touching.l0 kq t662 x6_1 x7_1 a1_0 a1_1 = some r) ∧ Aside0 (kq ≤ k) ∧ Aside0 (Kd.R k23 23 w' w.heap.size (fun k_ => some k_ ≠ (v6 : Value).ownBlock ∧ k_ ≠ gb661) v663 t662) ∧ Aside0 (Kd.R k23 23 w' w.heap.size (fun k_ => some k_ ≠ (v663 : Value).ownBlock ∧ k_ ≠ gb661) v6 x6_1) ∧ Aside0 (w'.heap[gb661]? = some (.cells #[.int .i64 a1_0, .int .i64 a1_1] 23 (0, 0))) ∧ Aside0 (Below w.heap.size w w'))
 case atStart => exact ⟨(([] : List (S23))), (0), (by first | rfl | (simp; done) | (simp [*]; done)), H', ⟨Nat.le_refl _⟩, ⟨by (with_reducible repeat (first | apply Kd.R_alloc | apply Kd.R_drewN | apply Kd.R_drew)); exact Kd.R_mono HO664.out (fun _ hk => ⟨(by simp [Value.ownBlock]), hk.2⟩)⟩, ⟨by first | exact Kd.R_nil _ _ _ _ _ | exact Kd.N_nil _ _ _ _ _ | exact Kd.V_nil _ _ _ _ _ | exact Kd.Q_nil _ _ _ _ _ | exact Kd.S_nil _ _ _ _ _⟩, kA BK661, bA HB⟩
 case round =>
  clear H'
  try clear p2
  obtain ⟨x6_1, x7_1, rfl, HA, HK1, HO_5, HO_6, BK661, HB⟩ := hrel
  cases gk with
  | zero => exact absurd HA.out (by simp [galloonref03_Touching.l0])
  | succ k1 =>
   have H := HA.out
   clear HA
   simp only [galloonref03_Touching.l0] at H
   by_cases c6 : x7_1 < (t662.length : Int)
   ·rw [if_pos c6] at H
    have c6b0 : decide (x7_1 < (t662.length : Int)) = true := decide_eq_true c6
    clear c6
    by_cases c7 : 0 ≤ x7_1
    case neg =>
     rw [if_neg c7] at H
     exact absurd H (by simp)
    rw [if_pos c7] at H
    have c7b0 : decide (0 ≤ x7_1) = true := decide_eq_true c7
    clear c7
    replace H := Option.bind_eq_some_iff.mp H
    obtain ⟨t666, A80, H⟩ := H
    replace H : (if t666 = true then (if x6_1.length < 8796093022208 then (galloonref03_Touching.l0 k1 t662 (x6_1 ++ [(⟨(rd_T23 t662 x7_1).f0, (rd_T23 t662 x7_1).f1⟩ : S23)]) (wrap64 (x7_1 + 1)) a1_0 a1_1) else (none)) else ((galloonref03_Neighbors.f a1_0 a1_1 ((rd_T23 t662 x7_1).f0) ((rd_T23 t662 x7_1).f1)).bind fun t672 => (if t672 = true then (if x6_1.length < 8796093022208 then (galloonref03_Touching.l0 k1 t662 (x6_1 ++ [(⟨(rd_T23 t662 x7_1).f0, (rd_T23 t662 x7_1).f1⟩ : S23)]) (wrap64 (x7_1 + 1)) a1_0 a1_1) else (none)) else (galloonref03_Touching.l0 k1 t662 x6_1 (wrap64 (x7_1 + 1)) a1_0 a1_1)))) = some r := H
    have A8 := Aside0.mk A80
    clear A80
    by_cases c9 : t666 = true
    ·subst c9
     have H1 : (if x6_1.length < 8796093022208 then (galloonref03_Touching.l0 k1 t662 (x6_1 ++ [(⟨(rd_T23 t662 x7_1).f0, (rd_T23 t662 x7_1).f1⟩ : S23)]) (wrap64 (x7_1 + 1)) a1_0 a1_1) else (none)) = some r := by rw [if_pos rfl] at H; exact H
     clear H
     have H := H1
     clear H1
     by_cases c10 : x6_1.length < 8796093022208
     case neg =>
      rw [if_neg c10] at H
      exact absurd H (by simp)
     rw [if_pos c10] at H
     have LMc10 := Aside0.mk c10
     clear c10
     obtain ⟨y668, hy668⟩ : ∃ y_ : List (S23), y_ = (x6_1 ++ [(⟨(rd_T23 t662 x7_1).f0, (rd_T23 t662 x7_1).f1⟩ : S23)]) := ⟨_, rfl⟩
     replace H : (galloonref03_Touching.l0 k1 t662 y668 (wrap64 (x7_1 + 1)) a1_0 a1_1) = some r := by first | (rw [hy668]; with_reducible exact H) | (have H2_ := (Option.bind_some _ _).symm.trans H; rw [hy668]; with_reducible exact H2_) | (have H2_ := (Option.bind_some _ _).symm.trans H; with_reducible exact H2_) | with_reducible exact H | (rw [hy668]; exact H) | exact H
     have Ny668 := Aside0.mk hy668
     clear hy668
     have H' := Aside0.mk H
     clear H
     obtain ⟨Ao11, co11, eo11⟩ := Kd.R_slice HO_5.out
     subst eo11
     try go_wp2
     replace HO_5 := Aside0.mk (Kd.R_drew HO_5.out)
     replace HO_6 := Aside0.mk (Kd.R_drew HO_6.out)
     replace BK661 := Aside0.mk (blk_drew BK661.out)
     replace HB := Aside0.mk (below_drew1 HB.out)
     have p665 : 0 ≤ (x7_1 : Int) := oD
     have q665 : x7_1 < (t662.length : Int) := oD
     obtain ⟨ad665, e665, hx665_0, hx665_1⟩ := at_T23 (Kd.R_reads' HO_5.out).2.2 x7_1 p665 q665
     cases e665
     replace p665 := eq_true p665
     replace q665 := eq_true q665
     refine start_ (n := 14) (S := fun w' => w'.cell? ⟨gb661, 0, none⟩ = some (.int .i64 a1_0) ∧ w'.cell? ⟨gb661, 1, none⟩ = some (.int .i64 a1_1) ∧ w'.cell? (ad665.add ((x7_1).toNat * 2)) = some (.int .i64 ((rd_T23 t662 x7_1).f0)) ∧ w'.cell? ⟨(ad665.add ((x7_1).toNat * 2)).block, (ad665.add ((x7_1).toNat * 2)).off + 1, none⟩ = some (.int .i64 ((rd_T23 t662 x7_1).f1))) (ds := []) (lb 14 0) (by kernel_rfl) rfl (by kernel_rfl) ⟨(blk_cell BK661.out 0).trans rfl, (blk_cell BK661.out 1).trans rfl, hx665_0, hx665_1⟩ (fun hHeld => ?_); refine with_tabW galloonref03_Touching.tab6 galloonref03_Touching.bits6 (fun HT_ HW_ => ?_)
     generalize wr.drew = w12 at HO_5 HO_6 BK661 HB hx665_0 hx665_1 hHeld ⊢
     refine pk HT_ 14 1 0 16 (h := ?_)
     refine pk HT_ 14 3 1 17 (h := ?_)
     refine pk HT_ 14 7 2 18 (h := ?_)
     refine tk4 HT_ HW_ hHeld 14 15 3 19 (h := ?_)
     refine tk4 HT_ HW_ hHeld 14 31 4 20 (h := ?_)
     refine one_ (i := 5) (N := some 21) (lb 14 63) rfl rfl (one_of HT_.out (by kernel_rfl)) (by decide) (fun K hK => ?_)
     refine gS Try.func33 #[.agg #[.int .i64 ((rd_T23 t662 x7_1).f0), .int .i64 ((rd_T23 t662 x7_1).f1)], .agg #[.int .i64 a1_0, .int .i64 a1_1]] (h := ?_)
     with_reducible refine (galloonref03_Neighbors.calls ((rd_T23 t662 x7_1).f0) ((rd_T23 t662 x7_1).f1) a1_0 a1_1 true _ A8.out).mono ?_
     rintro e w13 ⟨rfl, hb⟩
     have HS2_ := cS hHeld.2.2.1 hb
     have HS3_ := cS hHeld.2.2.2 hb
     refine ⟨_, rfl, ?_⟩
     replace HO_5 := rB HO_5 hb
     replace HO_6 := rB HO_6 hb
     replace BK661 := kB BK661 hb
     replace HB := bS HB hb
     (try clear hb)
     (try clear hb2)
     (try clear hk)
     (try clear hi)
     refine hK.out _ _ ⟨(blk_cell BK661.out 0).trans rfl, (blk_cell BK661.out 1).trans rfl, HS2_, HS3_⟩ (fun hHeld => ?_)
     clear hK K
     refine norm_ (a' := ?_) ?_ ?_
     rotate_left
     ·show Act.put _ (some 21) _ = _
      simp only [Act.put, List.setIfInBounds_toArray, List.set_cons_zero, List.set_cons_succ, i64_w, i32_w]
      rfl
     refine pk HT_ 14 127 6 22 (h := ?_)
     refine pu HT_ 14 255 7 23 (h := ?_)
     refine pu HT_ 14 511 8 24 (h := ?_)
     refine pu HT_ 14 0x3ff 9 25 (h := ?_)
     refine pu HT_ 14 0x7ff 10 26 (h := ?_)
     refine pu HT_ 14 0xfff 11 27 (h := ?_)
     refine pu HT_ 14 0x1fff 12 28 (h := ?_)
     refine pk HT_ 14 0x3fff 13 29 (h := ?_)
     refine done_ (done_of HT_.out (by kernel_rfl)) ?_
     have p667 : 0 ≤ (x7_1 : Int) := oD
     have q667 : x7_1 < (t662.length : Int) := oD
     obtain ⟨ad667, e667, hx667_0, hx667_1⟩ := at_T23 (Kd.R_reads' HO_5.out).2.2 x7_1 p667 q667
     obtain rfl : ad665 = ad667 := (by injection e667)
     replace p667 := eq_true p667
     replace q667 := eq_true q667
     try go_wp2_with (first | ((with_reducible refine gate_builtin (b := .append) (xs := #[.tmp 30, .tmp 35]) rfl ?_); at_builtin; refine Kd.R_append k23 (w0 := w) w.heap.size rfl (.tmp 30) (.tmp 35) 54 23 (.agg #[(.int .i64 0), (.int .i64 0)]) 16 rfl Try.underlying54 info23 rfl (by decide) (by omega) u6 x6_1 (⟨(rd_T23 t662 x7_1).f0, (rd_T23 t662 x7_1).f1⟩ : S23) [.int .i64 ((rd_T23 t662 x7_1).f0), .int .i64 ((rd_T23 t662 x7_1).f1)] (fun k_ => some k_ ≠ (.slice (some ad665) t662.length co11 : Value).ownBlock ∧ k_ ≠ gb661) (fun _ => False) rfl rfl ?aP (fun _ hk => hk.elim) ?aF ?aO ?aB ?aS ?aL ?_; (case aP => exact k23_mkM _ _ _ (⟨(rd_T23 t662 x7_1).f0, (rd_T23 t662 x7_1).f1⟩ : S23)); (case aB => exact (bB HB)); (case aF => exact (fun k_ hk => ⟨Kd.fresh' (Kd.R_lt (by (with_reducible repeat (first | apply Kd.R_alloc | apply Kd.R_drewN | apply Kd.R_drew)); exact HO_5.out)) k_ hk, Kd.freshB (g := gb661) (o := .cells #[.int .i64 a1_0, .int .i64 a1_1] 23 (0, 0)) (kb BK661) k_ hk⟩)); (case aO => exact (by (with_reducible repeat (first | apply Kd.R_alloc | apply Kd.R_drewN | apply Kd.R_drew)); exact HO_6.out)); (case aS => exact (below_size (bB HB))); (case aL => have := LMc10.out; omega); intro v669 w14 ho hb hg hat; rw [← Ny668.out] at ho; replace HO_5 := Aside0.mk (Kd.R_after (ok := (fun k_ => k_ ≠ gb661)) (by (with_reducible repeat (first | apply Kd.R_alloc | apply Kd.R_drewN | apply Kd.R_drew)); exact Kd.R_mono HO_5.out (fun _ hk => ⟨hk.2, hk.1⟩)) hg hat); replace BK661 := Aside0.mk (blk_grown (g := gb661) (o := .cells #[.int .i64 a1_0, .int .i64 a1_1] 23 (0, 0)) (kb BK661) hg (Kd.R_away HO_6.out (fun _ hk => hk.2))); replace HB := Aside0.mk (hb); have HO670 := Aside0.mk (ho); clear HO_6; clear ho hb hg hat))
     go_roundg k1
     case measure => have := HK1.out; omega
     case rel => exact ⟨(y668), (wrap64 (x7_1 + 1)), (by first | rfl | (simp; done) | (simp [*]; done)), H', ⟨by have := HK1.out; omega⟩, ⟨by (with_reducible repeat (first | apply Kd.R_alloc | apply Kd.R_drewN | apply Kd.R_drew)); exact Kd.R_mono HO_5.out (fun _ hk => ⟨hk.2, hk.1⟩)⟩, ⟨by (with_reducible repeat (first | apply Kd.R_alloc | apply Kd.R_drewN | apply Kd.R_drew)); exact HO670.out⟩, kA BK661, bA HB⟩
    ·replace c9 := Bool.eq_false_iff.mpr c9
     subst c9
     have H1 : ((galloonref03_Neighbors.f a1_0 a1_1 ((rd_T23 t662 x7_1).f0) ((rd_T23 t662 x7_1).f1)).bind fun t672 => (if t672 = true then (if x6_1.length < 8796093022208 then (galloonref03_Touching.l0 k1 t662 (x6_1 ++ [(⟨(rd_T23 t662 x7_1).f0, (rd_T23 t662 x7_1).f1⟩ : S23)]) (wrap64 (x7_1 + 1)) a1_0 a1_1) else (none)) else (galloonref03_Touching.l0 k1 t662 x6_1 (wrap64 (x7_1 + 1)) a1_0 a1_1))) = some r := by rw [if_neg (show ¬ (false = true) by decide)] at H; exact H
     clear H
     have H := H1
     clear H1
     replace H := Option.bind_eq_some_iff.mp H
     obtain ⟨t672, A150, H⟩ := H
     replace H : (if t672 = true then (if x6_1.length < 8796093022208 then (galloonref03_Touching.l0 k1 t662 (x6_1 ++ [(⟨(rd_T23 t662 x7_1).f0, (rd_T23 t662 x7_1).f1⟩ : S23)]) (wrap64 (x7_1 + 1)) a1_0 a1_1) else (none)) else (galloonref03_Touching.l0 k1 t662 x6_1 (wrap64 (x7_1 + 1)) a1_0 a1_1)) = some r := H
     have A15 := Aside0.mk A150
     clear A150
     by_cases c16 : t672 = true
     ·subst c16
      have H1 : (if x6_1.length < 8796093022208 then (galloonref03_Touching.l0 k1 t662 (x6_1 ++ [(⟨(rd_T23 t662 x7_1).f0, (rd_T23 t662 x7_1).f1⟩ : S23)]) (wrap64 (x7_1 + 1)) a1_0 a1_1) else (none)) = some r := by rw [if_pos rfl] at H; exact H
      clear H
      have H := H1
      clear H1
      by_cases c17 : x6_1.length < 8796093022208
      case neg =>
       rw [if_neg c17] at H
       exact absurd H (by simp)
      rw [if_pos c17] at H
      have LMc17 := Aside0.mk c17
      clear c17
      obtain ⟨y674, hy674⟩ : ∃ y_ : List (S23), y_ = (x6_1 ++ [(⟨(rd_T23 t662 x7_1).f0, (rd_T23 t662 x7_1).f1⟩ : S23)]) := ⟨_, rfl⟩
      replace H : (galloonref03_Touching.l0 k1 t662 y674 (wrap64 (x7_1 + 1)) a1_0 a1_1) = some r := by first | (rw [hy674]; with_reducible exact H) | (have H2_ := (Option.bind_some _ _).symm.trans H; rw [hy674]; with_reducible exact H2_) | (have H2_ := (Option.bind_some _ _).symm.trans H; with_reducible exact H2_) | with_reducible exact H | (rw [hy674]; exact H) | exact H
      have Ny674 := Aside0.mk hy674
      clear hy674
      have H' := Aside0.mk H
      clear H
      obtain ⟨Ao18, co18, eo18⟩ := Kd.R_slice HO_5.out
      subst eo18
      try go_wp2
      replace HO_5 := Aside0.mk (Kd.R_drew HO_5.out)
      replace HO_6 := Aside0.mk (Kd.R_drew HO_6.out)
      replace BK661 := Aside0.mk (blk_drew BK661.out)
      replace HB := Aside0.mk (below_drew1 HB.out)
      have p665 : 0 ≤ (x7_1 : Int) := oD
      have q665 : x7_1 < (t662.length : Int) := oD
      obtain ⟨ad665, e665, hx665_0, hx665_1⟩ := at_T23 (Kd.R_reads' HO_5.out).2.2 x7_1 p665 q665
      cases e665
      replace p665 := eq_true p665
      replace q665 := eq_true q665
      have p671 : 0 ≤ (x7_1 : Int) := oD
      have q671 : x7_1 < (t662.length : Int) := oD
      obtain ⟨ad671, e671, hx671_0, hx671_1⟩ := at_T23 (Kd.R_reads' HO_5.out).2.2 x7_1 p671 q671
      obtain rfl : ad665 = ad671 := (by injection e671)
      replace p671 := eq_true p671
      replace q671 := eq_true q671
      refine start_ (n := 14) (S := fun w' => w'.cell? ⟨gb661, 0, none⟩ = some (.int .i64 a1_0) ∧ w'.cell? ⟨gb661, 1, none⟩ = some (.int .i64 a1_1) ∧ w'.cell? (ad665.add ((x7_1).toNat * 2)) = some (.int .i64 ((rd_T23 t662 x7_1).f0)) ∧ w'.cell? ⟨(ad665.add ((x7_1).toNat * 2)).block, (ad665.add ((x7_1).toNat * 2)).off + 1, none⟩ = some (.int .i64 ((rd_T23 t662 x7_1).f1)) ∧ w'.cell? (ad665.add ((x7_1).toNat * 2)) = some (.int .i64 ((rd_T23 t662 x7_1).f0)) ∧ w'.cell? ⟨(ad665.add ((x7_1).toNat * 2)).block, (ad665.add ((x7_1).toNat * 2)).off + 1, none⟩ = some (.int .i64 ((rd_T23 t662 x7_1).f1))) (ds := []) (lb 14 0) (by kernel_rfl) rfl (by kernel_rfl) ⟨(blk_cell BK661.out 0).trans rfl, (blk_cell BK661.out 1).trans rfl, hx665_0, hx665_1, hx671_0, hx671_1⟩ (fun hHeld => ?_); refine with_tabW galloonref03_Touching.tab6 galloonref03_Touching.bits6 (fun HT_ HW_ => ?_)
      generalize wr.drew = w19 at HO_5 HO_6 BK661 HB hx665_0 hx665_1 hx671_0 hx671_1 hHeld ⊢
      refine pk HT_ 14 1 0 16 (h := ?_)
      refine pk HT_ 14 3 1 17 (h := ?_)
      refine pk HT_ 14 7 2 18 (h := ?_)
      refine tk6 HT_ HW_ hHeld 14 15 3 19 (h := ?_)
      refine tk6 HT_ HW_ hHeld 14 31 4 20 (h := ?_)
      refine one_ (i := 5) (N := some 21) (lb 14 63) rfl rfl (one_of HT_.out (by kernel_rfl)) (by decide) (fun K hK => ?_)
      refine gS Try.func33 #[.agg #[.int .i64 ((rd_T23 t662 x7_1).f0), .int .i64 ((rd_T23 t662 x7_1).f1)], .agg #[.int .i64 a1_0, .int .i64 a1_1]] (h := ?_)
      with_reducible refine (galloonref03_Neighbors.calls ((rd_T23 t662 x7_1).f0) ((rd_T23 t662 x7_1).f1) a1_0 a1_1 false _ A8.out).mono ?_
      rintro e w20 ⟨rfl, hb⟩
      have HS2_ := cS hHeld.2.2.1 hb
      have HS3_ := cS hHeld.2.2.2.1 hb
      have HS4_ := cS hHeld.2.2.2.2.1 hb
      have HS5_ := cS hHeld.2.2.2.2.2 hb
      refine ⟨_, rfl, ?_⟩
      replace HO_5 := rB HO_5 hb
      replace HO_6 := rB HO_6 hb
      replace BK661 := kB BK661 hb
      replace HB := bS HB hb
      (try clear hb)
      (try clear hb2)
      (try clear hk)
      (try clear hi)
      refine hK.out _ _ ⟨(blk_cell BK661.out 0).trans rfl, (blk_cell BK661.out 1).trans rfl, HS2_, HS3_, HS4_, HS5_⟩ (fun hHeld => ?_)
      clear hK K
      refine norm_ (a' := ?_) ?_ ?_
      rotate_left
      ·show Act.put _ (some 21) _ = _
       simp only [Act.put, List.setIfInBounds_toArray, List.set_cons_zero, List.set_cons_succ, i64_w, i32_w]
       rfl
      refine pk HT_ 14 127 6 22 (h := ?_)
      refine pk HT_ 14 383 8 24 (h := ?_)
      refine pk HT_ 14 895 9 25 (h := ?_)
      refine pk HT_ 14 0x77f 10 26 (h := ?_)
      refine tk6 HT_ HW_ hHeld 14 0x7ff 7 23 (h := ?_)
      refine tk6 HT_ HW_ hHeld 14 0xfff 11 27 (h := ?_)
      refine one_ (i := 12) (N := some 28) (lb 14 0x1fff) rfl rfl (one_of HT_.out (by kernel_rfl)) (by decide) (fun K hK => ?_)
      refine gS Try.func33 #[.agg #[.int .i64 a1_0, .int .i64 a1_1], .agg #[.int .i64 ((rd_T23 t662 x7_1).f0), .int .i64 ((rd_T23 t662 x7_1).f1)]] (h := ?_)
      with_reducible refine (galloonref03_Neighbors.calls a1_0 a1_1 ((rd_T23 t662 x7_1).f0) ((rd_T23 t662 x7_1).f1) true _ A15.out).mono ?_
      rintro e w21 ⟨rfl, hb⟩
      have HS2_ := cS hHeld.2.2.1 hb
      have HS3_ := cS hHeld.2.2.2.1 hb
      have HS4_ := cS hHeld.2.2.2.2.1 hb
      have HS5_ := cS hHeld.2.2.2.2.2 hb
      refine ⟨_, rfl, ?_⟩
      replace HO_5 := rB HO_5 hb
      replace HO_6 := rB HO_6 hb
      replace BK661 := kB BK661 hb
      replace HB := bS HB hb
      (try clear hb)
      (try clear hb2)
      (try clear hk)
      (try clear hi)
      refine hK.out _ _ ⟨(blk_cell BK661.out 0).trans rfl, (blk_cell BK661.out 1).trans rfl, HS2_, HS3_, HS4_, HS5_⟩ (fun hHeld => ?_)
      clear hK K
      refine norm_ (a' := ?_) ?_ ?_
      rotate_left
      ·show Act.put _ (some 28) _ = _
       simp only [Act.put, List.setIfInBounds_toArray, List.set_cons_zero, List.set_cons_succ, i64_w, i32_w]
       rfl
      refine pk HT_ 14 0x3fff 13 29 (h := ?_)
      refine done_ (done_of HT_.out (by kernel_rfl)) ?_
      have p673 : 0 ≤ (x7_1 : Int) := oD
      have q673 : x7_1 < (t662.length : Int) := oD
      obtain ⟨ad673, e673, hx673_0, hx673_1⟩ := at_T23 (Kd.R_reads' HO_5.out).2.2 x7_1 p673 q673
      obtain rfl : ad665 = ad673 := (by injection e673)
      replace p673 := eq_true p673
      replace q673 := eq_true q673
      try go_wp2_with (first | ((with_reducible refine gate_builtin (b := .append) (xs := #[.tmp 30, .tmp 35]) rfl ?_); at_builtin; refine Kd.R_append k23 (w0 := w) w.heap.size rfl (.tmp 30) (.tmp 35) 54 23 (.agg #[(.int .i64 0), (.int .i64 0)]) 16 rfl Try.underlying54 info23 rfl (by decide) (by omega) u6 x6_1 (⟨(rd_T23 t662 x7_1).f0, (rd_T23 t662 x7_1).f1⟩ : S23) [.int .i64 ((rd_T23 t662 x7_1).f0), .int .i64 ((rd_T23 t662 x7_1).f1)] (fun k_ => some k_ ≠ (.slice (some ad665) t662.length co18 : Value).ownBlock ∧ k_ ≠ gb661) (fun _ => False) rfl rfl ?aP (fun _ hk => hk.elim) ?aF ?aO ?aB ?aS ?aL ?_; (case aP => exact k23_mkM _ _ _ (⟨(rd_T23 t662 x7_1).f0, (rd_T23 t662 x7_1).f1⟩ : S23)); (case aB => exact (bB HB)); (case aF => exact (fun k_ hk => ⟨Kd.fresh' (Kd.R_lt (by (with_reducible repeat (first | apply Kd.R_alloc | apply Kd.R_drewN | apply Kd.R_drew)); exact HO_5.out)) k_ hk, Kd.freshB (g := gb661) (o := .cells #[.int .i64 a1_0, .int .i64 a1_1] 23 (0, 0)) (kb BK661) k_ hk⟩)); (case aO => exact (by (with_reducible repeat (first | apply Kd.R_alloc | apply Kd.R_drewN | apply Kd.R_drew)); exact HO_6.out)); (case aS => exact (below_size (bB HB))); (case aL => have := LMc17.out; omega); intro v675 w22 ho hb hg hat; rw [← Ny674.out] at ho; replace HO_5 := Aside0.mk (Kd.R_after (ok := (fun k_ => k_ ≠ gb661)) (by (with_reducible repeat (first | apply Kd.R_alloc | apply Kd.R_drewN | apply Kd.R_drew)); exact Kd.R_mono HO_5.out (fun _ hk => ⟨hk.2, hk.1⟩)) hg hat); replace BK661 := Aside0.mk (blk_grown (g := gb661) (o := .cells #[.int .i64 a1_0, .int .i64 a1_1] 23 (0, 0)) (kb BK661) hg (Kd.R_away HO_6.out (fun _ hk => hk.2))); replace HB := Aside0.mk (hb); have HO676 := Aside0.mk (ho); clear HO_6; clear ho hb hg hat))
      go_roundg k1
      case measure => have := HK1.out; omega
      case rel => exact ⟨(y674), (wrap64 (x7_1 + 1)), (by first | rfl | (simp; done) | (simp [*]; done)), H', ⟨by have := HK1.out; omega⟩, ⟨by (with_reducible repeat (first | apply Kd.R_alloc | apply Kd.R_drewN | apply Kd.R_drew)); exact Kd.R_mono HO_5.out (fun _ hk => ⟨hk.2, hk.1⟩)⟩, ⟨by (with_reducible repeat (first | apply Kd.R_alloc | apply Kd.R_drewN | apply Kd.R_drew)); exact HO676.out⟩, kA BK661, bA HB⟩
     ·replace c16 := Bool.eq_false_iff.mpr c16
      subst c16
      have H1 : (galloonref03_Touching.l0 k1 t662 x6_1 (wrap64 (x7_1 + 1)) a1_0 a1_1) = some r := by rw [if_neg (show ¬ (false = true) by decide)] at H; exact H
      clear H
      have H := H1
      clear H1
      have H' := Aside0.mk H
      clear H
      obtain ⟨Ao23, co23, eo23⟩ := Kd.R_slice HO_5.out
      subst eo23
      try go_wp2
      replace HO_5 := Aside0.mk (Kd.R_drew HO_5.out)
      replace HO_6 := Aside0.mk (Kd.R_drew HO_6.out)
      replace BK661 := Aside0.mk (blk_drew BK661.out)
      replace HB := Aside0.mk (below_drew1 HB.out)
      have p665 : 0 ≤ (x7_1 : Int) := oD
      have q665 : x7_1 < (t662.length : Int) := oD
      obtain ⟨ad665, e665, hx665_0, hx665_1⟩ := at_T23 (Kd.R_reads' HO_5.out).2.2 x7_1 p665 q665
      cases e665
      replace p665 := eq_true p665
      replace q665 := eq_true q665
      have p671 : 0 ≤ (x7_1 : Int) := oD
      have q671 : x7_1 < (t662.length : Int) := oD
      obtain ⟨ad671, e671, hx671_0, hx671_1⟩ := at_T23 (Kd.R_reads' HO_5.out).2.2 x7_1 p671 q671
      obtain rfl : ad665 = ad671 := (by injection e671)
      replace p671 := eq_true p671
      replace q671 := eq_true q671
      refine start_ (n := 14) (S := fun w' => w'.cell? ⟨gb661, 0, none⟩ = some (.int .i64 a1_0) ∧ w'.cell? ⟨gb661, 1, none⟩ = some (.int .i64 a1_1) ∧ w'.cell? (ad665.add ((x7_1).toNat * 2)) = some (.int .i64 ((rd_T23 t662 x7_1).f0)) ∧ w'.cell? ⟨(ad665.add ((x7_1).toNat * 2)).block, (ad665.add ((x7_1).toNat * 2)).off + 1, none⟩ = some (.int .i64 ((rd_T23 t662 x7_1).f1)) ∧ w'.cell? (ad665.add ((x7_1).toNat * 2)) = some (.int .i64 ((rd_T23 t662 x7_1).f0)) ∧ w'.cell? ⟨(ad665.add ((x7_1).toNat * 2)).block, (ad665.add ((x7_1).toNat * 2)).off + 1, none⟩ = some (.int .i64 ((rd_T23 t662 x7_1).f1))) (ds := []) (lb 14 0) (by kernel_rfl) rfl (by kernel_rfl) ⟨(blk_cell BK661.out 0).trans rfl, (blk_cell BK661.out 1).trans rfl, hx665_0, hx665_1, hx671_0, hx671_1⟩ (fun hHeld => ?_); refine with_tabW galloonref03_Touching.tab6 galloonref03_Touching.bits6 (fun HT_ HW_ => ?_)
      generalize wr.drew = w24 at HO_5 HO_6 BK661 HB hx665_0 hx665_1 hx671_0 hx671_1 hHeld ⊢
      refine pk HT_ 14 1 0 16 (h := ?_)
      refine pk HT_ 14 3 1 17 (h := ?_)
      refine pk HT_ 14 7 2 18 (h := ?_)
      refine tk6 HT_ HW_ hHeld 14 15 3 19 (h := ?_)
      refine tk6 HT_ HW_ hHeld 14 31 4 20 (h := ?_)
      refine one_ (i := 5) (N := some 21) (lb 14 63) rfl rfl (one_of HT_.out (by kernel_rfl)) (by decide) (fun K hK => ?_)
      refine gS Try.func33 #[.agg #[.int .i64 ((rd_T23 t662 x7_1).f0), .int .i64 ((rd_T23 t662 x7_1).f1)], .agg #[.int .i64 a1_0, .int .i64 a1_1]] (h := ?_)
      with_reducible refine (galloonref03_Neighbors.calls ((rd_T23 t662 x7_1).f0) ((rd_T23 t662 x7_1).f1) a1_0 a1_1 false _ A8.out).mono ?_
      rintro e w25 ⟨rfl, hb⟩
      have HS2_ := cS hHeld.2.2.1 hb
      have HS3_ := cS hHeld.2.2.2.1 hb
      have HS4_ := cS hHeld.2.2.2.2.1 hb
      have HS5_ := cS hHeld.2.2.2.2.2 hb
      refine ⟨_, rfl, ?_⟩
      replace HO_5 := rB HO_5 hb
      replace HO_6 := rB HO_6 hb
      replace BK661 := kB BK661 hb
      replace HB := bS HB hb
      (try clear hb)
      (try clear hb2)
      (try clear hk)
      (try clear hi)
      refine hK.out _ _ ⟨(blk_cell BK661.out 0).trans rfl, (blk_cell BK661.out 1).trans rfl, HS2_, HS3_, HS4_, HS5_⟩ (fun hHeld => ?_)
      clear hK K
      refine norm_ (a' := ?_) ?_ ?_
      rotate_left
      ·show Act.put _ (some 21) _ = _
       simp only [Act.put, List.setIfInBounds_toArray, List.set_cons_zero, List.set_cons_succ, i64_w, i32_w]
       rfl
      refine pk HT_ 14 127 6 22 (h := ?_)
      refine pk HT_ 14 383 8 24 (h := ?_)
      refine pk HT_ 14 895 9 25 (h := ?_)
      refine pk HT_ 14 0x77f 10 26 (h := ?_)
      refine tk6 HT_ HW_ hHeld 14 0x7ff 7 23 (h := ?_)
      refine tk6 HT_ HW_ hHeld 14 0xfff 11 27 (h := ?_)
      refine one_ (i := 12) (N := some 28) (lb 14 0x1fff) rfl rfl (one_of HT_.out (by kernel_rfl)) (by decide) (fun K hK => ?_)
      refine gS Try.func33 #[.agg #[.int .i64 a1_0, .int .i64 a1_1], .agg #[.int .i64 ((rd_T23 t662 x7_1).f0), .int .i64 ((rd_T23 t662 x7_1).f1)]] (h := ?_)
      with_reducible refine (galloonref03_Neighbors.calls a1_0 a1_1 ((rd_T23 t662 x7_1).f0) ((rd_T23 t662 x7_1).f1) false _ A15.out).mono ?_
      rintro e w26 ⟨rfl, hb⟩
      have HS2_ := cS hHeld.2.2.1 hb
      have HS3_ := cS hHeld.2.2.2.1 hb
      have HS4_ := cS hHeld.2.2.2.2.1 hb
      have HS5_ := cS hHeld.2.2.2.2.2 hb
      refine ⟨_, rfl, ?_⟩
      replace HO_5 := rB HO_5 hb
      replace HO_6 := rB HO_6 hb
      replace BK661 := kB BK661 hb
      replace HB := bS HB hb
      (try clear hb)
      (try clear hb2)
      (try clear hk)
      (try clear hi)
      refine hK.out _ _ ⟨(blk_cell BK661.out 0).trans rfl, (blk_cell BK661.out 1).trans rfl, HS2_, HS3_, HS4_, HS5_⟩ (fun hHeld => ?_)
      clear hK K
      refine norm_ (a' := ?_) ?_ ?_
      rotate_left
      ·show Act.put _ (some 28) _ = _
       simp only [Act.put, List.setIfInBounds_toArray, List.set_cons_zero, List.set_cons_succ, i64_w, i32_w]
       rfl
      refine pk HT_ 14 0x3fff 13 29 (h := ?_)
      refine done_ (done_of HT_.out (by kernel_rfl)) ?_
      try go_wp2
      go_roundg k1
      case measure => have := HK1.out; omega
      case rel => exact ⟨(x6_1), (wrap64 (x7_1 + 1)), (by first | rfl | (simp; done) | (simp [*]; done)), H', ⟨by have := HK1.out; omega⟩, ⟨by (with_reducible repeat (first | apply Kd.R_alloc | apply Kd.R_drewN | apply Kd.R_drew)); exact HO_5.out⟩, ⟨by (with_reducible repeat (first | apply Kd.R_alloc | apply Kd.R_drewN | apply Kd.R_drew)); exact HO_6.out⟩, kA BK661, bA HB⟩
   ·rw [if_neg c6] at H
    have c6b0 : decide (x7_1 < (t662.length : Int)) = false := decide_eq_false c6
    clear c6
    obtain rfl := Option.some.inj H
    obtain ⟨Ao27, co27, eo27⟩ := Kd.R_slice HO_5.out
    subst eo27
    go_wp2
    go_ret
    exact ⟨_, by first | rfl | (simp [errW_none, errW_some] <;> rfl) | (simp [*, errW_none, errW_some] <;> rfl), by (with_reducible repeat (first | apply Kd.R_alloc | apply Kd.R_drewN | apply Kd.R_drew)); exact Kd.R_mono HO_6.out (fun _ hk => trivial), bB HB⟩
end Go.Proofs.Ythjodhmkmjabbaa.PY
