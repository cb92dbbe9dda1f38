-- Made by the session's own driver (wip/tools/p2.py) out of the translation; Lean checks it.
import Derived.Test.YthjodhmkmjabbaaSq
import Derived.Test.YthjodhmkmjabbaaPYx0
import Derived.Test.YthjodhmkmjabbaaPYx1
import Derived.Test.YthjodhmkmjabbaaPYx3
namespace Go.Proofs.Ythjodhmkmjabbaa.PY
open Go.RowKit Go.Proofs.YthjodhmkmjabbaaW.PrintWords Go.Proofs.YthjodhmkmjabbaaW.PrintLast Go.Proofs.YthjodhmkmjabbaaW.PrintMore
attribute [local go_sem] max2_int min2_int max_two min_two max_three min_three max_four min_four   -- for this text's walks alone
set_option linter.unusedVariables false
set_option linter.unusedSimpArgs false
attribute [local go_sem high] eqA23
/-! ### galloonref03_Quotients: function 23 -/
def galloonref03_Quotients.l0 : Nat → List Int → Int → Int → Option (List Int)
 | 0, _, _, _ => none
 | k + 1, x3, x4, x5 => if x5 > 0 then (if x5 = 0 then (none) else (if x3.length < 17592186044416 then (galloonref03_Quotients.l0 k (x3 ++ [wrap64 (Int.tdiv x4 x5)]) x5 (Int.tmod x4 x5)) else (none))) else (some x3)
def galloonref03_Quotients.f (k : Nat) (a0_0 : Int) (a0_1 : Int) : Option (List Int) := galloonref03_Quotients.l0 k ([] : List Int) a0_1 a0_0
theorem galloonref03_Quotients.mono_l : ∀ k, (∀ y0 y1 y2, LeO (galloonref03_Quotients.l0 k y0 y1 y2) (galloonref03_Quotients.l0 (k + 1) y0 y1 y2))
 | 0 => fun _ _ _ r h => by simp [galloonref03_Quotients.l0] at h
 | k + 1 => by
  have ih0 := galloonref03_Quotients.mono_l k
  ·intro y0 y1 y2
   unfold galloonref03_Quotients.l0
   repeat' first
   | (with_reducible exact ih0 _ _ _)
   | (with_reducible exact LeO.refl _)
   | (with_reducible exact LeO.none _)
   | (with_reducible refine LeO.ite ?_ ?_)
   | (with_reducible refine LeO.bind ?_ (fun _ => ?_))
   | exact ih0 _ _ _
   | exact LeO.none _
   | refine LeO.ite ?_ ?_
   | refine LeO.bind ?_ (fun _ => ?_)
theorem galloonref03_Quotients.mono : ∀ a0 a1 k, LeO (galloonref03_Quotients.f k a0 a1) (galloonref03_Quotients.f (k + 1) a0 a1) := by
 intro a0 a1 k
 have ih0 := galloonref03_Quotients.mono_l k
 unfold galloonref03_Quotients.f
 repeat' first
  | (with_reducible exact ih0 _ _ _)
  | (with_reducible exact LeO.refl _)
  | (with_reducible exact LeO.none _)
  | (with_reducible refine LeO.ite ?_ ?_)
  | (with_reducible refine LeO.bind ?_ (fun _ => ?_))
  | exact ih0 _ _ _
  | exact LeO.none _
  | refine LeO.ite ?_ ?_
  | refine LeO.bind ?_ (fun _ => ?_)
set_option maxHeartbeats 8000000 in
set_option maxRecDepth 100000 in
theorem galloonref03_Quotients.calls (k : Nat) (a0_0 : Int) (a0_1 : Int) (r : List Int) (w : World) (h : galloonref03_Quotients.f k a0_0 a0_1 = some r) :
 Calls Try.prog 23 #[.agg #[.int .i64 a0_0, .int .i64 a0_1]] w fun e w' => ∃ v0_ : Value, e = .returned (v0_) ∧ Kd.R (Kd.int .i64) 3 w' w.heap.size (fun _ => True) v0_ r ∧ Below w.heap.size w w' := by
 have hu23 := Try.underlying23
 have HB := Aside0.mk (Below.refl w.heap.size w)
 have H : (galloonref03_Quotients.l0 k ([] : List Int) a0_1 a0_0) = some r := h
 clear h
 have H' := Aside0.mk H
 clear H
 go_enter Try.func23, Try.ntmps23
 go_wp2_with (first | ((with_reducible refine gate_dst (N := 1) rfl ?_); refine box_event ?hg (N := 1) ?hd (cs := #[.int .i64 a0_0, .int .i64 a0_1]) (t := 23) ?hr ?_; (case hd => rfl); (case hg => rfl); (case hr => first | (go_simp; done) | (go_simp; rfl)); intro gb153 hg w2 hbox hb; have BK153 := Aside0.mk (hbox); have GW153 := bG HB hg; have GE153 := bG HB hg; replace HB := bS HB hb; clear hb hbox hg; obtain ⟨hcz3_0, hcz3_1, hfz3_0, hfz3_1⟩ := cQ BK153))
 repeat (go_quiet (first | ((with_reducible refine gate_dst (N := 1) rfl ?_); refine box_event ?hg (N := 1) ?hd (cs := #[.int .i64 a0_0, .int .i64 a0_1]) (t := 23) ?hr ?_; (case hd => rfl); (case hg => rfl); (case hr => first | (go_simp; done) | (go_simp; rfl)); intro gb153 hg w2 hbox hb; have BK153 := Aside0.mk (hbox); have GW153 := bG HB hg; have GE153 := bG HB hg; replace HB := bS HB hb; clear hb hbox hg; obtain ⟨hcz3_0, hcz3_1, hfz3_0, hfz3_1⟩ := cQ BK153)); try go_wp2_with (first | ((with_reducible refine gate_dst (N := 1) rfl ?_); refine box_event ?hg (N := 1) ?hd (cs := #[.int .i64 a0_0, .int .i64 a0_1]) (t := 23) ?hr ?_; (case hd => rfl); (case hg => rfl); (case hr => first | (go_simp; done) | (go_simp; rfl)); intro gb153 hg w2 hbox hb; have BK153 := Aside0.mk (hbox); have GW153 := bG HB hg; have GE153 := bG HB hg; replace HB := bS HB hb; clear hb hbox hg; obtain ⟨hcz3_0, hcz3_1, hfz3_0, hfz3_1⟩ := cQ BK153)))
 go_loopg [3, 4, 5] k (fun kq v3 v4 v5 w' => ∃ (x3_1 : List Int) (x4_1 : Int) (x5_1 : Int), v4 = .int .i64 x4_1 ∧ v5 = .int .i64 x5_1 ∧ Aside0 (galloonref03_Quotients.l0 kq x3_1 x4_1 x5_1 = some r) ∧ Aside0 (kq ≤ k) ∧ Aside0 (Kd.R (Kd.int .i64) 3 w' w.heap.size (fun _ => True) v3 x3_1) ∧ Aside0 (w'.heap[gb153]? = some (.cells #[.int .i64 a0_0, .int .i64 a0_1] 23 (0, 0))) ∧ Aside0 (Below w.heap.size w w'))
 case atStart => exact ⟨(([] : List Int)), (a0_1), (a0_0), (by first | rfl | (simp; done) | (simp [*]; done)), (by first | rfl | (simp; done) | (simp [*]; done)), H', ⟨Nat.le_refl _⟩, ⟨by first | exact Kd.R_nil _ _ _ _ _ | exact Kd.N_nil _ _ _ _ _ | exact Kd.V_nil _ _ _ _ _ | exact Kd.Q_nil _ _ _ _ _ | exact Kd.S_nil _ _ _ _ _⟩, kA BK153, bA HB⟩
 case round =>
  clear H'
  try clear p2
  obtain ⟨x3_1, x4_1, x5_1, rfl, rfl, HA, HK1, HO_3, BK153, HB⟩ := hrel
  cases gk with
  | zero => exact absurd HA.out (by simp [galloonref03_Quotients.l0])
  | succ k1 =>
   have H := HA.out
   clear HA
   simp only [galloonref03_Quotients.l0] at H
   by_cases c4 : x5_1 > 0
   ·rw [if_pos c4] at H
    have c4b0 : decide (0 < x5_1) = true := decide_eq_true c4
    clear c4
    by_cases c5 : x5_1 = 0
    ·rw [if_pos c5] at H
     exact absurd H (by simp)
    ·rw [if_neg c5] at H
     have c5b0 : (x5_1 == 0) = false := beq_eq_false_iff_ne.mpr c5
     have c5b1 : (x5_1 != 0) = true := bne_iff_ne.mpr c5
     by_cases c6 : x3_1.length < 17592186044416
     case neg =>
      rw [if_neg c6] at H
      exact absurd H (by simp)
     rw [if_pos c6] at H
     have LMc6 := Aside0.mk c6
     clear c6
     obtain ⟨y154, hy154⟩ : ∃ y_ : List Int, y_ = (x3_1 ++ [wrap64 (Int.tdiv x4_1 x5_1)]) := ⟨_, rfl⟩
     replace H : (galloonref03_Quotients.l0 k1 y154 x5_1 (Int.tmod x4_1 x5_1)) = some r := by first | (rw [hy154]; with_reducible exact H) | (have H2_ := (Option.bind_some _ _).symm.trans H; rw [hy154]; with_reducible exact H2_) | (have H2_ := (Option.bind_some _ _).symm.trans H; with_reducible exact H2_) | with_reducible exact H | (rw [hy154]; exact H) | exact H
     have Ny154 := Aside0.mk hy154
     clear hy154
     have H' := Aside0.mk H
     clear H
     go_wp2_with (first | ((with_reducible refine gate_builtin (b := .append) (xs := #[.tmp 13, .tmp 17]) rfl ?_); at_builtin; refine Kd.R_append (Kd.int .i64) (w0 := w) w.heap.size rfl (.tmp 13) (.tmp 17) 27 3 (.int .i64 0) 8 rfl Try.underlying27 info3 rfl (by decide) (by omega) u3 x3_1 (wrap64 (Int.tdiv x4_1 x5_1)) [.int .i64 (wrap64 (Int.tdiv x4_1 x5_1))] (fun _ => True) (fun _ => False) rfl rfl ?aP (fun _ hk => hk.elim) ?aF ?aO ?aB ?aS ?aL ?_; (case aP => exact rfl); (case aB => exact (bB HB)); (case aF => exact (fun _ _ => trivial)); (case aO => exact (by (with_reducible repeat (first | apply Kd.R_alloc | apply Kd.R_drewN | apply Kd.R_drew)); exact HO_3.out)); (case aS => exact (below_size (bB HB))); (case aL => have := LMc6.out; omega); intro v155 w7 ho hb hg hat; rw [← Ny154.out] at ho; replace BK153 := Aside0.mk (blk_grown (g := gb153) (o := .cells #[.int .i64 a0_0, .int .i64 a0_1] 23 (0, 0)) (kb BK153) hg (Kd.R_ne HO_3.out BK153.out (by decide))); replace HB := Aside0.mk (hb); have HO156 := Aside0.mk (ho); clear HO_3; clear ho hb hg hat))
     repeat (go_quiet (first | ((with_reducible refine gate_builtin (b := .append) (xs := #[.tmp 13, .tmp 17]) rfl ?_); at_builtin; refine Kd.R_append (Kd.int .i64) (w0 := w) w.heap.size rfl (.tmp 13) (.tmp 17) 27 3 (.int .i64 0) 8 rfl Try.underlying27 info3 rfl (by decide) (by omega) u3 x3_1 (wrap64 (Int.tdiv x4_1 x5_1)) [.int .i64 (wrap64 (Int.tdiv x4_1 x5_1))] (fun _ => True) (fun _ => False) rfl rfl ?aP (fun _ hk => hk.elim) ?aF ?aO ?aB ?aS ?aL ?_; (case aP => exact rfl); (case aB => exact (bB HB)); (case aF => exact (fun _ _ => trivial)); (case aO => exact (by (with_reducible repeat (first | apply Kd.R_alloc | apply Kd.R_drewN | apply Kd.R_drew)); exact HO_3.out)); (case aS => exact (below_size (bB HB))); (case aL => have := LMc6.out; omega); intro v155 w7 ho hb hg hat; rw [← Ny154.out] at ho; replace BK153 := Aside0.mk (blk_grown (g := gb153) (o := .cells #[.int .i64 a0_0, .int .i64 a0_1] 23 (0, 0)) (kb BK153) hg (Kd.R_ne HO_3.out BK153.out (by decide))); replace HB := Aside0.mk (hb); have HO156 := Aside0.mk (ho); clear HO_3; clear ho hb hg hat)); try go_wp2_with (first | ((with_reducible refine gate_builtin (b := .append) (xs := #[.tmp 13, .tmp 17]) rfl ?_); at_builtin; refine Kd.R_append (Kd.int .i64) (w0 := w) w.heap.size rfl (.tmp 13) (.tmp 17) 27 3 (.int .i64 0) 8 rfl Try.underlying27 info3 rfl (by decide) (by omega) u3 x3_1 (wrap64 (Int.tdiv x4_1 x5_1)) [.int .i64 (wrap64 (Int.tdiv x4_1 x5_1))] (fun _ => True) (fun _ => False) rfl rfl ?aP (fun _ hk => hk.elim) ?aF ?aO ?aB ?aS ?aL ?_; (case aP => exact rfl); (case aB => exact (bB HB)); (case aF => exact (fun _ _ => trivial)); (case aO => exact (by (with_reducible repeat (first | apply Kd.R_alloc | apply Kd.R_drewN | apply Kd.R_drew)); exact HO_3.out)); (case aS => exact (below_size (bB HB))); (case aL => have := LMc6.out; omega); intro v155 w7 ho hb hg hat; rw [← Ny154.out] at ho; replace BK153 := Aside0.mk (blk_grown (g := gb153) (o := .cells #[.int .i64 a0_0, .int .i64 a0_1] 23 (0, 0)) (kb BK153) hg (Kd.R_ne HO_3.out BK153.out (by decide))); replace HB := Aside0.mk (hb); have HO156 := Aside0.mk (ho); clear HO_3; clear ho hb hg hat)))
     go_roundg k1
     case measure => have := HK1.out; omega
     case rel => exact ⟨(y154), (x5_1), (Int.tmod x4_1 x5_1), (by first | rfl | (simp; done) | (simp [*]; done)), (by first | rfl | (simp; done) | (simp [*]; done)), H', ⟨by have := HK1.out; omega⟩, ⟨by (with_reducible repeat (first | apply Kd.R_alloc | apply Kd.R_drewN | apply Kd.R_drew)); exact HO156.out⟩, kA BK153, bA HB⟩
   ·rw [if_neg c4] at H
    have c4b0 : decide (0 < x5_1) = false := decide_eq_false c4
    clear c4
    obtain rfl := Option.some.inj H
    go_wp2
    repeat (go_quiet (fail); try go_wp2)
    go_ret
    exact ⟨_, by first | rfl | (simp [errW_none, errW_some] <;> rfl) | (simp [*, errW_none, errW_some] <;> rfl), by (with_reducible repeat (first | apply Kd.R_alloc | apply Kd.R_drewN | apply Kd.R_drew)); exact HO_3.out, bB HB⟩
/-! ### galloonref03_Saw: function 24 -/
def galloonref03_Saw.l0 : Nat → Int → Int → Int → Int → Int → Option (Int × Int)
 | 0, _, _, _, _, _ => none
 | k + 1, x4, x5, x6, x158000, x158001 => if x6 < x4 then (if x4 = 0 then (none) else (galloonref03_Saw.l0 k x4 (wrap64 (x5 + (wrap64 ((wrap64 ((wrap64 (2 * x6)) - x4)) * (wrap64 ((wrap64 (2 * (Int.tmod (wrap64 (x158000 * x6)) x4))) - x4)))))) (wrap64 (x6 + 1)) x158000 x158001)) else ((galloonref03_Gcd.f k (mx x5 (wrap64 (-x5))) (wrap64 ((wrap64 (4 * x4)) * x4))).bind fun t158 => (if t158 = 0 then (none) else (some (wrap64 (Int.tdiv x5 t158), wrap64 (Int.tdiv (wrap64 ((wrap64 (4 * x4)) * x4)) t158)))))
def galloonref03_Saw.f (k : Nat) (a0_0 : Int) (a0_1 : Int) : Option (Int × Int) := galloonref03_Saw.l0 k a0_1 0 1 a0_0 a0_1
theorem galloonref03_Saw.mono_l : ∀ k, (∀ y0 y1 y2 y3 y4, LeO (galloonref03_Saw.l0 k y0 y1 y2 y3 y4) (galloonref03_Saw.l0 (k + 1) y0 y1 y2 y3 y4))
 | 0 => fun _ _ _ _ _ r h => by simp [galloonref03_Saw.l0] at h
 | k + 1 => by
  have ih0 := galloonref03_Saw.mono_l k
  ·intro y0 y1 y2 y3 y4
   unfold galloonref03_Saw.l0
   repeat' first
   | (with_reducible exact ih0 _ _ _ _ _)
   | (with_reducible exact galloonref03_Gcd.mono _ _ _)
   | (with_reducible exact LeO.refl _)
   | (with_reducible exact LeO.none _)
   | (with_reducible refine LeO.ite ?_ ?_)
   | (with_reducible refine LeO.bind ?_ (fun _ => ?_))
   | exact ih0 _ _ _ _ _
   | exact galloonref03_Gcd.mono _ _ _
   | exact LeO.none _
   | refine LeO.ite ?_ ?_
   | refine LeO.bind ?_ (fun _ => ?_)
theorem galloonref03_Saw.mono : ∀ a0 a1 k, LeO (galloonref03_Saw.f k a0 a1) (galloonref03_Saw.f (k + 1) a0 a1) := by
 intro a0 a1 k
 have ih0 := galloonref03_Saw.mono_l k
 unfold galloonref03_Saw.f
 repeat' first
  | (with_reducible exact ih0 _ _ _ _ _)
  | (with_reducible exact galloonref03_Gcd.mono _ _ _)
  | (with_reducible exact LeO.refl _)
  | (with_reducible exact LeO.none _)
  | (with_reducible refine LeO.ite ?_ ?_)
  | (with_reducible refine LeO.bind ?_ (fun _ => ?_))
  | exact ih0 _ _ _ _ _
  | exact galloonref03_Gcd.mono _ _ _
  | exact LeO.none _
  | refine LeO.ite ?_ ?_
  | refine LeO.bind ?_ (fun _ => ?_)
set_option maxHeartbeats 8000000 in
set_option maxRecDepth 100000 in
theorem galloonref03_Saw.calls (k : Nat) (a0_0 : Int) (a0_1 : Int) (r1 : Int) (r2 : Int) (w : World) (h : galloonref03_Saw.f k a0_0 a0_1 = some (r1, r2)) :
 Calls Try.prog 24 #[.agg #[.int .i64 a0_0, .int .i64 a0_1]] w fun e w' => e = .returned (.tuple #[.int .i64 r1, .int .i64 r2]) ∧ Below w.heap.size w w' := by
 have hu23 := Try.underlying23
 have HB := Aside0.mk (Below.refl w.heap.size w)
 have H : (galloonref03_Saw.l0 k a0_1 0 1 a0_0 a0_1) = some (r1, r2) := h
 clear h
 have H' := Aside0.mk H
 clear H
 go_enter Try.func24, Try.ntmps24
 go_wp2_with (first | ((with_reducible refine gate_dst (N := 1) rfl ?_); refine box_event ?hg (N := 1) ?hd (cs := #[.int .i64 a0_0, .int .i64 a0_1]) (t := 23) ?hr ?_; (case hd => rfl); (case hg => rfl); (case hr => first | (go_simp; done) | (go_simp; rfl)); intro gb157 hg w2 hbox hb; have BK157 := Aside0.mk (hbox); have GW157 := bG HB hg; have GE157 := bG HB hg; replace HB := bS HB hb; clear hb hbox hg; obtain ⟨hcz3_0, hcz3_1, hfz3_0, hfz3_1⟩ := cQ BK157))
 repeat (go_quiet (first | ((with_reducible refine gate_dst (N := 1) rfl ?_); refine box_event ?hg (N := 1) ?hd (cs := #[.int .i64 a0_0, .int .i64 a0_1]) (t := 23) ?hr ?_; (case hd => rfl); (case hg => rfl); (case hr => first | (go_simp; done) | (go_simp; rfl)); intro gb157 hg w2 hbox hb; have BK157 := Aside0.mk (hbox); have GW157 := bG HB hg; have GE157 := bG HB hg; replace HB := bS HB hb; clear hb hbox hg; obtain ⟨hcz3_0, hcz3_1, hfz3_0, hfz3_1⟩ := cQ BK157)); try go_wp2_with (first | ((with_reducible refine gate_dst (N := 1) rfl ?_); refine box_event ?hg (N := 1) ?hd (cs := #[.int .i64 a0_0, .int .i64 a0_1]) (t := 23) ?hr ?_; (case hd => rfl); (case hg => rfl); (case hr => first | (go_simp; done) | (go_simp; rfl)); intro gb157 hg w2 hbox hb; have BK157 := Aside0.mk (hbox); have GW157 := bG HB hg; have GE157 := bG HB hg; replace HB := bS HB hb; clear hb hbox hg; obtain ⟨hcz3_0, hcz3_1, hfz3_0, hfz3_1⟩ := cQ BK157)))
 go_loopg [5, 6] k (fun kq v5 v6 w' => ∃ (x5_1 : Int) (x6_1 : Int), v5 = .int .i64 x5_1 ∧ v6 = .int .i64 x6_1 ∧ Aside0 (galloonref03_Saw.l0 kq a0_1 x5_1 x6_1 a0_0 a0_1 = some (r1, r2)) ∧ Aside0 (kq ≤ k) ∧ Aside0 (w'.heap[gb157]? = some (.cells #[.int .i64 a0_0, .int .i64 a0_1] 23 (0, 0))) ∧ Aside0 (Below w.heap.size w w'))
 case atStart => exact ⟨(0), (1), (by first | rfl | (simp; done) | (simp [*]; done)), (by first | rfl | (simp; done) | (simp [*]; done)), H', ⟨Nat.le_refl _⟩, kA BK157, bA HB⟩
 case round =>
  clear H'
  try clear p2
  obtain ⟨x5_1, x6_1, rfl, rfl, HA, HK1, BK157, HB⟩ := hrel
  cases gk with
  | zero => exact absurd HA.out (by simp [galloonref03_Saw.l0])
  | succ k1 =>
   have H := HA.out
   clear HA
   simp only [galloonref03_Saw.l0] at H
   by_cases c4 : x6_1 < a0_1
   ·rw [if_pos c4] at H
    have c4b0 : decide (x6_1 < a0_1) = true := decide_eq_true c4
    clear c4
    by_cases c5 : a0_1 = 0
    ·rw [if_pos c5] at H
     exact absurd H (by simp)
    ·rw [if_neg c5] at H
     have c5b0 : (a0_1 == 0) = false := beq_eq_false_iff_ne.mpr c5
     have c5b1 : (a0_1 != 0) = true := bne_iff_ne.mpr c5
     have H' := Aside0.mk H
     clear H
     obtain ⟨hcz6_0, hcz6_1, hfz6_0, hfz6_1⟩ := cQ BK157
     go_wp2
     repeat (go_quiet (fail); try go_wp2)
     go_roundg k1
     case measure => have := HK1.out; omega
     case rel => exact ⟨(wrap64 (x5_1 + (wrap64 ((wrap64 ((wrap64 (2 * x6_1)) - a0_1)) * (wrap64 ((wrap64 (2 * (Int.tmod (wrap64 (a0_0 * x6_1)) a0_1))) - a0_1)))))), (wrap64 (x6_1 + 1)), (by first | rfl | (simp; done) | (simp [*]; done)), (by first | rfl | (simp; done) | (simp [*]; done)), H', ⟨by have := HK1.out; omega⟩, kA BK157, bA HB⟩
   ·rw [if_neg c4] at H
    have c4b0 : decide (x6_1 < a0_1) = false := decide_eq_false c4
    clear c4
    obtain ⟨ji7, hji7⟩ : ∃ j_ : Int, (mx x5_1 (wrap64 (-x5_1))) = j_ := ⟨_, rfl⟩
    replace H : ((galloonref03_Gcd.f k1 (ji7) (wrap64 ((wrap64 (4 * a0_1)) * a0_1))).bind fun t158 => (if t158 = 0 then (none) else (some (wrap64 (Int.tdiv x5_1 t158), wrap64 (Int.tdiv (wrap64 ((wrap64 (4 * a0_1)) * a0_1)) t158))))) = some (r1, r2) := by first | (rw [hji7] at H; exact H) | (simp only [hji7] at H ⊢; exact H)
    have hji7_ : (if x5_1 < (wrap64 (-x5_1)) then (wrap64 (-x5_1)) else x5_1) = ji7 := hji7
    replace H := Option.bind_eq_some_iff.mp H
    obtain ⟨t158, A80, H⟩ := H
    replace H : (if t158 = 0 then (none) else (some (wrap64 (Int.tdiv x5_1 t158), wrap64 (Int.tdiv (wrap64 ((wrap64 (4 * a0_1)) * a0_1)) t158)))) = some (r1, r2) := H
    have A8 := Aside0.mk A80
    clear A80
    by_cases c9 : t158 = 0
    ·rw [if_pos c9] at H
     exact absurd H (by simp)
    ·rw [if_neg c9] at H
     have c9b0 : (t158 == 0) = false := beq_eq_false_iff_ne.mpr c9
     have c9b1 : (t158 != 0) = true := bne_iff_ne.mpr c9
     simp only [Option.some.injEq, Prod.mk.injEq] at H
     obtain ⟨rfl, rfl⟩ := H
     go_wp2_with (first | (go_at_call 28; (with_reducible refine (galloonref03_Gcd.calls k1 ji7 (wrap64 ((wrap64 (4 * a0_1)) * a0_1)) t158 _ A8.out).mono ?_); rintro e w' ⟨rfl, ⟨nd, rfl⟩⟩; (try first | exact ⟨rfl, _, World.drewN_drewN _ _ _⟩ | exact ⟨rfl, _, Eq.trans (World.drewN_drewN _ _ _) (congrArg (World.drewN _) (Nat.add_assoc _ _ _))⟩)))
     repeat (go_quiet (first | (go_at_call 28; (with_reducible refine (galloonref03_Gcd.calls k1 ji7 (wrap64 ((wrap64 (4 * a0_1)) * a0_1)) t158 _ A8.out).mono ?_); rintro e w' ⟨rfl, ⟨nd, rfl⟩⟩; (try first | exact ⟨rfl, _, World.drewN_drewN _ _ _⟩ | exact ⟨rfl, _, Eq.trans (World.drewN_drewN _ _ _) (congrArg (World.drewN _) (Nat.add_assoc _ _ _))⟩))); try go_wp2_with (first | (go_at_call 28; (with_reducible refine (galloonref03_Gcd.calls k1 ji7 (wrap64 ((wrap64 (4 * a0_1)) * a0_1)) t158 _ A8.out).mono ?_); rintro e w' ⟨rfl, ⟨nd, rfl⟩⟩; (try first | exact ⟨rfl, _, World.drewN_drewN _ _ _⟩ | exact ⟨rfl, _, Eq.trans (World.drewN_drewN _ _ _) (congrArg (World.drewN _) (Nat.add_assoc _ _ _))⟩))))
     go_ret2
     exact ⟨by first | rfl | (simp [errW_none, errW_some] <;> rfl) | (simp only [← hji7]; first | rfl | (simp [errW_none, errW_some] <;> rfl)) | (simp [*, errW_none, errW_some] <;> rfl), bB HB⟩
/-! ### galloonref03_Less: function 29 -/
def galloonref03_Less.f (a0_0 : Int) (a0_1 : Int) (a1_0 : Int) (a1_1 : Int) : Option (Bool) := some (decide ((wrap64 (a0_0 * a1_1)) < (wrap64 (a1_0 * a0_1))))
set_option maxHeartbeats 8000000 in
set_option maxRecDepth 100000 in
theorem galloonref03_Less.calls (a0_0 : Int) (a0_1 : Int) (a1_0 : Int) (a1_1 : Int) (r : Bool) (w : World) (h : galloonref03_Less.f a0_0 a0_1 a1_0 a1_1 = some r) :
 Calls Try.prog 29 #[.agg #[.int .i64 a0_0, .int .i64 a0_1], .agg #[.int .i64 a1_0, .int .i64 a1_1]] w fun e w' => e = .returned (.bool r) ∧ Below w.heap.size w w' := by
 have hu23 := Try.underlying23
 have HB := Aside0.mk (Below.refl w.heap.size w)
 have H : (some (decide ((wrap64 (a0_0 * a1_1)) < (wrap64 (a1_0 * a0_1))))) = some r := h
 clear h
 obtain rfl := Option.some.inj H
 go_enter Try.func29, Try.ntmps29
 go_wp2_with (first | ((with_reducible refine gate_dst (N := 2) rfl ?_); refine box_event ?hg (N := 2) ?hd (cs := #[.int .i64 a0_0, .int .i64 a0_1]) (t := 23) ?hr ?_; (case hd => rfl); (case hg => rfl); (case hr => first | (go_simp; done) | (go_simp; rfl)); intro gb159 hg w3 hbox hb; have BK159 := Aside0.mk (hbox); have GW159 := bG HB hg; have GE159 := bG HB hg; replace HB := bS HB hb; clear hb hbox hg) | ((with_reducible refine gate_dst (N := 3) rfl ?_); refine box_event ?hg (N := 3) ?hd (cs := #[.int .i64 a1_0, .int .i64 a1_1]) (t := 23) ?hr ?_; (case hd => rfl); (case hg => rfl); (case hr => first | (go_simp; done) | (go_simp; rfl)); intro gb160 hg w4 hbox hb; have BK160 := Aside0.mk (hbox); have GW160 := bG HB hg; have GE160 := bG HB hg; replace HB := bS HB hb; have NB159_160 := nL BK159 hg; have NB160_159 := nG BK159 hg; replace BK159 := kB BK159 hb; clear hb hbox hg; have hnb5 := NB159_160.out; have hnc5 := NB160_159.out; obtain ⟨hcz6_0, hcz6_1, hfz6_0, hfz6_1⟩ := cQ BK159; obtain ⟨hcz7_0, hcz7_1, hfz7_0, hfz7_1⟩ := cQ BK160))
 go_ret
 exact ⟨by first | rfl | (simp [errW_none, errW_some] <;> rfl) | (simp [*, errW_none, errW_some] <;> rfl), bB HB⟩
/-! ### galloonref03_Path: function 25 -/
def galloonref03_Path.l0 : Nat → Int → Int → Int → Int → List Int → Int → Int → Option (ByteArray × Bool)
 | 0, _, _, _, _, _, _, _ => none
 | k + 1, x4, x5, x6, x7, x8, x162000, x162001 => if ((wrap64 (x4 + x6)) == x162000 && ((wrap64 (x5 + x7)) == x162001)) = true then (some (strOfNums x8, true)) else (if (x8.length : Int) = 200 then (some ((⟨#[]⟩ : ByteArray), false)) else ((galloonref03_Less.f x162000 x162001 (wrap64 (x4 + x6)) (wrap64 (x5 + x7))).bind fun t163 => (if t163 = true then (if x8.length < 140737488355328 then (galloonref03_Path.l0 k x4 x5 (wrap64 (x4 + x6)) (wrap64 (x5 + x7)) (x8 ++ [76]) x162000 x162001) else (none)) else (if x8.length < 140737488355328 then (galloonref03_Path.l0 k (wrap64 (x4 + x6)) (wrap64 (x5 + x7)) x6 x7 (x8 ++ [82]) x162000 x162001) else (none)))))
def galloonref03_Path.f (k : Nat) (a0_0 : Int) (a0_1 : Int) : Option (ByteArray × Bool) := galloonref03_Path.l0 k 0 1 1 1 ([] : List Int) a0_0 a0_1
theorem galloonref03_Path.mono_l : ∀ k, (∀ y0 y1 y2 y3 y4 y5 y6, LeO (galloonref03_Path.l0 k y0 y1 y2 y3 y4 y5 y6) (galloonref03_Path.l0 (k + 1) y0 y1 y2 y3 y4 y5 y6))
 | 0 => fun _ _ _ _ _ _ _ r h => by simp [galloonref03_Path.l0] at h
 | k + 1 => by
  have ih0 := galloonref03_Path.mono_l k
  ·intro y0 y1 y2 y3 y4 y5 y6
   unfold galloonref03_Path.l0
   repeat' first
   | (with_reducible exact ih0 _ _ _ _ _ _ _)
   | (with_reducible exact LeO.refl _)
   | (with_reducible exact LeO.none _)
   | (with_reducible refine LeO.ite ?_ ?_)
   | (with_reducible refine LeO.bind ?_ (fun _ => ?_))
   | exact ih0 _ _ _ _ _ _ _
   | exact LeO.none _
   | refine LeO.ite ?_ ?_
   | refine LeO.bind ?_ (fun _ => ?_)
theorem galloonref03_Path.mono : ∀ a0 a1 k, LeO (galloonref03_Path.f k a0 a1) (galloonref03_Path.f (k + 1) a0 a1) := by
 intro a0 a1 k
 have ih0 := galloonref03_Path.mono_l k
 unfold galloonref03_Path.f
 repeat' first
  | (with_reducible exact ih0 _ _ _ _ _ _ _)
  | (with_reducible exact LeO.refl _)
  | (with_reducible exact LeO.none _)
  | (with_reducible refine LeO.ite ?_ ?_)
  | (with_reducible refine LeO.bind ?_ (fun _ => ?_))
  | exact ih0 _ _ _ _ _ _ _
  | exact LeO.none _
  | refine LeO.ite ?_ ?_
  | refine LeO.bind ?_ (fun _ => ?_)
set_option maxHeartbeats 8000000 in
set_option maxRecDepth 100000 in
theorem galloonref03_Path.calls (k : Nat) (a0_0 : Int) (a0_1 : Int) (r1 : ByteArray) (r2 : Bool) (w : World) (h : galloonref03_Path.f k a0_0 a0_1 = some (r1, r2)) :
 Calls Try.prog 25 #[.agg #[.int .i64 a0_0, .int .i64 a0_1]] w fun e w' => e = .returned (.tuple #[.string r1, .bool r2]) ∧ Below w.heap.size w w' := by
 have hu23 := Try.underlying23
 have HB := Aside0.mk (Below.refl w.heap.size w)
 have H : (galloonref03_Path.l0 k 0 1 1 1 ([] : List Int) a0_0 a0_1) = some (r1, r2) := h
 clear h
 have H' := Aside0.mk H
 clear H
 go_enter Try.func25, Try.ntmps25
 go_wp2_with (first | ((with_reducible refine gate_dst (N := 1) rfl ?_); refine box_event ?hg (N := 1) ?hd (cs := #[.int .i64 a0_0, .int .i64 a0_1]) (t := 23) ?hr ?_; (case hd => rfl); (case hg => rfl); (case hr => first | (go_simp; done) | (go_simp; rfl)); intro gb161 hg w2 hbox hb; have BK161 := Aside0.mk (hbox); have GW161 := bG HB hg; have GE161 := bG HB hg; replace HB := bS HB hb; clear hb hbox hg))
 go_loopg [4, 5, 6, 7, 8] k (fun kq v4 v5 v6 v7 v8 w' => ∃ (x4_1 : Int) (x5_1 : Int) (x6_1 : Int) (x7_1 : Int) (x8_1 : List Int), v4 = .int .i64 x4_1 ∧ v5 = .int .i64 x5_1 ∧ v6 = .int .i64 x6_1 ∧ v7 = .int .i64 x7_1 ∧ Aside0 (galloonref03_Path.l0 kq x4_1 x5_1 x6_1 x7_1 x8_1 a0_0 a0_1 = some (r1, r2)) ∧ Aside0 (kq ≤ k) ∧ Aside0 (Kd.R (Kd.int .u8) 5 w' w.heap.size (fun _ => True) v8 x8_1) ∧ Aside0 (w'.heap[gb161]? = some (.cells #[.int .i64 a0_0, .int .i64 a0_1] 23 (0, 0))) ∧ Aside0 (Below w.heap.size w w'))
 case atStart => exact ⟨(0), (1), (1), (1), (([] : List Int)), (by first | rfl | (simp; done) | (simp [*]; done)), (by first | rfl | (simp; done) | (simp [*]; done)), (by first | rfl | (simp; done) | (simp [*]; done)), (by first | rfl | (simp; done) | (simp [*]; done)), H', ⟨Nat.le_refl _⟩, ⟨by first | exact Kd.R_nil _ _ _ _ _ | exact Kd.N_nil _ _ _ _ _ | exact Kd.V_nil _ _ _ _ _ | exact Kd.Q_nil _ _ _ _ _ | exact Kd.S_nil _ _ _ _ _⟩, kA BK161, bA HB⟩
 case round =>
  clear H'
  try clear p2
  obtain ⟨x4_1, x5_1, x6_1, x7_1, x8_1, rfl, rfl, rfl, rfl, HA, HK1, HO_8, BK161, HB⟩ := hrel
  cases gk with
  | zero => exact absurd HA.out (by simp [galloonref03_Path.l0])
  | succ k1 =>
   have H := HA.out
   clear HA
   simp only [galloonref03_Path.l0] at H
   by_cases c3 : ((wrap64 (x4_1 + x6_1)) == a0_0 && ((wrap64 (x5_1 + x7_1)) == a0_1)) = true
   ·rw [if_pos c3] at H
    have c3b0 : ((wrap64 (x4_1 + x6_1)) == a0_0 && ((wrap64 (x5_1 + x7_1)) == a0_1)) = true := c3
    (try (have c3b1 : decide ((wrap64 (x4_1 + x6_1)) = a0_0 && ((wrap64 (x5_1 + x7_1)) == a0_1)) = true := by simpa using c3))
    (try (have c3b2 : ((wrap64 (x4_1 + x6_1)) == a0_0 && ((wrap64 (x5_1 + x7_1)) == a0_1)) = true := by simpa using c3))
    clear c3
    simp only [Option.some.injEq, Prod.mk.injEq] at H
    obtain ⟨rfl, rfl⟩ := H
    go_wp2_with (first | ((with_reducible refine gate_dst (N := 9) rfl ?_); refine box_event ?hg (N := 9) ?hd (cs := #[.int .i64 0, .int .i64 0]) (t := 23) ?hr ?_; (case hd => rfl); (case hg => rfl); (case hr => first | (go_simp; done) | (go_simp; rfl)); intro gb162 hg w4 hbox hb; replace HO_8 := rB HO_8 hb; have BK162 := Aside0.mk (hbox); have GW162 := bG HB hg; have GE162 := bG HB hg; replace HB := bS HB hb; have NB161_162 := nL BK161 hg; have NB162_161 := nG BK161 hg; replace BK161 := kB BK161 hb; clear hb hbox hg; have hnb5 := NB162_161.out; have hnc5 := NB161_162.out; obtain ⟨hcz6_0, hcz6_1, hfz6_0, hfz6_1⟩ := cQ BK162; obtain ⟨hcz7_0, hcz7_1, hfz7_0, hfz7_1⟩ := cQ BK161; have hcv8 := own_string (P := Try.prog) Try.underlying80 Try.underlying5 Try.underlying9 (Kd.own_of_R (Kd.R_far (p := ⟨gb162, 1, none⟩) (Kd.R_far (p := ⟨gb162, 0, none⟩) (Kd.R_types HO_8.out BK162.out (by decide)) (fun _ hk => hk.2) (.int .i64 (wrap64 (x4_1 + x6_1)))) (fun _ hk => hk.2) (.int .i64 (wrap64 (x5_1 + x7_1)))))))
    go_ret2
    exact ⟨by first | rfl | (simp [errW_none, errW_some] <;> rfl) | (simp [*, errW_none, errW_some] <;> rfl), bB HB⟩
   ·rw [if_neg c3] at H
    have c3b0 : ((wrap64 (x4_1 + x6_1)) == a0_0 && ((wrap64 (x5_1 + x7_1)) == a0_1)) = false := by simpa using c3
    (try (have c3b1 : decide ((wrap64 (x4_1 + x6_1)) = a0_0 && ((wrap64 (x5_1 + x7_1)) == a0_1)) = false := by simpa using c3))
    (try (have c3b2 : ((wrap64 (x4_1 + x6_1)) == a0_0 && ((wrap64 (x5_1 + x7_1)) == a0_1)) = false := by simpa using c3))
    (try (have c3b3 : ¬ ((wrap64 (x4_1 + x6_1)) = a0_0 && ((wrap64 (x5_1 + x7_1)) == a0_1)) := by simpa using c3))
    clear c3
    by_cases c9 : (x8_1.length : Int) = 200
    ·rw [if_pos c9] at H
     have c9b0 : ((x8_1.length : Int) == 200) = true := beq_iff_eq.mpr c9
     have c9b1 : ((x8_1.length : Int) != 200) = false := bne_eq_false_iff_eq.mpr c9
     clear c9
     simp only [Option.some.injEq, Prod.mk.injEq] at H
     obtain ⟨rfl, rfl⟩ := H
     go_wp2_with (first | ((with_reducible refine gate_dst (N := 9) rfl ?_); refine box_event ?hg (N := 9) ?hd (cs := #[.int .i64 0, .int .i64 0]) (t := 23) ?hr ?_; (case hd => rfl); (case hg => rfl); (case hr => first | (go_simp; done) | (go_simp; rfl)); intro gb162 hg w10 hbox hb; replace HO_8 := rB HO_8 hb; have BK162 := Aside0.mk (hbox); have GW162 := bG HB hg; have GE162 := bG HB hg; replace HB := bS HB hb; have NB161_162 := nL BK161 hg; have NB162_161 := nG BK161 hg; replace BK161 := kB BK161 hb; clear hb hbox hg; have hnb11 := NB162_161.out; have hnc11 := NB161_162.out; obtain ⟨hcz12_0, hcz12_1, hfz12_0, hfz12_1⟩ := cQ BK162; obtain ⟨hcz13_0, hcz13_1, hfz13_0, hfz13_1⟩ := cQ BK161; obtain ⟨Ao14, co14, eo14⟩ := Kd.R_slice HO_8.out; subst eo14))
     go_ret2
     exact ⟨by first | rfl | (simp [errW_none, errW_some] <;> rfl) | (simp [*, errW_none, errW_some] <;> rfl), bB HB⟩
    ·rw [if_neg c9] at H
     have c9b0 : ((x8_1.length : Int) == 200) = false := beq_eq_false_iff_ne.mpr c9
     have c9b1 : ((x8_1.length : Int) != 200) = true := bne_iff_ne.mpr c9
     replace H := Option.bind_eq_some_iff.mp H
     obtain ⟨t163, A150, H⟩ := H
     replace H : (if t163 = true then (if x8_1.length < 140737488355328 then (galloonref03_Path.l0 k1 x4_1 x5_1 (wrap64 (x4_1 + x6_1)) (wrap64 (x5_1 + x7_1)) (x8_1 ++ [76]) a0_0 a0_1) else (none)) else (if x8_1.length < 140737488355328 then (galloonref03_Path.l0 k1 (wrap64 (x4_1 + x6_1)) (wrap64 (x5_1 + x7_1)) x6_1 x7_1 (x8_1 ++ [82]) a0_0 a0_1) else (none))) = some (r1, r2) := H
     have A15 := Aside0.mk A150
     clear A150
     by_cases c16 : t163 = true
     ·subst c16
      have H1 : (if x8_1.length < 140737488355328 then (galloonref03_Path.l0 k1 x4_1 x5_1 (wrap64 (x4_1 + x6_1)) (wrap64 (x5_1 + x7_1)) (x8_1 ++ [76]) a0_0 a0_1) else (none)) = some (r1, r2) := by rw [if_pos rfl] at H; exact H
      clear H
      have H := H1
      clear H1
      by_cases c17 : x8_1.length < 140737488355328
      case neg =>
       rw [if_neg c17] at H
       exact absurd H (by simp)
      rw [if_pos c17] at H
      have LMc17 := Aside0.mk c17
      clear c17
      obtain ⟨y164, hy164⟩ : ∃ y_ : List Int, y_ = (x8_1 ++ [76]) := ⟨_, rfl⟩
      replace H : (galloonref03_Path.l0 k1 x4_1 x5_1 (wrap64 (x4_1 + x6_1)) (wrap64 (x5_1 + x7_1)) y164 a0_0 a0_1) = some (r1, r2) := by first | (rw [hy164]; with_reducible exact H) | (have H2_ := (Option.bind_some _ _).symm.trans H; rw [hy164]; with_reducible exact H2_) | (have H2_ := (Option.bind_some _ _).symm.trans H; with_reducible exact H2_) | with_reducible exact H | (rw [hy164]; exact H) | exact H
      have Ny164 := Aside0.mk hy164
      clear hy164
      have H' := Aside0.mk H
      clear H
      go_wp2_with (first | ((with_reducible refine gate_dst (N := 9) rfl ?_); refine box_event ?hg (N := 9) ?hd (cs := #[.int .i64 0, .int .i64 0]) (t := 23) ?hr ?_; (case hd => rfl); (case hg => rfl); (case hr => first | (go_simp; done) | (go_simp; rfl)); intro gb162 hg w18 hbox hb; replace HO_8 := rB HO_8 hb; have BK162 := Aside0.mk (hbox); have GW162 := bG HB hg; have GE162 := bG HB hg; replace HB := bS HB hb; have NB161_162 := nL BK161 hg; have NB162_161 := nG BK161 hg; replace BK161 := kB BK161 hb; clear hb hbox hg; have hnb19 := NB162_161.out; have hnc19 := NB161_162.out; obtain ⟨hcz20_0, hcz20_1, hfz20_0, hfz20_1⟩ := cQ BK162; obtain ⟨hcz21_0, hcz21_1, hfz21_0, hfz21_1⟩ := cQ BK161; obtain ⟨Ao22, co22, eo22⟩ := Kd.R_slice HO_8.out; subst eo22) | ((with_reducible refine gate_callee (f := 29) rfl ?_); refine gL 27 Try.func29 #[.agg #[.int .i64 a0_0, .int .i64 a0_1], .agg #[.int .i64 (wrap64 (x4_1 + x6_1)), .int .i64 (wrap64 (x5_1 + x7_1))]] (h := ?_); (with_reducible refine (galloonref03_Less.calls a0_0 a0_1 (wrap64 (x4_1 + x6_1)) (wrap64 (x5_1 + x7_1)) true _ A15.out).mono ?_); rintro e w23 ⟨rfl, hb⟩; refine ⟨_, rfl, ?_⟩; replace HO_8 := Aside0.mk (Kd.R_below (by (with_reducible repeat (first | apply Kd.R_alloc | apply Kd.R_drewN | apply Kd.R_drew)); exact (Kd.R_mono (Kd.R_far (p := ⟨gb162, 1, none⟩) (Kd.R_far (p := ⟨gb162, 0, none⟩) (Kd.R_types HO_8.out BK162.out (by decide)) (fun _ hk => hk.2) (.int .i64 (wrap64 (x4_1 + x6_1)))) (fun _ hk => hk.2) (.int .i64 (wrap64 (x5_1 + x7_1)))) (fun _ h_ => h_.1))) hb); replace BK161 := kF BK161 hb; replace BK162 := Aside0.mk (blk_below (g := gb162) (o := .cells #[.int .i64 (wrap64 (x4_1 + x6_1)), .int .i64 (wrap64 (x5_1 + x7_1))] 23 (0, 0)) (by (with_reducible repeat (first | refine blk_drewN ?_ _ | refine blk_drew ?_ | refine blk_alloc ?_ _)); refine blk_put (cs := #[.int .i64 (wrap64 (x4_1 + x6_1)), .int .i64 0]) ?_ 1 _ rfl; (with_reducible repeat (first | refine blk_drewN ?_ _ | refine blk_drew ?_ | refine blk_alloc ?_ _)); refine blk_put (cs := #[.int .i64 0, .int .i64 0]) ?_ 0 _ rfl; (with_reducible repeat (first | refine blk_drewN ?_ _ | refine blk_drew ?_ | refine blk_alloc ?_ _)); exact BK162.out) hb); replace HB := bS HB hb; (try clear hb); (try clear hb2); (try clear hk); (try clear hi)) | ((with_reducible refine gate_builtin (b := .append) (xs := #[.tmp 28, .tmp 29]) rfl ?_); at_builtin; refine Kd.R_append (Kd.int .u8) (w0 := w) w.heap.size rfl (.tmp 28) (.tmp 29) 80 5 (.int .u8 0) 1 rfl Try.underlying80 info5 rfl (by decide) (by omega) (.slice Ao22 x8_1.length co22) x8_1 76 [.int .u8 76] (fun _ => True) (fun _ => False) rfl rfl ?aP (fun _ hk => hk.elim) ?aF ?aO ?aB ?aS ?aL ?_; (case aP => exact rfl); (case aB => exact (bB HB)); (case aF => exact (fun _ _ => trivial)); (case aO => exact (by (with_reducible repeat (first | apply Kd.R_alloc | apply Kd.R_drewN | apply Kd.R_drew)); exact HO_8.out)); (case aS => exact (below_size (bB HB))); (case aL => have := LMc17.out; omega); intro v165 w24 ho hb hg hat; rw [← Ny164.out] at ho; replace BK161 := Aside0.mk (blk_grown (g := gb161) (o := .cells #[.int .i64 a0_0, .int .i64 a0_1] 23 (0, 0)) (kb BK161) hg (Kd.R_ne HO_8.out BK161.out (by decide))); replace BK162 := Aside0.mk (blk_grown (g := gb162) (o := .cells #[.int .i64 (wrap64 (x4_1 + x6_1)), .int .i64 (wrap64 (x5_1 + x7_1))] 23 (0, 0)) (kb BK162) hg (Kd.R_ne HO_8.out BK162.out (by decide))); replace HB := Aside0.mk (hb); have HO166 := Aside0.mk (ho); clear HO_8; clear ho hb hg hat; obtain ⟨hcz25_0, hcz25_1, hfz25_0, hfz25_1⟩ := cQ BK162))
      go_roundg k1
      case measure => have := HK1.out; omega
      case rel => exact ⟨(x4_1), (x5_1), (wrap64 (x4_1 + x6_1)), (wrap64 (x5_1 + x7_1)), (y164), (by first | rfl | (simp; done) | (simp [*]; done)), (by first | rfl | (simp; done) | (simp [*]; done)), (by first | rfl | (simp; done) | (simp [*]; done)), (by first | rfl | (simp; done) | (simp [*]; done)), H', ⟨by have := HK1.out; omega⟩, ⟨by (with_reducible repeat (first | apply Kd.R_alloc | apply Kd.R_drewN | apply Kd.R_drew)); exact HO166.out⟩, kA BK161, bA HB⟩
     ·replace c16 := Bool.eq_false_iff.mpr c16
      subst c16
      have H1 : (if x8_1.length < 140737488355328 then (galloonref03_Path.l0 k1 (wrap64 (x4_1 + x6_1)) (wrap64 (x5_1 + x7_1)) x6_1 x7_1 (x8_1 ++ [82]) a0_0 a0_1) else (none)) = some (r1, r2) := by rw [if_neg (show ¬ (false = true) by decide)] at H; exact H
      clear H
      have H := H1
      clear H1
      by_cases c26 : x8_1.length < 140737488355328
      case neg =>
       rw [if_neg c26] at H
       exact absurd H (by simp)
      rw [if_pos c26] at H
      have LMc26 := Aside0.mk c26
      clear c26
      obtain ⟨y167, hy167⟩ : ∃ y_ : List Int, y_ = (x8_1 ++ [82]) := ⟨_, rfl⟩
      replace H : (galloonref03_Path.l0 k1 (wrap64 (x4_1 + x6_1)) (wrap64 (x5_1 + x7_1)) x6_1 x7_1 y167 a0_0 a0_1) = some (r1, r2) := by first | (rw [hy167]; with_reducible exact H) | (have H2_ := (Option.bind_some _ _).symm.trans H; rw [hy167]; with_reducible exact H2_) | (have H2_ := (Option.bind_some _ _).symm.trans H; with_reducible exact H2_) | with_reducible exact H | (rw [hy167]; exact H) | exact H
      have Ny167 := Aside0.mk hy167
      clear hy167
      have H' := Aside0.mk H
      clear H
      go_wp2_with (first | ((with_reducible refine gate_dst (N := 9) rfl ?_); refine box_event ?hg (N := 9) ?hd (cs := #[.int .i64 0, .int .i64 0]) (t := 23) ?hr ?_; (case hd => rfl); (case hg => rfl); (case hr => first | (go_simp; done) | (go_simp; rfl)); intro gb162 hg w27 hbox hb; replace HO_8 := rB HO_8 hb; have BK162 := Aside0.mk (hbox); have GW162 := bG HB hg; have GE162 := bG HB hg; replace HB := bS HB hb; have NB161_162 := nL BK161 hg; have NB162_161 := nG BK161 hg; replace BK161 := kB BK161 hb; clear hb hbox hg; have hnb28 := NB162_161.out; have hnc28 := NB161_162.out; obtain ⟨hcz29_0, hcz29_1, hfz29_0, hfz29_1⟩ := cQ BK162; obtain ⟨hcz30_0, hcz30_1, hfz30_0, hfz30_1⟩ := cQ BK161; obtain ⟨Ao31, co31, eo31⟩ := Kd.R_slice HO_8.out; subst eo31) | ((with_reducible refine gate_callee (f := 29) rfl ?_); refine gL 27 Try.func29 #[.agg #[.int .i64 a0_0, .int .i64 a0_1], .agg #[.int .i64 (wrap64 (x4_1 + x6_1)), .int .i64 (wrap64 (x5_1 + x7_1))]] (h := ?_); (with_reducible refine (galloonref03_Less.calls a0_0 a0_1 (wrap64 (x4_1 + x6_1)) (wrap64 (x5_1 + x7_1)) false _ A15.out).mono ?_); rintro e w32 ⟨rfl, hb⟩; refine ⟨_, rfl, ?_⟩; replace HO_8 := Aside0.mk (Kd.R_below (by (with_reducible repeat (first | apply Kd.R_alloc | apply Kd.R_drewN | apply Kd.R_drew)); exact (Kd.R_mono (Kd.R_far (p := ⟨gb162, 1, none⟩) (Kd.R_far (p := ⟨gb162, 0, none⟩) (Kd.R_types HO_8.out BK162.out (by decide)) (fun _ hk => hk.2) (.int .i64 (wrap64 (x4_1 + x6_1)))) (fun _ hk => hk.2) (.int .i64 (wrap64 (x5_1 + x7_1)))) (fun _ h_ => h_.1))) hb); replace BK161 := kF BK161 hb; replace BK162 := Aside0.mk (blk_below (g := gb162) (o := .cells #[.int .i64 (wrap64 (x4_1 + x6_1)), .int .i64 (wrap64 (x5_1 + x7_1))] 23 (0, 0)) (by (with_reducible repeat (first | refine blk_drewN ?_ _ | refine blk_drew ?_ | refine blk_alloc ?_ _)); refine blk_put (cs := #[.int .i64 (wrap64 (x4_1 + x6_1)), .int .i64 0]) ?_ 1 _ rfl; (with_reducible repeat (first | refine blk_drewN ?_ _ | refine blk_drew ?_ | refine blk_alloc ?_ _)); refine blk_put (cs := #[.int .i64 0, .int .i64 0]) ?_ 0 _ rfl; (with_reducible repeat (first | refine blk_drewN ?_ _ | refine blk_drew ?_ | refine blk_alloc ?_ _)); exact BK162.out) hb); replace HB := bS HB hb; (try clear hb); (try clear hb2); (try clear hk); (try clear hi)) | ((with_reducible refine gate_builtin (b := .append) (xs := #[.tmp 35, .tmp 36]) rfl ?_); at_builtin; refine Kd.R_append (Kd.int .u8) (w0 := w) w.heap.size rfl (.tmp 35) (.tmp 36) 80 5 (.int .u8 0) 1 rfl Try.underlying80 info5 rfl (by decide) (by omega) (.slice Ao31 x8_1.length co31) x8_1 82 [.int .u8 82] (fun _ => True) (fun _ => False) rfl rfl ?aP (fun _ hk => hk.elim) ?aF ?aO ?aB ?aS ?aL ?_; (case aP => exact rfl); (case aB => exact (bB HB)); (case aF => exact (fun _ _ => trivial)); (case aO => exact (by (with_reducible repeat (first | apply Kd.R_alloc | apply Kd.R_drewN | apply Kd.R_drew)); exact HO_8.out)); (case aS => exact (below_size (bB HB))); (case aL => have := LMc26.out; omega); intro v168 w33 ho hb hg hat; rw [← Ny167.out] at ho; replace BK161 := Aside0.mk (blk_grown (g := gb161) (o := .cells #[.int .i64 a0_0, .int .i64 a0_1] 23 (0, 0)) (kb BK161) hg (Kd.R_ne HO_8.out BK161.out (by decide))); replace BK162 := Aside0.mk (blk_grown (g := gb162) (o := .cells #[.int .i64 (wrap64 (x4_1 + x6_1)), .int .i64 (wrap64 (x5_1 + x7_1))] 23 (0, 0)) (kb BK162) hg (Kd.R_ne HO_8.out BK162.out (by decide))); replace HB := Aside0.mk (hb); have HO169 := Aside0.mk (ho); clear HO_8; clear ho hb hg hat; obtain ⟨hcz34_0, hcz34_1, hfz34_0, hfz34_1⟩ := cQ BK162))
      go_roundg k1
      case measure => have := HK1.out; omega
      case rel => exact ⟨(wrap64 (x4_1 + x6_1)), (wrap64 (x5_1 + x7_1)), (x6_1), (x7_1), (y167), (by first | rfl | (simp; done) | (simp [*]; done)), (by first | rfl | (simp; done) | (simp [*]; done)), (by first | rfl | (simp; done) | (simp [*]; done)), (by first | rfl | (simp; done) | (simp [*]; done)), H', ⟨by have := HK1.out; omega⟩, ⟨by (with_reducible repeat (first | apply Kd.R_alloc | apply Kd.R_drewN | apply Kd.R_drew)); exact HO169.out⟩, kA BK161, bA HB⟩
end Go.Proofs.Ythjodhmkmjabbaa.PY
