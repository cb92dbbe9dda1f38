-- Made by the session's own driver (wip/tools/p2.py) out of the translation; Lean checks it.
import Derived.Test.YthjodhmkmjabbaaSq
import Derived.Test.YthjodhmkmjabbaaPYx0
namespace Go.Proofs.Ythjodhmkmjabbaa.PY
open Go.RowKit Go.Proofs.YthjodhmkmjabbaaW.PrintWords Go.Proofs.YthjodhmkmjabbaaW.PrintLast Go.Proofs.YthjodhmkmjabbaaW.PrintMore
attribute [local go_sem] max2_int min2_int max_two min_two max_three min_three max_four min_four   -- for this text's walks alone
set_option linter.unusedVariables false
set_option linter.unusedSimpArgs false
/-! ### yard_below: function 70 -/
mutual
def yard_below.l0 : Nat → Int → List Int → Int → Int → Int → Int → Option (Int)
 | 0, _, _, _, _, _, _ => none
 | k + 1, x0, x5, x6, x7, x123000, x123001 => if x7 ≤ x0 then (if 0 ≤ x7 then (if x7 < (x5.length : Int) then (if x123001 = 0 then (none) else (yard_below.l1 k x0 (x5.set (x7 : Int).toNat (wrap64 ((rd x5 x7) + (wrap64 (Int.tdiv (wrap64 ((wrap64 ((wrap64 (x7 * x123000)) + x123001)) - 1)) x123001))))) (wrap64 (x6 + (wrap64 ((rd x5 x7) + (wrap64 (Int.tdiv (wrap64 ((wrap64 ((wrap64 (x7 * x123000)) + x123001)) - 1)) x123001)))))) x7 (wrap64 (2 * x7)) x123000 x123001)) else (none)) else (none)) else (some x6)
def yard_below.l1 : Nat → Int → List Int → Int → Int → Int → Int → Int → Option (Int)
 | 0, _, _, _, _, _, _, _ => none
 | k + 1, x0, x5, x6, x7, x8, x123000, x123001 => if x8 ≤ x0 then (if 0 ≤ x8 then (if x8 < (x5.length : Int) then (if 0 ≤ x7 then (if x7 < (x5.length : Int) then (yard_below.l1 k x0 (x5.set (x8 : Int).toNat (wrap64 ((rd x5 x8) - (rd x5 x7)))) x6 x7 (wrap64 (x8 + x7)) x123000 x123001) else (none)) else (none)) else (none)) else (none)) else (yard_below.l0 k x0 x5 x6 (wrap64 (x7 + 1)) x123000 x123001)
end
def yard_below.f (k : Nat) (a0 : Int) (a1_0 : Int) (a1_1 : Int) : Option (Int) := if 0 ≤ (wrap64 (a0 + 1)) then (if (wrap64 (a0 + 1) : Int).toNat ≤ 35184372088832 then (yard_below.l0 k a0 (List.replicate (wrap64 (a0 + 1) : Int).toNat 0) 0 1 a1_0 a1_1) else (none)) else (none)
theorem yard_below.mono_l : ∀ k, (∀ y0 y1 y2 y3 y4 y5, LeO (yard_below.l0 k y0 y1 y2 y3 y4 y5) (yard_below.l0 (k + 1) y0 y1 y2 y3 y4 y5)) ∧ (∀ y0 y1 y2 y3 y4 y5 y6, LeO (yard_below.l1 k y0 y1 y2 y3 y4 y5 y6) (yard_below.l1 (k + 1) y0 y1 y2 y3 y4 y5 y6))
 | 0 => ⟨fun _ _ _ _ _ _ r h => by simp [yard_below.l0] at h, fun _ _ _ _ _ _ _ r h => by simp [yard_below.l1] at h⟩
 | k + 1 => by
  obtain ⟨ih0, ih1⟩ := yard_below.mono_l k
  refine ⟨?_, ?_⟩
  ·intro y0 y1 y2 y3 y4 y5
   unfold yard_below.l0
   repeat' first
   | (with_reducible exact ih0 _ _ _ _ _ _)
   | (with_reducible exact ih1 _ _ _ _ _ _ _)
   | (with_reducible exact LeO.refl _)
   | (with_reducible exact LeO.none _)
   | (with_reducible refine LeO.ite ?_ ?_)
   | (with_reducible refine LeO.bind ?_ (fun _ => ?_))
   | exact ih0 _ _ _ _ _ _
   | exact ih1 _ _ _ _ _ _ _
   | exact LeO.none _
   | refine LeO.ite ?_ ?_
   | refine LeO.bind ?_ (fun _ => ?_)
  ·intro y0 y1 y2 y3 y4 y5 y6
   unfold yard_below.l1
   repeat' first
   | (with_reducible exact ih0 _ _ _ _ _ _)
   | (with_reducible exact ih1 _ _ _ _ _ _ _)
   | (with_reducible exact LeO.refl _)
   | (with_reducible exact LeO.none _)
   | (with_reducible refine LeO.ite ?_ ?_)
   | (with_reducible refine LeO.bind ?_ (fun _ => ?_))
   | exact ih0 _ _ _ _ _ _
   | exact ih1 _ _ _ _ _ _ _
   | exact LeO.none _
   | refine LeO.ite ?_ ?_
   | refine LeO.bind ?_ (fun _ => ?_)
theorem yard_below.mono : ∀ a0 a1 a2 k, LeO (yard_below.f k a0 a1 a2) (yard_below.f (k + 1) a0 a1 a2) := by
 intro a0 a1 a2 k
 obtain ⟨ih0, ih1⟩ := yard_below.mono_l k
 unfold yard_below.f
 repeat' first
  | (with_reducible exact ih0 _ _ _ _ _ _)
  | (with_reducible exact ih1 _ _ _ _ _ _ _)
  | (with_reducible exact LeO.refl _)
  | (with_reducible exact LeO.none _)
  | (with_reducible refine LeO.ite ?_ ?_)
  | (with_reducible refine LeO.bind ?_ (fun _ => ?_))
  | exact ih0 _ _ _ _ _ _
  | exact ih1 _ _ _ _ _ _ _
  | exact LeO.none _
  | refine LeO.ite ?_ ?_
  | refine LeO.bind ?_ (fun _ => ?_)
def yard_below.T6 : Bool × List (List Nat × List Nat) := (true, [([], []), ([], []), ([0, 1], [0, 1]), ([2], [2]), ([], []), ([], []), ([5], [5]), ([4, 6], [4, 6]), ([], []), ([8], [8]), ([7, 9], [7, 9]), ([10], [10]), ([], []), ([12], [12]), ([11, 13], [11, 13]), ([3, 14], [3, 14]), ([0, 1, 0, 1, 2, 3, 4, 5, 6, 7, 8, 9, 10, 11, 12, 13, 14, 15], [0, 1]), ([16, 15, 0, 1, 2, 3, 4, 5, 6, 7, 8, 9, 10, 11, 12, 13, 14, 15], [15, 16])])
def yard_below.B6 : List Nat := [0, 0, 3, 7, 0, 0, 32, 112, 0, 256, 1008, 2032, 0, 4096, 16368, 32767, 65535, 131071]
theorem yard_below.tab6 : rtab .any (opsOf Try.f70 6) = yard_below.T6 := by kernel_rfl
theorem yard_below.bits6 : waitsOk yard_below.T6.2 yard_below.B6 = true := by kernel_rfl
def yard_below.T11 : Bool × List (List Nat × List Nat) := (true, [([], []), ([], []), ([0, 1], [0, 1]), ([2], [2]), ([], []), ([], []), ([4, 5], [4, 5]), ([6], [6]), ([3, 7], [3, 7]), ([0, 1, 0, 1, 2, 3, 4, 5, 6, 7, 8], [0, 1]), ([9, 8, 0, 1, 2, 3, 4, 5, 6, 7, 8], [8, 9])])
def yard_below.B11 : List Nat := [0, 0, 3, 7, 0, 0, 48, 112, 255, 511, 1023]
theorem yard_below.tab11 : rtab .any (opsOf Try.f70 11) = yard_below.T11 := by kernel_rfl
theorem yard_below.bits11 : waitsOk yard_below.T11.2 yard_below.B11 = true := by kernel_rfl
set_option maxHeartbeats 8000000 in
set_option maxRecDepth 100000 in
theorem yard_below.calls (k : Nat) (a0 : Int) (a1_0 : Int) (a1_1 : Int) (r : Int) (w : World) (h : yard_below.f k a0 a1_0 a1_1 = some r) :
 Calls Try.prog 70 #[.int .i64 a0, .agg #[.int .i64 a1_0, .int .i64 a1_1]] w fun e w' => e = .returned (.int .i64 r) ∧ Below w.heap.size w w' := by
 have hu23 := Try.underlying23
 have HB := Aside0.mk (Below.refl w.heap.size w)
 have H : (if 0 ≤ (wrap64 (a0 + 1)) then (if (wrap64 (a0 + 1) : Int).toNat ≤ 35184372088832 then (yard_below.l0 k a0 (List.replicate (wrap64 (a0 + 1) : Int).toNat 0) 0 1 a1_0 a1_1) else (none)) else (none)) = some r := h
 clear h
 obtain ⟨ji3, hji3⟩ : ∃ j_ : Int, (wrap64 (a0 + 1)) = j_ := ⟨_, rfl⟩
 replace H : (if 0 ≤ (ji3) then (if (ji3 : Int).toNat ≤ 35184372088832 then (yard_below.l0 k a0 (List.replicate (ji3 : Int).toNat 0) 0 1 a1_0 a1_1) else (none)) else (none)) = some r := by first | (rw [hji3] at H; exact H) | (simp only [hji3] at H ⊢; exact H)
 have hji3w : (IntKind.i64.wrap (a0 + 1)) = ji3 := (i64_w _).trans hji3
 by_cases c4 : 0 ≤ (ji3)
 case neg =>
  rw [if_neg c4] at H
  exact absurd H (by simp)
 rw [if_pos c4] at H
 have c4b0 := eq_true c4
 have c4b1 : decide (0 ≤ (ji3)) = true := decide_eq_true c4
 clear c4
 by_cases c5 : (ji3 : Int).toNat ≤ 35184372088832
 case neg =>
  rw [if_neg c5] at H
  exact absurd H (by simp)
 rw [if_pos c5] at H
 have c5b0 := eq_true c5
 have c5b1 : decide ((ji3 : Int).toNat ≤ 35184372088832) = true := decide_eq_true c5
 clear c5
 obtain ⟨y123, hy123⟩ : ∃ y_ : List Int, y_ = (List.replicate (ji3 : Int).toNat 0) := ⟨_, rfl⟩
 replace H : (yard_below.l0 k a0 y123 0 1 a1_0 a1_1) = some r := by first | (rw [hy123]; with_reducible exact H) | (have H2_ := (Option.bind_some _ _).symm.trans H; rw [hy123]; with_reducible exact H2_) | (have H2_ := (Option.bind_some _ _).symm.trans H; with_reducible exact H2_) | with_reducible exact H | (rw [hy123]; exact H) | exact H
 have Ny123 := Aside0.mk hy123
 clear hy123
 have H' := Aside0.mk H
 clear H
 go_enter Try.func70, Try.ntmps70
 go_wp2_with (first | ((with_reducible refine gate_dst (N := 3) rfl ?_); refine box_event ?hg (N := 3) ?hd (cs := #[.int .i64 a1_0, .int .i64 a1_1]) (t := 23) ?hr ?_; (case hd => rfl); (case hg => rfl); (case hr => first | (go_simp; done) | (go_simp; rfl)); intro gb122 hg w6 hbox hb; have BK122 := Aside0.mk (hbox); have GW122 := bG HB hg; have GE122 := bG HB hg; replace HB := bS HB hb; clear hb hbox hg) | ((with_reducible refine gate_dst (N := 11) rfl ?_); refine Kd.R_make (Kd.int .i64) _ 3 rfl (N := 11) rfl 27 _ _ rfl ji3 rfl rfl Try.underlying27 (.int .i64 0) 8 info3 rfl (by decide) (by omega) 0 (ok := fun _ => True) (okp := fun _ => True) rfl (fun _ hk => hk) trivial (oD) (Nat.le_trans (Nat.mul_le_mul_right _ (oD : ji3.toNat ≤ 35184372088832)) (by omega)) (Below.refl _ _) (Nat.le_refl _) ?_; intro v124 w7 ho8 hb hg_ hnew_; clear hg_ hnew_; (first | rw [← Ny123.out] at ho8 | (simp only [Int.reduceToNat] at ho8; rw [← Ny123.out] at ho8)); have HO125 := Aside0.mk (Kd.R_lower ho8 (below_size (bB HB))); replace BK122 := kB BK122 hb; replace HB := bS HB hb; clear hb ho8))
 go_loopg [6, 7] k (fun kq v6 v7 w' => ∃ (x5_1 : List Int) (x6_1 : Int) (x7_1 : Int), v6 = .int .i64 x6_1 ∧ v7 = .int .i64 x7_1 ∧ Aside0 (yard_below.l0 kq a0 x5_1 x6_1 x7_1 a1_0 a1_1 = some r) ∧ Aside0 (kq ≤ k) ∧ Aside0 (Kd.R (Kd.int .i64) 3 w' w.heap.size (fun _ => True) v124 x5_1) ∧ Aside0 (w'.heap[gb122]? = some (.cells #[.int .i64 a1_0, .int .i64 a1_1] 23 (0, 0))) ∧ Aside0 (Below w.heap.size w w'))
 case atStart => exact ⟨(y123), (0), (1), (by first | rfl | (simp; done) | (simp [*]; done)), (by first | rfl | (simp; done) | (simp [*]; done)), H', ⟨Nat.le_refl _⟩, ⟨by (with_reducible repeat (first | apply Kd.R_alloc | apply Kd.R_drewN | apply Kd.R_drew)); exact HO125.out⟩, kA BK122, bA HB⟩
 case round =>
  clear H'
  try clear p2
  try clear p6
  obtain ⟨x5_1, x6_1, x7_1, rfl, rfl, HA, HK1, HO_5, BK122, HB⟩ := hrel
  cases gk with
  | zero => exact absurd HA.out (by simp [yard_below.l0])
  | succ k1 =>
   have H := HA.out
   clear HA
   simp only [yard_below.l0] at H
   by_cases c9 : x7_1 ≤ a0
   case neg =>
    rw [if_neg c9] at H
    have c9b0 : decide (x7_1 ≤ a0) = false := decide_eq_false c9
    clear c9
    obtain rfl := Option.some.inj H
    go_wp2
    go_ret
    exact ⟨by first | rfl | (simp [errW_none, errW_some] <;> rfl) | (simp only [← hji3]; first | rfl | (simp [errW_none, errW_some] <;> rfl)) | (simp [*, errW_none, errW_some] <;> rfl), bB HB⟩
   rw [if_pos c9] at H
   have c9b0 : decide (x7_1 ≤ a0) = true := decide_eq_true c9
   clear c9
   by_cases c10 : 0 ≤ x7_1
   case neg =>
    rw [if_neg c10] at H
    exact absurd H (by simp)
   rw [if_pos c10] at H
   have c10b0 : decide (0 ≤ x7_1) = true := decide_eq_true c10
   clear c10
   by_cases c11 : x7_1 < (x5_1.length : Int)
   case neg =>
    rw [if_neg c11] at H
    exact absurd H (by simp)
   rw [if_pos c11] at H
   have c11b0 : decide (x7_1 < (x5_1.length : Int)) = true := decide_eq_true c11
   clear c11
   by_cases c12 : a1_1 = 0
   ·rw [if_pos c12] at H
    exact absurd H (by simp)
   ·rw [if_neg c12] at H
    have c12b0 : (a1_1 == 0) = false := beq_eq_false_iff_ne.mpr c12
    have c12b1 : (a1_1 != 0) = true := bne_iff_ne.mpr c12
    obtain ⟨y127, hy127⟩ : ∃ y_ : List Int, y_ = (x5_1.set (x7_1 : Int).toNat (wrap64 ((rd x5_1 x7_1) + (wrap64 (Int.tdiv (wrap64 ((wrap64 ((wrap64 (x7_1 * a1_0)) + a1_1)) - 1)) a1_1))))) := ⟨_, rfl⟩
    replace H : (yard_below.l1 k1 a0 y127 (wrap64 (x6_1 + (wrap64 ((rd x5_1 x7_1) + (wrap64 (Int.tdiv (wrap64 ((wrap64 ((wrap64 (x7_1 * a1_0)) + a1_1)) - 1)) a1_1)))))) x7_1 (wrap64 (2 * x7_1)) a1_0 a1_1) = some r := by first | (rw [hy127]; with_reducible exact H) | (have H2_ := (Option.bind_some _ _).symm.trans H; rw [hy127]; with_reducible exact H2_) | (have H2_ := (Option.bind_some _ _).symm.trans H; with_reducible exact H2_) | with_reducible exact H | (rw [hy127]; exact H) | exact H
    have Ny127 := Aside0.mk hy127
    clear hy127
    have H' := Aside0.mk H
    clear H
    try go_wp2
    replace HO_5 := Aside0.mk (Kd.R_drew HO_5.out)
    replace BK122 := Aside0.mk (blk_drew BK122.out)
    replace HB := Aside0.mk (below_drew1 HB.out)
    obtain ⟨Ao16, co16, eo16⟩ := Kd.R_slice HO_5.out
    (first | subst eo16 | (injection eo16 with f1_ f2_ f3_; have f4_ := f1_.symm; have f5_ := f3_.symm; clear f1_ f2_ f3_; subst f4_; subst f5_))
    have p126 : 0 ≤ (x7_1 : Int) := oD
    have q126 : x7_1 < (x5_1.length : Int) := oD
    obtain ⟨ad126, e126, hx126_0⟩ := Kd.at_int (Kd.R_reads' HO_5.out).2.2 x7_1 p126 q126
    cases e126
    replace p126 := eq_true p126
    replace q126 := eq_true q126
    have p13 : 0 ≤ (x7_1 : Int) := oD
    have q13 : (x7_1 : Int) < ((x5_1.length : Int) : Int) := oD
    obtain ⟨go13, co13, eo13, gb13, gl13, cl13, HG13⟩ := Kd.R_form HO_5.out (by omega)
    (first | cases eo13 | (injection eo13 with ea_ en_ ec_; (first | subst ea_ | (injection ea_ with ea_; subst ea_)); subst ec_; clear en_))
    have GB13 := Aside0.mk gb13
    have GG13 := Aside0.mk HG13
    clear gb13 gl13 HG13
    (first | simp only [add_plain] at hx126_0 | skip)
    obtain ⟨hx13_0, hf13_0⟩ := Kd.R_celln 0 HO_5.out (x7_1 : Int) p13 q13
    replace p13 := eq_true p13
    replace q13 := eq_true q13
    have HP17 := Kd.R_putn HO_5.out (x7_1 : Int) (wrap64 ((rd x5_1 x7_1) + (wrap64 (Int.tdiv (wrap64 ((wrap64 ((wrap64 (x7_1 * a1_0)) + a1_1)) - 1)) a1_1))))
    rw [← Ny127.out] at HP17
    have HQ17 := Aside0.mk HP17
    clear HP17
    refine start_ (n := 18) (S := fun w' => w'.cell? ⟨gb122, 0, none⟩ = some (.int .i64 a1_0) ∧ w'.cell? ⟨gb122, 1, none⟩ = some (.int .i64 a1_1) ∧ w'.cell? ⟨go13, (x7_1).toNat, none⟩ = some (.int .i64 (rd x5_1 x7_1))) (ds := [17]) (lb 18 0) (by kernel_rfl) rfl (by kernel_rfl) ⟨(blk_cell BK122.out 0).trans rfl, (blk_cell BK122.out 1).trans rfl, hx126_0⟩ (fun hHeld => ?_); refine with_tabW yard_below.tab6 yard_below.bits6 (fun HT_ HW_ => ?_)
    generalize wr.drew = w15 at HO_5 BK122 HB GG13 HQ17 hf13_0 hx126_0 hx13_0 hHeld ⊢
    refine pk HT_ 18 1 0 17 (h := ?_)
    refine pk HT_ 18 3 1 18 (h := ?_)
    refine pk HT_ 18 7 2 19 (h := ?_)
    refine pk HT_ 18 23 4 21 (h := ?_)
    refine pk HT_ 18 55 5 22 (h := ?_)
    refine pk HT_ 18 311 8 25 (h := ?_)
    refine pk HT_ 18 0x1137 12 29 (h := ?_)
    refine tk3 HT_ HW_ hHeld 18 0x113f 3 20 (h := ?_)
    refine tk3 HT_ HW_ hHeld 18 0x117f 6 23 (h := ?_)
    refine pk HT_ 18 0x11ff 7 24 (h := ?_)
    refine tk3 HT_ HW_ hHeld 18 0x13ff 9 26 (h := ?_)
    refine pk HT_ 18 0x17ff 10 27 (h := ?_)
    refine pk HT_ 18 0x1fff 11 28 (h := ?_)
    refine tk3 HT_ HW_ hHeld 18 0x3fff 13 30 (h := ?_)
    refine pk HT_ 18 0x7fff 14 31 (h := ?_)
    refine pk HT_ 18 0xffff 15 32 (h := ?_)
    refine pk HT_ 18 0x1ffff 16 33 (h := ?_)
    refine last_ (i := 17) (N := none) (lb 18 0x3ffff) rfl rfl (one_of HT_.out (by kernel_rfl)) (by decide) (fun K hK => ?_)
    refine skip_ (w1 := ?_) (by rfl) rfl ?_ ?_
    rotate_left
    ·go_simp
     rfl
    refine hK.out _ _ ?_
    clear hK K
    refine done_ (done_of HT_.out (by kernel_rfl)) ?_
    have p14 : 0 ≤ (x7_1 : Int) := oD
    have q14 : (x7_1 : Int) < ((x5_1.length : Int) : Int) := oD
    replace p14 := eq_true p14
    replace q14 := eq_true q14
    try go_wp2
    go_loopg [8] k1 (fun kq v8 w' => ∃ (x5_2 : List Int) (x8_2 : Int), v8 = .int .i64 x8_2 ∧ Aside0 (yard_below.l1 kq a0 x5_2 (wrap64 (x6_1 + (wrap64 ((rd x5_1 x7_1) + (wrap64 (Int.tdiv (wrap64 ((wrap64 ((wrap64 (x7_1 * a1_0)) + a1_1)) - 1)) a1_1)))))) x7_1 x8_2 a1_0 a1_1 = some r) ∧ Aside0 (kq ≤ k1) ∧ Aside0 (Kd.R (Kd.int .i64) 3 w' w.heap.size (fun _ => True) (.slice (some ⟨go13, 0, none⟩) x5_1.length co16) x5_2) ∧ Aside0 (w'.heap[gb122]? = some (.cells #[.int .i64 a1_0, .int .i64 a1_1] 23 (0, 0))) ∧ Aside0 (Below w.heap.size w w'))
    case atStart => exact ⟨(y127), (wrap64 (2 * x7_1)), (by first | rfl | (simp; done) | (simp [*]; done)), H', ⟨Nat.le_refl _⟩, ⟨by (with_reducible repeat (first | apply Kd.R_alloc | apply Kd.R_drewN | apply Kd.R_drew)); exact HQ17.out⟩, ⟨by (with_reducible repeat (first | refine blk_drewN ?_ _ | refine blk_drew ?_ | refine blk_alloc ?_ _)); refine blk_far ?_ (by have h_ := Kd.R_ne HO_5.out BK122.out (by decide); intro e_; exact h_ (by rw [e_]; rfl)) _; (with_reducible repeat (first | refine blk_drewN ?_ _ | refine blk_drew ?_ | refine blk_alloc ?_ _)); exact BK122.out⟩, ⟨by repeat (first | (with_reducible first | exact HB.out | apply below_alloc | apply pw_below_drewN | apply below_drew1 | refine below_set ?_ GB13.out | refine below_set ?_ GE122.out) | exact HB.out)⟩⟩
    case round =>
     clear H'
     try clear p1
     try clear q1
     try clear hx1
     try clear p2
     try clear p6
     try clear p12
     try clear q12
     try clear hx12
     try clear p13
     try clear q13
     try clear hx13
     try clear hf13
     try clear p14
     try clear q14
     try clear hx126_0
     try clear hx13_0
     try clear p126
     try clear p13
     try clear p14
     try clear p2
     try clear p6
     try clear q126
     try clear q13
     try clear q14
     obtain ⟨x5_2, x8_2, rfl, HA, HK2, HO_5, BK122, HB⟩ := hrel
     have hl5_2 := (Kd.R_reads' HO_5.out).1
     rw [hl5_2] at HO_5
     (try simp only [hl5_2])
     (try simp only [hl5_2] at BK122)
     cases gk with
     | zero => exact absurd HA.out (by simp [yard_below.l1])
     | succ k2 =>
      have H := HA.out
      clear HA
      simp only [yard_below.l1] at H
      by_cases c18 : x8_2 ≤ a0
      ·rw [if_pos c18] at H
       have c18b0 : decide (x8_2 ≤ a0) = true := decide_eq_true c18
       clear c18
       by_cases c19 : 0 ≤ x8_2
       case neg =>
        rw [if_neg c19] at H
        exact absurd H (by simp)
       rw [if_pos c19] at H
       have c19b0 : decide (0 ≤ x8_2) = true := decide_eq_true c19
       clear c19
       by_cases c20 : x8_2 < (x5_2.length : Int)
       case neg =>
        rw [if_neg c20] at H
        exact absurd H (by simp)
       rw [if_pos c20] at H
       have c20b0 : decide (x8_2 < (x5_2.length : Int)) = true := decide_eq_true c20
       clear c20
       by_cases c21 : 0 ≤ x7_1
       case neg =>
        rw [if_neg c21] at H
        exact absurd H (by simp)
       rw [if_pos c21] at H
       have c21b0 : decide (0 ≤ x7_1) = true := decide_eq_true c21
       clear c21
       by_cases c22 : x7_1 < (x5_2.length : Int)
       case neg =>
        rw [if_neg c22] at H
        exact absurd H (by simp)
       rw [if_pos c22] at H
       have c22b0 : decide (x7_1 < (x5_2.length : Int)) = true := decide_eq_true c22
       clear c22
       obtain ⟨y131, hy131⟩ : ∃ y_ : List Int, y_ = (x5_2.set (x8_2 : Int).toNat (wrap64 ((rd x5_2 x8_2) - (rd x5_2 x7_1)))) := ⟨_, rfl⟩
       replace H : (yard_below.l1 k2 a0 y131 (wrap64 (x6_1 + (wrap64 ((rd x5_1 x7_1) + (wrap64 (Int.tdiv (wrap64 ((wrap64 ((wrap64 (x7_1 * a1_0)) + a1_1)) - 1)) a1_1)))))) x7_1 (wrap64 (x8_2 + x7_1)) a1_0 a1_1) = some r := by first | (rw [hy131]; with_reducible exact H) | (have H2_ := (Option.bind_some _ _).symm.trans H; rw [hy131]; with_reducible exact H2_) | (have H2_ := (Option.bind_some _ _).symm.trans H; with_reducible exact H2_) | with_reducible exact H | (rw [hy131]; exact H) | exact H
       have Ny131 := Aside0.mk hy131
       clear hy131
       have H' := Aside0.mk H
       clear H
       try go_wp2
       replace HO_5 := Aside0.mk (Kd.R_drew HO_5.out)
       replace BK122 := Aside0.mk (blk_drew BK122.out)
       replace HB := Aside0.mk (below_drew1 HB.out)
       have p129 : 0 ≤ (x8_2 : Int) := oD
       have q129 : x8_2 < (x5_2.length : Int) := oD
       obtain ⟨ad129, e129, hx129_0⟩ := Kd.at_int (Kd.R_reads' HO_5.out).2.2 x8_2 p129 q129
       obtain rfl : (⟨go13, 0, none⟩ : Addr) = ad129 := (by injection e129)
       (first | simp only [add_plain] at hx129_0 | simp only [add_at] at hx129_0 | simp only [Addr.add, Nat.zero_add] at hx129_0 | skip)
       replace p129 := eq_true p129
       replace q129 := eq_true q129
       have p130 : 0 ≤ (x7_1 : Int) := oD
       have q130 : x7_1 < (x5_2.length : Int) := oD
       obtain ⟨ad130, e130, hx130_0⟩ := Kd.at_int (Kd.R_reads' HO_5.out).2.2 x7_1 p130 q130
       obtain rfl : (⟨go13, 0, none⟩ : Addr) = ad130 := (by injection e130)
       (first | simp only [add_plain] at hx130_0 | simp only [add_at] at hx130_0 | simp only [Addr.add, Nat.zero_add] at hx130_0 | skip)
       replace p130 := eq_true p130
       replace q130 := eq_true q130
       have p23 : 0 ≤ (x8_2 : Int) := oD
       have q23 : (x8_2 : Int) < ((x5_2.length : Int) : Int) := oD
       obtain ⟨hx23_0, hf23_0⟩ := Kd.R_celln 0 HO_5.out (x8_2 : Int) p23 q23
       replace p23 := eq_true p23
       replace q23 := eq_true q23
       have HP25 := Kd.R_putn HO_5.out (x8_2 : Int) (wrap64 ((rd x5_2 x8_2) - (rd x5_2 x7_1)))
       rw [← Ny131.out] at HP25
       have HQ25 := Aside0.mk HP25
       clear HP25
       refine start_ (n := 11) (S := fun w' => w'.cell? ⟨go13, (x8_2).toNat, none⟩ = some (.int .i64 (rd x5_2 x8_2)) ∧ w'.cell? ⟨go13, (x7_1).toNat, none⟩ = some (.int .i64 (rd x5_2 x7_1))) (ds := [10]) (lb 11 0) (by kernel_rfl) rfl (by kernel_rfl) ⟨hx129_0, hx130_0⟩ (fun hHeld => ?_); refine with_tabW yard_below.tab11 yard_below.bits11 (fun HT_ HW_ => ?_)
       generalize wr.drew = w24 at HO_5 BK122 HB HQ25 hf23_0 hx129_0 hx130_0 hx23_0 hHeld ⊢
       refine pk HT_ 11 1 0 48 (h := ?_)
       refine pk HT_ 11 3 1 49 (h := ?_)
       refine pk HT_ 11 7 2 50 (h := ?_)
       refine pk HT_ 11 23 4 52 (h := ?_)
       refine pk HT_ 11 55 5 53 (h := ?_)
       refine pk HT_ 11 119 6 54 (h := ?_)
       refine tk2 HT_ HW_ hHeld 11 127 3 51 (h := ?_)
       refine tk2 HT_ HW_ hHeld 11 255 7 55 (h := ?_)
       refine pk HT_ 11 511 8 56 (h := ?_)
       refine pk HT_ 11 0x3ff 9 57 (h := ?_)
       refine last_ (i := 10) (N := none) (lb 11 0x7ff) rfl rfl (one_of HT_.out (by kernel_rfl)) (by decide) (fun K hK => ?_)
       refine skip_ (w1 := ?_) (by rfl) rfl ?_ ?_
       rotate_left
       ·go_simp
        rfl
       refine hK.out _ _ ?_
       clear hK K
       refine done_ (done_of HT_.out (by kernel_rfl)) ?_
       try go_wp2
       (try simp only [← hl5_2])
       go_roundg k2
       case measure => have := HK1.out; have := HK2.out; omega
       case rel => exact ⟨(y131), (wrap64 (x8_2 + x7_1)), (by first | rfl | (simp; done) | (simp [*]; done)), H', ⟨by have := HK1.out; have := HK2.out; omega⟩, ⟨by (try simp only [hl5_2]); (with_reducible repeat (first | apply Kd.R_alloc | apply Kd.R_drewN | apply Kd.R_drew)); exact HQ25.out⟩, ⟨by (try simp only [hl5_2]); (with_reducible repeat (first | refine blk_drewN ?_ _ | refine blk_drew ?_ | refine blk_alloc ?_ _)); refine blk_far ?_ (by have h_ := Kd.R_ne HO_5.out BK122.out (by decide); intro e_; exact h_ (by rw [e_]; rfl)) _; (with_reducible repeat (first | refine blk_drewN ?_ _ | refine blk_drew ?_ | refine blk_alloc ?_ _)); exact BK122.out⟩, ⟨by repeat (first | (with_reducible first | exact HB.out | apply below_alloc | apply pw_below_drewN | apply below_drew1 | refine below_set ?_ GB13.out | refine below_set ?_ GE122.out) | exact HB.out)⟩⟩
      ·rw [if_neg c18] at H
       have c18b0 : decide (x8_2 ≤ a0) = false := decide_eq_false c18
       clear c18
       have H' := Aside0.mk H
       clear H
       go_wp2
       (try simp only [← hl5_2])
       go_roundg k2
       case measure => have := HK1.out; have := HK2.out; omega
       case rel => exact ⟨(x5_2), ((wrap64 (x6_1 + (wrap64 ((rd x5_1 x7_1) + (wrap64 (Int.tdiv (wrap64 ((wrap64 ((wrap64 (x7_1 * a1_0)) + a1_1)) - 1)) a1_1))))))), (wrap64 (x7_1 + 1)), (by first | rfl | (simp; done) | (simp [*]; done)), (by first | rfl | (simp; done) | (simp [*]; done)), H', ⟨by have := HK1.out; have := HK2.out; omega⟩, ⟨by (try simp only [hl5_2]); (with_reducible repeat (first | apply Kd.R_alloc | apply Kd.R_drewN | apply Kd.R_drew)); exact HO_5.out⟩, ⟨by (try simp only [hl5_2]); (with_reducible repeat (first | refine blk_drewN ?_ _ | refine blk_drew ?_ | refine blk_alloc ?_ _)); exact BK122.out⟩, bA HB⟩
end Go.Proofs.Ythjodhmkmjabbaa.PY
