-- Made by the session's own driver (wip/tools/p2.py) out of the translation; Lean checks it.
import Derived.Test.YthjodhmkmjabbaaSq
import Derived.Test.YthjodhmkmjabbaaPYx0
namespace Go.Proofs.Ythjodhmkmjabbaa.PY
open Go.RowKit Go.Proofs.YthjodhmkmjabbaaW.PrintWords Go.Proofs.YthjodhmkmjabbaaW.PrintLast Go.Proofs.YthjodhmkmjabbaaW.PrintMore
attribute [local go_sem] max2_int min2_int max_two min_two max_three min_three max_four min_four   -- for this text's walks alone
set_option linter.unusedVariables false
set_option linter.unusedSimpArgs false
/-! ### galloonref03_Row: function 38 -/
def galloonref03_Row.l0 : Nat → Int → List (S23) → Option ((List (S23)))
 | 0, _, _ => none
 | k + 1, x0, x3 => if 0 ≤ (wrap64 ((x3.length : Int) - 1)) then (if (wrap64 ((x3.length : Int) - 1)) < (x3.length : Int) then (if ((rd_T23 x3 (wrap64 ((x3.length : Int) - 1))).f0) < ((rd_T23 x3 (wrap64 ((x3.length : Int) - 1))).f1) then (if 0 ≤ (wrap64 ((x3.length : Int) - 2)) then (if (wrap64 ((x3.length : Int) - 2)) < (x3.length : Int) then (if ((rd_T23 x3 (wrap64 ((x3.length : Int) - 1))).f1) = 0 then (none) else (if x3.length < 8796093022208 then (galloonref03_Row.l0 k x0 (x3 ++ [(⟨wrap64 ((wrap64 ((wrap64 (Int.tdiv (wrap64 (x0 + ((rd_T23 x3 (wrap64 ((x3.length : Int) - 2))).f1))) ((rd_T23 x3 (wrap64 ((x3.length : Int) - 1))).f1))) * ((rd_T23 x3 (wrap64 ((x3.length : Int) - 1))).f0))) - ((rd_T23 x3 (wrap64 ((x3.length : Int) - 2))).f0)), wrap64 ((wrap64 ((wrap64 (Int.tdiv (wrap64 (x0 + ((rd_T23 x3 (wrap64 ((x3.length : Int) - 2))).f1))) ((rd_T23 x3 (wrap64 ((x3.length : Int) - 1))).f1))) * ((rd_T23 x3 (wrap64 ((x3.length : Int) - 1))).f1))) - ((rd_T23 x3 (wrap64 ((x3.length : Int) - 2))).f1))⟩ : S23)])) else (none))) else (none)) else (none)) else (some x3)) else (none)) else (none)
def galloonref03_Row.f (k : Nat) (a0 : Int) : Option ((List (S23))) := galloonref03_Row.l0 k a0 (([(⟨0, 1⟩ : S23), (⟨1, a0⟩ : S23)] : List (S23)))
theorem galloonref03_Row.mono_l : ∀ k, (∀ y0 y1, LeO (galloonref03_Row.l0 k y0 y1) (galloonref03_Row.l0 (k + 1) y0 y1))
 | 0 => fun _ _ r h => by simp [galloonref03_Row.l0] at h
 | k + 1 => by
  have ih0 := galloonref03_Row.mono_l k
  ·intro y0 y1
   unfold galloonref03_Row.l0
   repeat' first
   | (with_reducible exact ih0 _ _)
   | (with_reducible exact LeO.refl _)
   | (with_reducible exact LeO.none _)
   | (with_reducible refine LeO.ite ?_ ?_)
   | (with_reducible refine LeO.bind ?_ (fun _ => ?_))
   | exact ih0 _ _
   | exact LeO.none _
   | refine LeO.ite ?_ ?_
   | refine LeO.bind ?_ (fun _ => ?_)
theorem galloonref03_Row.mono : ∀ a0 k, LeO (galloonref03_Row.f k a0) (galloonref03_Row.f (k + 1) a0) := by
 intro a0 k
 have ih0 := galloonref03_Row.mono_l k
 unfold galloonref03_Row.f
 repeat' first
  | (with_reducible exact ih0 _ _)
  | (with_reducible exact LeO.refl _)
  | (with_reducible exact LeO.none _)
  | (with_reducible refine LeO.ite ?_ ?_)
  | (with_reducible refine LeO.bind ?_ (fun _ => ?_))
  | exact ih0 _ _
  | exact LeO.none _
  | refine LeO.ite ?_ ?_
  | refine LeO.bind ?_ (fun _ => ?_)
def galloonref03_Row.T2 : Bool × List (List Nat × List Nat) := (true, [([], []), ([], []), ([1], [1]), ([2], [2]), ([0, 3], [0, 3]), ([4], [4]), ([5], [5]), ([], []), ([], []), ([8], [8]), ([9], [9]), ([7, 10], [7, 10]), ([11], [11]), ([12], [12]), ([6, 13], [6, 13])])
def galloonref03_Row.B2 : List Nat := [0, 0, 2, 6, 15, 31, 63, 0, 0, 256, 768, 1920, 3968, 8064, 16383]
theorem galloonref03_Row.tab2 : rtab .any (opsOf Try.f38 2) = galloonref03_Row.T2 := by kernel_rfl
theorem galloonref03_Row.bits2 : waitsOk galloonref03_Row.T2.2 galloonref03_Row.B2 = true := by kernel_rfl
def galloonref03_Row.T3 : Bool × List (List Nat × List Nat) := (true, [([], []), ([], []), ([1], [1]), ([2], [2]), ([0, 3], [0, 3]), ([4], [4]), ([], []), ([], []), ([7], [7]), ([8], [8]), ([6, 9], [6, 9]), ([10], [10]), ([], []), ([], []), ([12, 5, 0, 1, 2, 3, 4, 5, 12, 13], [5, 12]), ([13, 11, 14, 0, 1, 2, 3, 4, 5, 6, 7, 8, 9, 10, 11, 12, 13, 14], [11, 13])])
def galloonref03_Row.B3 : List Nat := [0, 0, 2, 6, 15, 31, 0, 0, 128, 384, 960, 1984, 0, 0, 12351, 32767]
theorem galloonref03_Row.tab3 : rtab .any (opsOf Try.f38 3) = galloonref03_Row.T3 := by kernel_rfl
theorem galloonref03_Row.bits3 : waitsOk galloonref03_Row.T3.2 galloonref03_Row.B3 = true := by kernel_rfl
set_option maxHeartbeats 8000000 in
set_option maxRecDepth 100000 in
theorem galloonref03_Row.calls (k : Nat) (a0 : Int) (r : List (S23)) (w : World) (h : galloonref03_Row.f k a0 = some r) :
 Calls Try.prog 38 #[.int .i64 a0] w fun e w' => ∃ v0_ : Value, e = .returned (v0_) ∧ Kd.R k23 23 w' w.heap.size (fun _ => True) v0_ r ∧ Below w.heap.size w w' := by
 have hu23 := Try.underlying23
 have HB := Aside0.mk (Below.refl w.heap.size w)
 have H : (galloonref03_Row.l0 k a0 (([(⟨0, 1⟩ : S23), (⟨1, a0⟩ : S23)] : List (S23)))) = some r := h
 clear h
 obtain ⟨y274, hy274⟩ : ∃ y_ : List (S23), y_ = (([(⟨0, 1⟩ : S23), (⟨1, a0⟩ : S23)] : List (S23))) := ⟨_, rfl⟩
 replace H : (galloonref03_Row.l0 k a0 y274) = some r := by first | (rw [hy274]; with_reducible exact H) | (have H2_ := (Option.bind_some _ _).symm.trans H; rw [hy274]; with_reducible exact H2_) | (have H2_ := (Option.bind_some _ _).symm.trans H; with_reducible exact H2_) | with_reducible exact H | (rw [hy274]; exact H) | exact H
 have Ny274 := Aside0.mk hy274
 clear hy274
 have H' := Aside0.mk H
 clear H
 go_enter Try.func38, Try.ntmps38
 go_wp2_with (first | ((with_reducible refine gate_dst (N := 10) rfl ?_); refine Kd.R_lit k23 _ 23 ?hg (N := 10) ?hd (xs := ([(⟨0, 1⟩ : S23), (⟨1, a0⟩ : S23)] : List (S23))) (inner := [.int .i64 0, .int .i64 1, .int .i64 1, .int .i64 a0]) (ok := fun _ => True) (okp := fun _ => True) ?hr ?hp (fun _ hk => hk) trivial (Below.refl _ _) (Nat.le_refl _) (by simp) ?_; (case hd => rfl); (case hg => rfl); (case hr => first | (go_simp; done) | (go_simp; rfl)); (case hp => exact (Reps.c2 (show Kd.M k23 _ _ _ (⟨0, 1⟩ : S23) [.int .i64 0, .int .i64 1] from (k23_mkM _ _ _ (⟨0, 1⟩ : S23) )) (Reps.c2 (show Kd.M k23 _ _ _ (⟨1, a0⟩ : S23) [.int .i64 1, .int .i64 a0] from (k23_mkM _ _ _ (⟨1, a0⟩ : S23) )) (Reps.none _ _)))); intro v275 w2 ho3 hb hg_ hnew_; clear hg_ hnew_; (first | rw [← Ny274.out] at ho3 | (simp only [Int.reduceToNat] at ho3; rw [← Ny274.out] at ho3)); have HO276 := Aside0.mk (Kd.R_lower ho3 (below_size (bB HB))); replace HB := bS HB hb; clear hb ho3))
 go_loopg [3] k (fun kq v3 w' => ∃ (x3_1 : List (S23)), Aside0 (galloonref03_Row.l0 kq a0 x3_1 = some r) ∧ Aside0 (kq ≤ k) ∧ Aside0 (Kd.R k23 23 w' w.heap.size (fun _ => True) v3 x3_1) ∧ Aside0 (Below w.heap.size w w'))
 case atStart => exact ⟨(y274), H', ⟨Nat.le_refl _⟩, ⟨by (with_reducible repeat (first | apply Kd.R_alloc | apply Kd.R_drewN | apply Kd.R_drew)); exact HO276.out⟩, bA HB⟩
 case round =>
  clear H'
  try clear p2
  obtain ⟨x3_1, HA, HK1, HO_3, HB⟩ := hrel
  cases gk with
  | zero => exact absurd HA.out (by simp [galloonref03_Row.l0])
  | succ k1 =>
   have H := HA.out
   clear HA
   simp only [galloonref03_Row.l0] at H
   obtain ⟨ji4, hji4⟩ : ∃ j_ : Int, (wrap64 ((x3_1.length : Int) - 1)) = j_ := ⟨_, rfl⟩
   replace H : (if 0 ≤ (ji4) then (if (ji4) < (x3_1.length : Int) then (if ((rd_T23 x3_1 (ji4)).f0) < ((rd_T23 x3_1 (ji4)).f1) then (if 0 ≤ (wrap64 ((x3_1.length : Int) - 2)) then (if (wrap64 ((x3_1.length : Int) - 2)) < (x3_1.length : Int) then (if ((rd_T23 x3_1 (ji4)).f1) = 0 then (none) else (if x3_1.length < 8796093022208 then (galloonref03_Row.l0 k1 a0 (x3_1 ++ [(⟨wrap64 ((wrap64 ((wrap64 (Int.tdiv (wrap64 (a0 + ((rd_T23 x3_1 (wrap64 ((x3_1.length : Int) - 2))).f1))) ((rd_T23 x3_1 (ji4)).f1))) * ((rd_T23 x3_1 (ji4)).f0))) - ((rd_T23 x3_1 (wrap64 ((x3_1.length : Int) - 2))).f0)), wrap64 ((wrap64 ((wrap64 (Int.tdiv (wrap64 (a0 + ((rd_T23 x3_1 (wrap64 ((x3_1.length : Int) - 2))).f1))) ((rd_T23 x3_1 (ji4)).f1))) * ((rd_T23 x3_1 (ji4)).f1))) - ((rd_T23 x3_1 (wrap64 ((x3_1.length : Int) - 2))).f1))⟩ : S23)])) else (none))) else (none)) else (none)) else (some x3_1)) else (none)) else (none)) = some r := by first | (rw [hji4] at H; exact H) | (simp only [hji4] at H ⊢; exact H)
   have hji4w : (IntKind.i64.wrap ((x3_1.length : Int) - 1)) = ji4 := (i64_w _).trans hji4
   by_cases c5 : 0 ≤ (ji4)
   case neg =>
    rw [if_neg c5] at H
    exact absurd H (by simp)
   rw [if_pos c5] at H
   have c5b0 : decide (0 ≤ (ji4)) = true := decide_eq_true c5
   clear c5
   by_cases c6 : (ji4) < (x3_1.length : Int)
   case neg =>
    rw [if_neg c6] at H
    exact absurd H (by simp)
   rw [if_pos c6] at H
   have c6b0 : decide ((ji4) < (x3_1.length : Int)) = true := decide_eq_true c6
   clear c6
   by_cases c7 : ((rd_T23 x3_1 (ji4)).f0) < ((rd_T23 x3_1 (ji4)).f1)
   ·rw [if_pos c7] at H
    have c7b0 : decide (((rd_T23 x3_1 (ji4)).f0) < ((rd_T23 x3_1 (ji4)).f1)) = true := decide_eq_true c7
    clear c7
    obtain ⟨ji8, hji8⟩ : ∃ j_ : Int, (wrap64 ((x3_1.length : Int) - 2)) = j_ := ⟨_, rfl⟩
    replace H : (if 0 ≤ (ji8) then (if (ji8) < (x3_1.length : Int) then (if ((rd_T23 x3_1 (ji4)).f1) = 0 then (none) else (if x3_1.length < 8796093022208 then (galloonref03_Row.l0 k1 a0 (x3_1 ++ [(⟨wrap64 ((wrap64 ((wrap64 (Int.tdiv (wrap64 (a0 + ((rd_T23 x3_1 (ji8)).f1))) ((rd_T23 x3_1 (ji4)).f1))) * ((rd_T23 x3_1 (ji4)).f0))) - ((rd_T23 x3_1 (ji8)).f0)), wrap64 ((wrap64 ((wrap64 (Int.tdiv (wrap64 (a0 + ((rd_T23 x3_1 (ji8)).f1))) ((rd_T23 x3_1 (ji4)).f1))) * ((rd_T23 x3_1 (ji4)).f1))) - ((rd_T23 x3_1 (ji8)).f1))⟩ : S23)])) else (none))) else (none)) else (none)) = some r := by first | (rw [hji8] at H; exact H) | (simp only [hji8] at H ⊢; exact H)
    have hji8w : (IntKind.i64.wrap ((x3_1.length : Int) - 2)) = ji8 := (i64_w _).trans hji8
    by_cases c9 : 0 ≤ (ji8)
    case neg =>
     rw [if_neg c9] at H
     exact absurd H (by simp)
    rw [if_pos c9] at H
    have c9b0 : decide (0 ≤ (ji8)) = true := decide_eq_true c9
    clear c9
    by_cases c10 : (ji8) < (x3_1.length : Int)
    case neg =>
     rw [if_neg c10] at H
     exact absurd H (by simp)
    rw [if_pos c10] at H
    have c10b0 : decide ((ji8) < (x3_1.length : Int)) = true := decide_eq_true c10
    clear c10
    by_cases c11 : ((rd_T23 x3_1 (ji4)).f1) = 0
    ·rw [if_pos c11] at H
     exact absurd H (by simp)
    ·rw [if_neg c11] at H
     have c11b0 : (((rd_T23 x3_1 (ji4)).f1) == 0) = false := beq_eq_false_iff_ne.mpr c11
     have c11b1 : (((rd_T23 x3_1 (ji4)).f1) != 0) = true := bne_iff_ne.mpr c11
     by_cases c12 : x3_1.length < 8796093022208
     case neg =>
      rw [if_neg c12] at H
      exact absurd H (by simp)
     rw [if_pos c12] at H
     have LMc12 := Aside0.mk c12
     clear c12
     obtain ⟨y283, hy283⟩ : ∃ y_ : List (S23), y_ = (x3_1 ++ [(⟨wrap64 ((wrap64 ((wrap64 (Int.tdiv (wrap64 (a0 + ((rd_T23 x3_1 (ji8)).f1))) ((rd_T23 x3_1 (ji4)).f1))) * ((rd_T23 x3_1 (ji4)).f0))) - ((rd_T23 x3_1 (ji8)).f0)), wrap64 ((wrap64 ((wrap64 (Int.tdiv (wrap64 (a0 + ((rd_T23 x3_1 (ji8)).f1))) ((rd_T23 x3_1 (ji4)).f1))) * ((rd_T23 x3_1 (ji4)).f1))) - ((rd_T23 x3_1 (ji8)).f1))⟩ : S23)]) := ⟨_, rfl⟩
     replace H : (galloonref03_Row.l0 k1 a0 y283) = some r := by first | (rw [hy283]; with_reducible exact H) | (have H2_ := (Option.bind_some _ _).symm.trans H; rw [hy283]; with_reducible exact H2_) | (have H2_ := (Option.bind_some _ _).symm.trans H; with_reducible exact H2_) | with_reducible exact H | (rw [hy283]; exact H) | exact H
     have Ny283 := Aside0.mk hy283
     clear hy283
     have H' := Aside0.mk H
     clear H
     try go_wp2
     replace HO_3 := Aside0.mk (Kd.R_drew HO_3.out)
     replace HB := Aside0.mk (below_drew1 HB.out)
     obtain ⟨Ao14, co14, eo14⟩ := Kd.R_slice HO_3.out
     (first | subst eo14 | (injection eo14 with f1_ f2_ f3_; have f4_ := f1_.symm; have f5_ := f3_.symm; clear f1_ f2_ f3_; subst f4_; subst f5_))
     have p277 : 0 ≤ ((ji4) : Int) := oD
     have q277 : (ji4) < (x3_1.length : Int) := oD
     obtain ⟨ad277, e277, hx277_0, hx277_1⟩ := at_T23 (Kd.R_reads' HO_3.out).2.2 (ji4) p277 q277
     cases e277
     replace p277 := eq_true p277
     replace q277 := eq_true q277
     have p278 : 0 ≤ ((ji4) : Int) := oD
     have q278 : (ji4) < (x3_1.length : Int) := oD
     obtain ⟨ad278, e278, hx278_0, hx278_1⟩ := at_T23 (Kd.R_reads' HO_3.out).2.2 (ji4) p278 q278
     obtain rfl : ad277 = ad278 := (by injection e278)
     replace p278 := eq_true p278
     replace q278 := eq_true q278
     refine start_ (n := 15) (S := fun w' => w'.cell? (ad277.add (((ji4)).toNat * 2)) = some (.int .i64 ((rd_T23 x3_1 (ji4)).f0)) ∧ w'.cell? ⟨(ad277.add (((ji4)).toNat * 2)).block, (ad277.add (((ji4)).toNat * 2)).off + 1, none⟩ = some (.int .i64 ((rd_T23 x3_1 (ji4)).f1)) ∧ w'.cell? (ad277.add (((ji4)).toNat * 2)) = some (.int .i64 ((rd_T23 x3_1 (ji4)).f0)) ∧ w'.cell? ⟨(ad277.add (((ji4)).toNat * 2)).block, (ad277.add (((ji4)).toNat * 2)).off + 1, none⟩ = some (.int .i64 ((rd_T23 x3_1 (ji4)).f1))) (ds := []) (lb 15 0) (by kernel_rfl) rfl (by kernel_rfl) ⟨hx277_0, hx277_1, hx278_0, hx278_1⟩ (fun hHeld => ?_); refine with_tabW galloonref03_Row.tab2 galloonref03_Row.bits2 (fun HT_ HW_ => ?_)
     generalize wr.drew = w13 at HO_3 HB hx277_0 hx277_1 hx278_0 hx278_1 hHeld ⊢
     refine pk HT_ 15 1 0 11 (h := ?_)
     refine pk HT_ 15 3 1 12 (h := ?_)
     refine pk HT_ 15 7 2 13 (h := ?_)
     refine pk HT_ 15 15 3 14 (h := ?_)
     refine pk HT_ 15 31 4 15 (h := ?_)
     refine pk HT_ 15 63 5 16 (h := ?_)
     refine pk HT_ 15 191 7 18 (h := ?_)
     refine pk HT_ 15 447 8 19 (h := ?_)
     refine pk HT_ 15 959 9 20 (h := ?_)
     refine pk HT_ 15 0x7bf 10 21 (h := ?_)
     refine pk HT_ 15 0xfbf 11 22 (h := ?_)
     refine pk HT_ 15 0x1fbf 12 23 (h := ?_)
     refine tk4 HT_ HW_ hHeld 15 0x1fff 6 17 (h := ?_)
     refine tk4 HT_ HW_ hHeld 15 0x3fff 13 24 (h := ?_)
     refine pk HT_ 15 0x7fff 14 25 (h := ?_)
     refine done_ (done_of HT_.out (by kernel_rfl)) ?_
     try go_wp2
     replace HO_3 := Aside0.mk (Kd.R_drew HO_3.out)
     replace HB := Aside0.mk (below_drew1 HB.out)
     have p279 : 0 ≤ ((ji8) : Int) := oD
     have q279 : (ji8) < (x3_1.length : Int) := oD
     obtain ⟨ad279, e279, hx279_0, hx279_1⟩ := at_T23 (Kd.R_reads' HO_3.out).2.2 (ji8) p279 q279
     obtain rfl : ad277 = ad279 := (by injection e279)
     replace p279 := eq_true p279
     replace q279 := eq_true q279
     have p280 : 0 ≤ ((ji4) : Int) := oD
     have q280 : (ji4) < (x3_1.length : Int) := oD
     obtain ⟨ad280, e280, hx280_0, hx280_1⟩ := at_T23 (Kd.R_reads' HO_3.out).2.2 (ji4) p280 q280
     obtain rfl : ad277 = ad280 := (by injection e280)
     replace p280 := eq_true p280
     replace q280 := eq_true q280
     refine start_ (n := 16) (S := fun w' => w'.cell? (ad277.add (((ji8)).toNat * 2)) = some (.int .i64 ((rd_T23 x3_1 (ji8)).f0)) ∧ w'.cell? ⟨(ad277.add (((ji8)).toNat * 2)).block, (ad277.add (((ji8)).toNat * 2)).off + 1, none⟩ = some (.int .i64 ((rd_T23 x3_1 (ji8)).f1)) ∧ w'.cell? (ad277.add (((ji4)).toNat * 2)) = some (.int .i64 ((rd_T23 x3_1 (ji4)).f0)) ∧ w'.cell? ⟨(ad277.add (((ji4)).toNat * 2)).block, (ad277.add (((ji4)).toNat * 2)).off + 1, none⟩ = some (.int .i64 ((rd_T23 x3_1 (ji4)).f1))) (ds := []) (lb 16 0) (by kernel_rfl) rfl (by kernel_rfl) ⟨hx279_0, hx279_1, hx280_0, hx280_1⟩ (fun hHeld => ?_); refine with_tabW galloonref03_Row.tab3 galloonref03_Row.bits3 (fun HT_ HW_ => ?_)
     generalize w13.drew = w15 at HO_3 HB hx279_0 hx279_1 hx280_0 hx280_1 hHeld ⊢
     refine pk HT_ 16 1 0 26 (h := ?_)
     refine pk HT_ 16 3 1 27 (h := ?_)
     refine pk HT_ 16 7 2 28 (h := ?_)
     refine pk HT_ 16 15 3 29 (h := ?_)
     refine pk HT_ 16 31 4 30 (h := ?_)
     refine pk HT_ 16 95 6 32 (h := ?_)
     refine pk HT_ 16 223 7 33 (h := ?_)
     refine pk HT_ 16 479 8 34 (h := ?_)
     refine pk HT_ 16 991 9 35 (h := ?_)
     refine pk HT_ 16 0x7df 10 36 (h := ?_)
     refine tk4 HT_ HW_ hHeld 16 0x7ff 5 31 (h := ?_)
     refine tk4 HT_ HW_ hHeld 16 0xfff 11 37 (h := ?_)
     refine join_ (σ := Nat × Nat) 2 (lb 16 0x3fff) (fun s_ => [(4, .pointer (some ⟨s_.1, 0, none⟩)), (5, .pointer (some ⟨s_.2, 0, none⟩))]) (fun s_ w' => (w'.cell? (ad277.add (((ji8)).toNat * 2)) = some (.int .i64 ((rd_T23 x3_1 (ji8)).f0)) ∧ w'.cell? ⟨(ad277.add (((ji8)).toNat * 2)).block, (ad277.add (((ji8)).toNat * 2)).off + 1, none⟩ = some (.int .i64 ((rd_T23 x3_1 (ji8)).f1)) ∧ w'.cell? (ad277.add (((ji4)).toNat * 2)) = some (.int .i64 ((rd_T23 x3_1 (ji4)).f0)) ∧ w'.cell? ⟨(ad277.add (((ji4)).toNat * 2)).block, (ad277.add (((ji4)).toNat * 2)).off + 1, none⟩ = some (.int .i64 ((rd_T23 x3_1 (ji4)).f1))) ∧ (Kd.R k23 23 w' w.heap.size (fun k_ => k_ ≠ s_.1 ∧ k_ ≠ s_.2) (.slice (some ad277) x3_1.length co14) x3_1) ∧ (w'.heap[s_.1]? = some (.cells #[.int .i64 0, .int .i64 0] 23 (0, 0))) ∧ (w'.heap[s_.2]? = some (.cells #[.int .i64 0, .int .i64 0] 23 (0, 0))) ∧ (w.heap.size ≤ s_.1) ∧ (w.heap.size ≤ s_.1) ∧ (s_.2 ≠ s_.1) ∧ (s_.1 ≠ s_.2) ∧ (w.heap.size ≤ s_.2) ∧ (w.heap.size ≤ s_.2) ∧ (Below w.heap.size w w')) ?_ ?_
     rotate_left
     ·intro hCont
      refine two_ (i := 12) (j := 13) (Ni := some 4) (Nj := some 5) (lb 16 0x1fff) (lb 16 0x2fff) rfl rfl rfl rfl (two_of HT_.out (by kernel_rfl)) (by decide) (by decide) (fun K hK => ?_) (fun K hK => ?_)
      ·skip
       refine box_step ?hg (N := 4) ?hd (cs := #[.int .i64 0, .int .i64 0]) (t := 23) ?hr ?_; (case hd => rfl); (case hg => rfl); (case hr => first | (go_simp; done) | (go_simp; rfl))
       intro gb281 hg w16 hbox hb
       have HS0_ := cS hHeld.1 hb
       have HS1_ := cS hHeld.2.1 hb
       have HS2_ := cS hHeld.2.2.1 hb
       have HS3_ := cS hHeld.2.2.2 hb
       replace HO_3 := Aside0.mk (Kd.R_below (Kd.R_elderB (by (with_reducible repeat (first | apply Kd.R_alloc | apply Kd.R_drewN | apply Kd.R_drew)); exact HO_3.out) gb281 (Nat.le_of_eq hg.symm)) hb)
       have BK281 := Aside0.mk (hbox)
       have GW281 := bG HB hg
       have GE281 := bG HB hg
       replace HB := bS HB hb
       clear hb hbox hg
       refine hK.out _ _ ⟨HS0_, HS1_, HS2_, HS3_⟩ (fun hHeld => ?_)
       clear hK K
       refine norm_ (a' := ?_) ?_ ?_
       rotate_left
       ·show Act.put _ (some 4) _ = _
        simp only [Act.put, List.setIfInBounds_toArray, List.set_cons_zero, List.set_cons_succ, i64_w, i32_w]
        rfl
       refine one_ (i := 13) (N := some 5) (lb 16 0x3fff) rfl rfl (one_of HT_.out (by kernel_rfl)) (by decide) (fun K hK => ?_)
       refine box_step ?hg (N := 5) ?hd (cs := #[.int .i64 0, .int .i64 0]) (t := 23) ?hr ?_; (case hd => rfl); (case hg => rfl); (case hr => first | (go_simp; done) | (go_simp; rfl))
       intro gb282 hg w17 hbox hb
       have HS0_ := cS hHeld.1 hb
       have HS1_ := cS hHeld.2.1 hb
       have HS2_ := cS hHeld.2.2.1 hb
       have HS3_ := cS hHeld.2.2.2 hb
       replace HO_3 := Aside0.mk (Kd.R_below (Kd.R_elderB (by (with_reducible repeat (first | apply Kd.R_alloc | apply Kd.R_drewN | apply Kd.R_drew)); exact HO_3.out) gb282 (Nat.le_of_eq hg.symm)) hb)
       have BK282 := Aside0.mk (hbox)
       have GW282 := bG HB hg
       have GE282 := bG HB hg
       replace HB := bS HB hb
       have NB281_282 := nL BK281 hg
       have NB282_281 := nG BK281 hg
       replace BK281 := kB BK281 hb
       clear hb hbox hg
       refine hK.out _ _ ⟨HS0_, HS1_, HS2_, HS3_⟩ (fun hHeld => ?_)
       clear hK K
       refine norm_ (a' := ?_) ?_ ?_
       rotate_left
       ·show Act.put _ (some 5) _ = _
        simp only [Act.put, List.setIfInBounds_toArray, List.set_cons_zero, List.set_cons_succ, i64_w, i32_w]
        rfl
       exact norm_ (by simp only [putAll, Act.put, List.setIfInBounds_toArray, List.set_cons_zero, List.set_cons_succ]) (hCont (gb281, gb282) _ ⟨hHeld, (by (with_reducible repeat (first | apply Kd.R_alloc | apply Kd.R_drewN | apply Kd.R_drew)); exact Kd.R_mono HO_3.out (fun _ hk => ⟨hk.1.2, hk.2⟩)), (kb BK281), (kb BK282), GW281.out, GE281.out, NB282_281.out, NB281_282.out, GW282.out, GE282.out, (bB HB)⟩)
      ·skip
       refine box_step ?hg (N := 5) ?hd (cs := #[.int .i64 0, .int .i64 0]) (t := 23) ?hr ?_; (case hd => rfl); (case hg => rfl); (case hr => first | (go_simp; done) | (go_simp; rfl))
       intro gb282 hg w16 hbox hb
       have HS0_ := cS hHeld.1 hb
       have HS1_ := cS hHeld.2.1 hb
       have HS2_ := cS hHeld.2.2.1 hb
       have HS3_ := cS hHeld.2.2.2 hb
       replace HO_3 := Aside0.mk (Kd.R_below (Kd.R_elderB (by (with_reducible repeat (first | apply Kd.R_alloc | apply Kd.R_drewN | apply Kd.R_drew)); exact HO_3.out) gb282 (Nat.le_of_eq hg.symm)) hb)
       have BK282 := Aside0.mk (hbox)
       have GW282 := bG HB hg
       have GE282 := bG HB hg
       replace HB := bS HB hb
       clear hb hbox hg
       refine hK.out _ _ ⟨HS0_, HS1_, HS2_, HS3_⟩ (fun hHeld => ?_)
       clear hK K
       refine norm_ (a' := ?_) ?_ ?_
       rotate_left
       ·show Act.put _ (some 5) _ = _
        simp only [Act.put, List.setIfInBounds_toArray, List.set_cons_zero, List.set_cons_succ, i64_w, i32_w]
        rfl
       refine one_ (i := 12) (N := some 4) (lb 16 0x3fff) rfl rfl (one_of HT_.out (by kernel_rfl)) (by decide) (fun K hK => ?_)
       refine box_step ?hg (N := 4) ?hd (cs := #[.int .i64 0, .int .i64 0]) (t := 23) ?hr ?_; (case hd => rfl); (case hg => rfl); (case hr => first | (go_simp; done) | (go_simp; rfl))
       intro gb281 hg w17 hbox hb
       have HS0_ := cS hHeld.1 hb
       have HS1_ := cS hHeld.2.1 hb
       have HS2_ := cS hHeld.2.2.1 hb
       have HS3_ := cS hHeld.2.2.2 hb
       replace HO_3 := Aside0.mk (Kd.R_below (Kd.R_elderB (by (with_reducible repeat (first | apply Kd.R_alloc | apply Kd.R_drewN | apply Kd.R_drew)); exact HO_3.out) gb281 (Nat.le_of_eq hg.symm)) hb)
       have BK281 := Aside0.mk (hbox)
       have GW281 := bG HB hg
       have GE281 := bG HB hg
       replace HB := bS HB hb
       have NB282_281 := nL BK282 hg
       have NB281_282 := nG BK282 hg
       replace BK282 := kB BK282 hb
       clear hb hbox hg
       refine hK.out _ _ ⟨HS0_, HS1_, HS2_, HS3_⟩ (fun hHeld => ?_)
       clear hK K
       refine norm_ (a' := ?_) ?_ ?_
       rotate_left
       ·show Act.put _ (some 4) _ = _
        simp only [Act.put, List.setIfInBounds_toArray, List.set_cons_zero, List.set_cons_succ, i64_w, i32_w]
        rfl
       exact norm_ (by simp only [putAll, Act.put, List.setIfInBounds_toArray, List.set_cons_zero, List.set_cons_succ]) (hCont (gb281, gb282) _ ⟨hHeld, (by (with_reducible repeat (first | apply Kd.R_alloc | apply Kd.R_drewN | apply Kd.R_drew)); exact Kd.R_mono HO_3.out (fun _ hk => ⟨hk.2, hk.1.2⟩)), (kb BK281), (kb BK282), GW281.out, GE281.out, NB282_281.out, NB281_282.out, GW282.out, GE282.out, (bB HB)⟩)
     rintro ⟨gb281, gb282⟩ w18 ⟨hS_, h0_, h1_, h2_, h3_, h4_, h5_, h6_, h7_, h8_, h9_⟩
     have n0_ : Aside0 (Kd.R k23 23 w18 w.heap.size (fun k_ => k_ ≠ gb281 ∧ k_ ≠ gb282) (.slice (some ad277) x3_1.length co14) x3_1) := ⟨h0_⟩
     have n1_ : Aside0 (w18.heap[gb281]? = some (.cells #[.int .i64 0, .int .i64 0] 23 (0, 0))) := ⟨h1_⟩
     have n2_ : Aside0 (w18.heap[gb282]? = some (.cells #[.int .i64 0, .int .i64 0] 23 (0, 0))) := ⟨h2_⟩
     have n3_ : Aside0 (w.heap.size ≤ gb281) := ⟨h3_⟩
     have n4_ : Aside0 (w.heap.size ≤ gb281) := ⟨h4_⟩
     have n5_ : Aside0 (gb282 ≠ gb281) := ⟨h5_⟩
     have n6_ : Aside0 (gb281 ≠ gb282) := ⟨h6_⟩
     have n7_ : Aside0 (w.heap.size ≤ gb282) := ⟨h7_⟩
     have n8_ : Aside0 (w.heap.size ≤ gb282) := ⟨h8_⟩
     have n9_ : Aside0 (Below w.heap.size w w18) := ⟨h9_⟩
     clear HO_3
     clear HB
     clear h0_ h1_ h2_ h3_ h4_ h5_ h6_ h7_ h8_ h9_
     have HO_3 := n0_
     have BK281 := n1_
     have BK282 := n2_
     have GW281 := n3_
     have GE281 := n4_
     have NB282_281 := n5_
     have NB281_282 := n6_
     have GW282 := n7_
     have GE282 := n8_
     have HB := n9_
     clear n0_ n1_ n2_ n3_ n4_ n5_ n6_ n7_ n8_ n9_
     have hHeld : w18.cell? (ad277.add (((ji8)).toNat * 2)) = some (.int .i64 ((rd_T23 x3_1 (ji8)).f0)) ∧ w18.cell? ⟨(ad277.add (((ji8)).toNat * 2)).block, (ad277.add (((ji8)).toNat * 2)).off + 1, none⟩ = some (.int .i64 ((rd_T23 x3_1 (ji8)).f1)) ∧ w18.cell? (ad277.add (((ji4)).toNat * 2)) = some (.int .i64 ((rd_T23 x3_1 (ji4)).f0)) ∧ w18.cell? ⟨(ad277.add (((ji4)).toNat * 2)).block, (ad277.add (((ji4)).toNat * 2)).off + 1, none⟩ = some (.int .i64 ((rd_T23 x3_1 (ji4)).f1)) := hS_
     refine norm_ (a' := ?_) ?_ ?_
     rotate_left
     ·simp only [putAll, Act.put, List.setIfInBounds_toArray, List.set_cons_zero, List.set_cons_succ]
      rfl
     refine one_ (i := 14) (N := none) (lb 16 0x7fff) rfl rfl (one_of HT_.out (by kernel_rfl)) (by decide) (fun K hK => ?_)
     have hs19 : w18.cell? ⟨gb281, 0, none⟩ = some (.int .i64 0) := (blk_cell BK281.out 0).trans rfl
     have hfs19 := blk_frozen BK281.out 0
     have hns19_1 := NB282_281.out
     have hms19_1 := NB281_282.out
     have hs20 : w18.cell? ⟨gb281, 1, none⟩ = some (.int .i64 0) := (blk_cell BK281.out 1).trans rfl
     have hfs20 := blk_frozen BK281.out 1
     have hns20_1 := NB282_281.out
     have hms20_1 := NB281_282.out
     refine skip_ (w1 := ?_) (by rfl) rfl ?_ ?_
     rotate_left
     ·go_simp
      rfl
     refine hK.out _ _ ⟨((cell_far (p := ⟨gb281, _, none⟩) (by first | exact Kd.own_blk (Kd.R_away HO_3.out (fun _ hk => hk.1)) | (rw [add_block]; exact Kd.own_blk (Kd.R_away HO_3.out (fun _ hk => hk.1))) | (show (Addr.add _ _).block ≠ _; rw [add_block]; exact Kd.own_blk (Kd.R_away HO_3.out (fun _ hk => hk.1))) | (dsimp only; exact Kd.own_blk (Kd.R_away HO_3.out (fun _ hk => hk.1)))) _).trans (((cell_far (p := ⟨gb281, _, none⟩) (by first | exact Kd.own_blk (Kd.R_away HO_3.out (fun _ hk => hk.1)) | (rw [add_block]; exact Kd.own_blk (Kd.R_away HO_3.out (fun _ hk => hk.1))) | (show (Addr.add _ _).block ≠ _; rw [add_block]; exact Kd.own_blk (Kd.R_away HO_3.out (fun _ hk => hk.1))) | (dsimp only; exact Kd.own_blk (Kd.R_away HO_3.out (fun _ hk => hk.1)))) _).trans (hHeld.1)))), ((cell_far (p := ⟨gb281, _, none⟩) (by first | exact Kd.own_blk (Kd.R_away HO_3.out (fun _ hk => hk.1)) | (rw [add_block]; exact Kd.own_blk (Kd.R_away HO_3.out (fun _ hk => hk.1))) | (show (Addr.add _ _).block ≠ _; rw [add_block]; exact Kd.own_blk (Kd.R_away HO_3.out (fun _ hk => hk.1))) | (dsimp only; exact Kd.own_blk (Kd.R_away HO_3.out (fun _ hk => hk.1)))) _).trans (((cell_far (p := ⟨gb281, _, none⟩) (by first | exact Kd.own_blk (Kd.R_away HO_3.out (fun _ hk => hk.1)) | (rw [add_block]; exact Kd.own_blk (Kd.R_away HO_3.out (fun _ hk => hk.1))) | (show (Addr.add _ _).block ≠ _; rw [add_block]; exact Kd.own_blk (Kd.R_away HO_3.out (fun _ hk => hk.1))) | (dsimp only; exact Kd.own_blk (Kd.R_away HO_3.out (fun _ hk => hk.1)))) _).trans (hHeld.2.1)))), ((cell_far (p := ⟨gb281, _, none⟩) (by first | exact Kd.own_blk (Kd.R_away HO_3.out (fun _ hk => hk.1)) | (rw [add_block]; exact Kd.own_blk (Kd.R_away HO_3.out (fun _ hk => hk.1))) | (show (Addr.add _ _).block ≠ _; rw [add_block]; exact Kd.own_blk (Kd.R_away HO_3.out (fun _ hk => hk.1))) | (dsimp only; exact Kd.own_blk (Kd.R_away HO_3.out (fun _ hk => hk.1)))) _).trans (((cell_far (p := ⟨gb281, _, none⟩) (by first | exact Kd.own_blk (Kd.R_away HO_3.out (fun _ hk => hk.1)) | (rw [add_block]; exact Kd.own_blk (Kd.R_away HO_3.out (fun _ hk => hk.1))) | (show (Addr.add _ _).block ≠ _; rw [add_block]; exact Kd.own_blk (Kd.R_away HO_3.out (fun _ hk => hk.1))) | (dsimp only; exact Kd.own_blk (Kd.R_away HO_3.out (fun _ hk => hk.1)))) _).trans (hHeld.2.2.1)))), ((cell_far (p := ⟨gb281, _, none⟩) (by first | exact Kd.own_blk (Kd.R_away HO_3.out (fun _ hk => hk.1)) | (rw [add_block]; exact Kd.own_blk (Kd.R_away HO_3.out (fun _ hk => hk.1))) | (show (Addr.add _ _).block ≠ _; rw [add_block]; exact Kd.own_blk (Kd.R_away HO_3.out (fun _ hk => hk.1))) | (dsimp only; exact Kd.own_blk (Kd.R_away HO_3.out (fun _ hk => hk.1)))) _).trans (((cell_far (p := ⟨gb281, _, none⟩) (by first | exact Kd.own_blk (Kd.R_away HO_3.out (fun _ hk => hk.1)) | (rw [add_block]; exact Kd.own_blk (Kd.R_away HO_3.out (fun _ hk => hk.1))) | (show (Addr.add _ _).block ≠ _; rw [add_block]; exact Kd.own_blk (Kd.R_away HO_3.out (fun _ hk => hk.1))) | (dsimp only; exact Kd.own_blk (Kd.R_away HO_3.out (fun _ hk => hk.1)))) _).trans (hHeld.2.2.2))))⟩ (fun hHeld => ?_)
     clear hK K
     refine one_ (i := 15) (N := none) (lb 16 0xffff) rfl rfl (one_of HT_.out (by kernel_rfl)) (by decide) (fun K hK => ?_)
     have hs21 : w18.cell? ⟨gb282, 0, none⟩ = some (.int .i64 0) := (blk_cell BK282.out 0).trans rfl
     have hfs21 := blk_frozen BK282.out 0
     have hns21_0 := NB281_282.out
     have hms21_0 := NB282_281.out
     have hs22 : w18.cell? ⟨gb282, 1, none⟩ = some (.int .i64 0) := (blk_cell BK282.out 1).trans rfl
     have hfs22 := blk_frozen BK282.out 1
     have hns22_0 := NB281_282.out
     have hms22_0 := NB282_281.out
     refine skip_ (w1 := ?_) (by rfl) rfl ?_ ?_
     rotate_left
     ·go_simp
      rfl
     refine hK.out _ _ ⟨((cell_far (p := ⟨gb282, _, none⟩) (by first | exact Kd.own_blk (Kd.R_away HO_3.out (fun _ hk => hk.2)) | (rw [add_block]; exact Kd.own_blk (Kd.R_away HO_3.out (fun _ hk => hk.2))) | (show (Addr.add _ _).block ≠ _; rw [add_block]; exact Kd.own_blk (Kd.R_away HO_3.out (fun _ hk => hk.2))) | (dsimp only; exact Kd.own_blk (Kd.R_away HO_3.out (fun _ hk => hk.2)))) _).trans (((cell_far (p := ⟨gb282, _, none⟩) (by first | exact Kd.own_blk (Kd.R_away HO_3.out (fun _ hk => hk.2)) | (rw [add_block]; exact Kd.own_blk (Kd.R_away HO_3.out (fun _ hk => hk.2))) | (show (Addr.add _ _).block ≠ _; rw [add_block]; exact Kd.own_blk (Kd.R_away HO_3.out (fun _ hk => hk.2))) | (dsimp only; exact Kd.own_blk (Kd.R_away HO_3.out (fun _ hk => hk.2)))) _).trans (hHeld.1)))), ((cell_far (p := ⟨gb282, _, none⟩) (by first | exact Kd.own_blk (Kd.R_away HO_3.out (fun _ hk => hk.2)) | (rw [add_block]; exact Kd.own_blk (Kd.R_away HO_3.out (fun _ hk => hk.2))) | (show (Addr.add _ _).block ≠ _; rw [add_block]; exact Kd.own_blk (Kd.R_away HO_3.out (fun _ hk => hk.2))) | (dsimp only; exact Kd.own_blk (Kd.R_away HO_3.out (fun _ hk => hk.2)))) _).trans (((cell_far (p := ⟨gb282, _, none⟩) (by first | exact Kd.own_blk (Kd.R_away HO_3.out (fun _ hk => hk.2)) | (rw [add_block]; exact Kd.own_blk (Kd.R_away HO_3.out (fun _ hk => hk.2))) | (show (Addr.add _ _).block ≠ _; rw [add_block]; exact Kd.own_blk (Kd.R_away HO_3.out (fun _ hk => hk.2))) | (dsimp only; exact Kd.own_blk (Kd.R_away HO_3.out (fun _ hk => hk.2)))) _).trans (hHeld.2.1)))), ((cell_far (p := ⟨gb282, _, none⟩) (by first | exact Kd.own_blk (Kd.R_away HO_3.out (fun _ hk => hk.2)) | (rw [add_block]; exact Kd.own_blk (Kd.R_away HO_3.out (fun _ hk => hk.2))) | (show (Addr.add _ _).block ≠ _; rw [add_block]; exact Kd.own_blk (Kd.R_away HO_3.out (fun _ hk => hk.2))) | (dsimp only; exact Kd.own_blk (Kd.R_away HO_3.out (fun _ hk => hk.2)))) _).trans (((cell_far (p := ⟨gb282, _, none⟩) (by first | exact Kd.own_blk (Kd.R_away HO_3.out (fun _ hk => hk.2)) | (rw [add_block]; exact Kd.own_blk (Kd.R_away HO_3.out (fun _ hk => hk.2))) | (show (Addr.add _ _).block ≠ _; rw [add_block]; exact Kd.own_blk (Kd.R_away HO_3.out (fun _ hk => hk.2))) | (dsimp only; exact Kd.own_blk (Kd.R_away HO_3.out (fun _ hk => hk.2)))) _).trans (hHeld.2.2.1)))), ((cell_far (p := ⟨gb282, _, none⟩) (by first | exact Kd.own_blk (Kd.R_away HO_3.out (fun _ hk => hk.2)) | (rw [add_block]; exact Kd.own_blk (Kd.R_away HO_3.out (fun _ hk => hk.2))) | (show (Addr.add _ _).block ≠ _; rw [add_block]; exact Kd.own_blk (Kd.R_away HO_3.out (fun _ hk => hk.2))) | (dsimp only; exact Kd.own_blk (Kd.R_away HO_3.out (fun _ hk => hk.2)))) _).trans (((cell_far (p := ⟨gb282, _, none⟩) (by first | exact Kd.own_blk (Kd.R_away HO_3.out (fun _ hk => hk.2)) | (rw [add_block]; exact Kd.own_blk (Kd.R_away HO_3.out (fun _ hk => hk.2))) | (show (Addr.add _ _).block ≠ _; rw [add_block]; exact Kd.own_blk (Kd.R_away HO_3.out (fun _ hk => hk.2))) | (dsimp only; exact Kd.own_blk (Kd.R_away HO_3.out (fun _ hk => hk.2)))) _).trans (hHeld.2.2.2))))⟩ (fun hHeld => ?_)
     clear hK K
     refine done_ (done_of HT_.out (by kernel_rfl)) ?_
     have hnb23 := NB281_282.out
     have hnc23 := NB282_281.out
     obtain ⟨hcz24_0, hcz24_1, hfz24_0, hfz24_1⟩ := cQ BK281
     obtain ⟨hcz25_0, hcz25_1, hfz25_0, hfz25_1⟩ := cQ BK282
     try go_wp2_with (first | ((with_reducible refine gate_builtin (b := .append) (xs := #[.tmp 45, .tmp 61]) rfl ?_); at_builtin; refine Kd.R_append k23 (w0 := w) w.heap.size rfl (.tmp 45) (.tmp 61) 54 23 (.agg #[(.int .i64 0), (.int .i64 0)]) 16 rfl Try.underlying54 info23 rfl (by decide) (by omega) (.slice (some ad277) x3_1.length co14) x3_1 (⟨wrap64 ((wrap64 ((wrap64 (Int.tdiv (wrap64 (a0 + ((rd_T23 x3_1 (ji8)).f1))) ((rd_T23 x3_1 (ji4)).f1))) * ((rd_T23 x3_1 (ji4)).f0))) - ((rd_T23 x3_1 (ji8)).f0)), wrap64 ((wrap64 ((wrap64 (Int.tdiv (wrap64 (a0 + ((rd_T23 x3_1 (ji8)).f1))) ((rd_T23 x3_1 (ji4)).f1))) * ((rd_T23 x3_1 (ji4)).f1))) - ((rd_T23 x3_1 (ji8)).f1))⟩ : S23) [.int .i64 (wrap64 ((wrap64 ((wrap64 (Int.tdiv (wrap64 (a0 + ((rd_T23 x3_1 (ji8)).f1))) ((rd_T23 x3_1 (ji4)).f1))) * ((rd_T23 x3_1 (ji4)).f0))) - ((rd_T23 x3_1 (ji8)).f0))), .int .i64 (wrap64 ((wrap64 ((wrap64 (Int.tdiv (wrap64 (a0 + ((rd_T23 x3_1 (ji8)).f1))) ((rd_T23 x3_1 (ji4)).f1))) * ((rd_T23 x3_1 (ji4)).f1))) - ((rd_T23 x3_1 (ji8)).f1)))] (fun k_ => k_ ≠ gb281 ∧ k_ ≠ gb282) (fun _ => False) rfl (by first | (go_simp; done) | (go_simp; rfl)) ?aP (fun _ hk => hk.elim) ?aF ?aO ?aB ?aS ?aL ?_; (case aP => exact k23_mkM _ _ _ (⟨wrap64 ((wrap64 ((wrap64 (Int.tdiv (wrap64 (a0 + ((rd_T23 x3_1 (ji8)).f1))) ((rd_T23 x3_1 (ji4)).f1))) * ((rd_T23 x3_1 (ji4)).f0))) - ((rd_T23 x3_1 (ji8)).f0)), wrap64 ((wrap64 ((wrap64 (Int.tdiv (wrap64 (a0 + ((rd_T23 x3_1 (ji8)).f1))) ((rd_T23 x3_1 (ji4)).f1))) * ((rd_T23 x3_1 (ji4)).f1))) - ((rd_T23 x3_1 (ji8)).f1))⟩ : S23)); (case aB => exact (bB HB)); (case aF => exact (fun k_ hk => ⟨Kd.freshB (g := gb281) (o := .cells #[.int .i64 ((rd_T23 x3_1 (ji8)).f0), .int .i64 ((rd_T23 x3_1 (ji8)).f1)] 23 (0, 0)) (by (with_reducible repeat (first | refine blk_drewN ?_ _ | refine blk_drew ?_ | refine blk_alloc ?_ _)); refine blk_far ?_ NB281_282.out _; (with_reducible repeat (first | refine blk_drewN ?_ _ | refine blk_drew ?_ | refine blk_alloc ?_ _)); refine blk_far ?_ NB281_282.out _; (with_reducible repeat (first | refine blk_drewN ?_ _ | refine blk_drew ?_ | refine blk_alloc ?_ _)); refine blk_put (cs := #[.int .i64 ((rd_T23 x3_1 (ji8)).f0), .int .i64 0]) ?_ 1 _ rfl; (with_reducible repeat (first | refine blk_drewN ?_ _ | refine blk_drew ?_ | refine blk_alloc ?_ _)); refine blk_put (cs := #[.int .i64 0, .int .i64 0]) ?_ 0 _ rfl; (with_reducible repeat (first | refine blk_drewN ?_ _ | refine blk_drew ?_ | refine blk_alloc ?_ _)); exact BK281.out) k_ hk, Kd.freshB (g := gb282) (o := .cells #[.int .i64 ((rd_T23 x3_1 (ji4)).f0), .int .i64 ((rd_T23 x3_1 (ji4)).f1)] 23 (0, 0)) (by (with_reducible repeat (first | refine blk_drewN ?_ _ | refine blk_drew ?_ | refine blk_alloc ?_ _)); refine blk_put (cs := #[.int .i64 ((rd_T23 x3_1 (ji4)).f0), .int .i64 0]) ?_ 1 _ rfl; (with_reducible repeat (first | refine blk_drewN ?_ _ | refine blk_drew ?_ | refine blk_alloc ?_ _)); refine blk_put (cs := #[.int .i64 0, .int .i64 0]) ?_ 0 _ rfl; (with_reducible repeat (first | refine blk_drewN ?_ _ | refine blk_drew ?_ | refine blk_alloc ?_ _)); refine blk_far ?_ NB282_281.out _; (with_reducible repeat (first | refine blk_drewN ?_ _ | refine blk_drew ?_ | refine blk_alloc ?_ _)); refine blk_far ?_ NB282_281.out _; (with_reducible repeat (first | refine blk_drewN ?_ _ | refine blk_drew ?_ | refine blk_alloc ?_ _)); exact BK282.out) k_ hk⟩)); (case aO => exact (by (with_reducible repeat (first | apply Kd.R_alloc | apply Kd.R_drewN | apply Kd.R_drew)); exact Kd.R_mono (Kd.R_far (p := ⟨gb282, 1, none⟩) (Kd.R_far (p := ⟨gb282, 0, none⟩) (Kd.R_far (p := ⟨gb281, 1, none⟩) (Kd.R_far (p := ⟨gb281, 0, none⟩) (Kd.R_mono (Kd.R_mono HO_3.out (fun k_ hk => (⟨hk, hk.1⟩ : _ ∧ k_ ≠ gb281))) (fun k_ hk => (⟨hk, hk.1.2⟩ : _ ∧ k_ ≠ gb282))) (fun _ hk => hk.1.2) (.int .i64 ((rd_T23 x3_1 (ji8)).f0))) (fun _ hk => hk.1.2) (.int .i64 ((rd_T23 x3_1 (ji8)).f1))) (fun _ hk => hk.2) (.int .i64 ((rd_T23 x3_1 (ji4)).f0))) (fun _ hk => hk.2) (.int .i64 ((rd_T23 x3_1 (ji4)).f1))) (fun _ hk => ⟨hk.1.1.1, hk.1.1.2⟩))); (case aS => exact (below_size (bB HB))); (case aL => have := LMc12.out; omega); intro v284 w26 ho hb hg hat; rw [← Ny283.out] at ho; replace BK281 := Aside0.mk (blk_grown (g := gb281) (o := .cells #[.int .i64 ((rd_T23 x3_1 (ji8)).f0), .int .i64 ((rd_T23 x3_1 (ji8)).f1)] 23 (0, 0)) (by (with_reducible repeat (first | refine blk_drewN ?_ _ | refine blk_drew ?_ | refine blk_alloc ?_ _)); refine blk_far ?_ NB281_282.out _; (with_reducible repeat (first | refine blk_drewN ?_ _ | refine blk_drew ?_ | refine blk_alloc ?_ _)); refine blk_far ?_ NB281_282.out _; (with_reducible repeat (first | refine blk_drewN ?_ _ | refine blk_drew ?_ | refine blk_alloc ?_ _)); refine blk_put (cs := #[.int .i64 ((rd_T23 x3_1 (ji8)).f0), .int .i64 0]) ?_ 1 _ rfl; (with_reducible repeat (first | refine blk_drewN ?_ _ | refine blk_drew ?_ | refine blk_alloc ?_ _)); refine blk_put (cs := #[.int .i64 0, .int .i64 0]) ?_ 0 _ rfl; (with_reducible repeat (first | refine blk_drewN ?_ _ | refine blk_drew ?_ | refine blk_alloc ?_ _)); exact BK281.out) hg (Kd.R_away HO_3.out (fun _ hk => hk.1))); replace BK282 := Aside0.mk (blk_grown (g := gb282) (o := .cells #[.int .i64 ((rd_T23 x3_1 (ji4)).f0), .int .i64 ((rd_T23 x3_1 (ji4)).f1)] 23 (0, 0)) (by (with_reducible repeat (first | refine blk_drewN ?_ _ | refine blk_drew ?_ | refine blk_alloc ?_ _)); refine blk_put (cs := #[.int .i64 ((rd_T23 x3_1 (ji4)).f0), .int .i64 0]) ?_ 1 _ rfl; (with_reducible repeat (first | refine blk_drewN ?_ _ | refine blk_drew ?_ | refine blk_alloc ?_ _)); refine blk_put (cs := #[.int .i64 0, .int .i64 0]) ?_ 0 _ rfl; (with_reducible repeat (first | refine blk_drewN ?_ _ | refine blk_drew ?_ | refine blk_alloc ?_ _)); refine blk_far ?_ NB282_281.out _; (with_reducible repeat (first | refine blk_drewN ?_ _ | refine blk_drew ?_ | refine blk_alloc ?_ _)); refine blk_far ?_ NB282_281.out _; (with_reducible repeat (first | refine blk_drewN ?_ _ | refine blk_drew ?_ | refine blk_alloc ?_ _)); exact BK282.out) hg (Kd.R_away HO_3.out (fun _ hk => hk.2))); replace HB := Aside0.mk (hb); have HO285 := Aside0.mk (ho); clear HO_3; clear ho hb hg hat))
     go_roundg k1
     case measure => have := HK1.out; omega
     case rel => exact ⟨(y283), H', ⟨by have := HK1.out; omega⟩, ⟨by (with_reducible repeat (first | apply Kd.R_alloc | apply Kd.R_drewN | apply Kd.R_drew)); exact Kd.R_mono HO285.out (fun _ hk => trivial)⟩, bA HB⟩
   ·rw [if_neg c7] at H
    have c7b0 : decide (((rd_T23 x3_1 (ji4)).f0) < ((rd_T23 x3_1 (ji4)).f1)) = false := decide_eq_false c7
    clear c7
    obtain rfl := Option.some.inj H
    try go_wp2
    replace HO_3 := Aside0.mk (Kd.R_drew HO_3.out)
    replace HB := Aside0.mk (below_drew1 HB.out)
    obtain ⟨Ao28, co28, eo28⟩ := Kd.R_slice HO_3.out
    (first | subst eo28 | (injection eo28 with f1_ f2_ f3_; have f4_ := f1_.symm; have f5_ := f3_.symm; clear f1_ f2_ f3_; subst f4_; subst f5_))
    have p277 : 0 ≤ ((ji4) : Int) := oD
    have q277 : (ji4) < (x3_1.length : Int) := oD
    obtain ⟨ad277, e277, hx277_0, hx277_1⟩ := at_T23 (Kd.R_reads' HO_3.out).2.2 (ji4) p277 q277
    cases e277
    replace p277 := eq_true p277
    replace q277 := eq_true q277
    have p278 : 0 ≤ ((ji4) : Int) := oD
    have q278 : (ji4) < (x3_1.length : Int) := oD
    obtain ⟨ad278, e278, hx278_0, hx278_1⟩ := at_T23 (Kd.R_reads' HO_3.out).2.2 (ji4) p278 q278
    obtain rfl : ad277 = ad278 := (by injection e278)
    replace p278 := eq_true p278
    replace q278 := eq_true q278
    refine start_ (n := 15) (S := fun w' => w'.cell? (ad277.add (((ji4)).toNat * 2)) = some (.int .i64 ((rd_T23 x3_1 (ji4)).f0)) ∧ w'.cell? ⟨(ad277.add (((ji4)).toNat * 2)).block, (ad277.add (((ji4)).toNat * 2)).off + 1, none⟩ = some (.int .i64 ((rd_T23 x3_1 (ji4)).f1)) ∧ w'.cell? (ad277.add (((ji4)).toNat * 2)) = some (.int .i64 ((rd_T23 x3_1 (ji4)).f0)) ∧ w'.cell? ⟨(ad277.add (((ji4)).toNat * 2)).block, (ad277.add (((ji4)).toNat * 2)).off + 1, none⟩ = some (.int .i64 ((rd_T23 x3_1 (ji4)).f1))) (ds := []) (lb 15 0) (by kernel_rfl) rfl (by kernel_rfl) ⟨hx277_0, hx277_1, hx278_0, hx278_1⟩ (fun hHeld => ?_); refine with_tabW galloonref03_Row.tab2 galloonref03_Row.bits2 (fun HT_ HW_ => ?_)
    generalize wr.drew = w27 at HO_3 HB hx277_0 hx277_1 hx278_0 hx278_1 hHeld ⊢
    refine pk HT_ 15 1 0 11 (h := ?_)
    refine pk HT_ 15 3 1 12 (h := ?_)
    refine pk HT_ 15 7 2 13 (h := ?_)
    refine pk HT_ 15 15 3 14 (h := ?_)
    refine pk HT_ 15 31 4 15 (h := ?_)
    refine pk HT_ 15 63 5 16 (h := ?_)
    refine pk HT_ 15 191 7 18 (h := ?_)
    refine pk HT_ 15 447 8 19 (h := ?_)
    refine pk HT_ 15 959 9 20 (h := ?_)
    refine pk HT_ 15 0x7bf 10 21 (h := ?_)
    refine pk HT_ 15 0xfbf 11 22 (h := ?_)
    refine pk HT_ 15 0x1fbf 12 23 (h := ?_)
    refine tk4 HT_ HW_ hHeld 15 0x1fff 6 17 (h := ?_)
    refine tk4 HT_ HW_ hHeld 15 0x3fff 13 24 (h := ?_)
    refine pk HT_ 15 0x7fff 14 25 (h := ?_)
    refine done_ (done_of HT_.out (by kernel_rfl)) ?_
    try go_wp2
    go_ret
    exact ⟨_, by first | rfl | (simp [errW_none, errW_some] <;> rfl) | (simp only [← hji4]; first | rfl | (simp [errW_none, errW_some] <;> rfl)) | (simp [*, errW_none, errW_some] <;> rfl), by (with_reducible repeat (first | apply Kd.R_alloc | apply Kd.R_drewN | apply Kd.R_drew)); exact HO_3.out, bB HB⟩
end Go.Proofs.Ythjodhmkmjabbaa.PY
