-- Made by the session's own driver (wip/tools/p2.py) out of the translation; Lean checks it.
import Derived.Test.YthjodhmkmjabbaaPYx0
import Derived.Test.YthjodhmkmjabbaaPYx1
import Derived.Test.YthjodhmkmjabbaaPYx4
import Derived.Test.YthjodhmkmjabbaaPYx7
import Derived.Test.YthjodhmkmjabbaaPYx10
import Derived.Test.YthjodhmkmjabbaaPYx14
import Derived.Test.YthjodhmkmjabbaaPYx25
import Derived.Test.YthjodhmkmjabbaaGBetween
import Derived.Test.YthjodhmkmjabbaaGItem
namespace Go.Proofs.Ythjodhmkmjabbaa.PY
open Go.RowKit Go.Proofs.YthjodhmkmjabbaaW.PrintWords Go.Proofs.YthjodhmkmjabbaaW.PrintLast Go.Proofs.YthjodhmkmjabbaaW.PrintMore
attribute [local go_sem] max2_int min2_int max_two min_two max_three min_three max_four min_four   -- for this text's walks alone
set_option linter.unusedVariables false
set_option linter.unusedSimpArgs false

attribute [local go_sem high] eqA23
/-! ### galloonlaw03_YardAdjacent: function 14 -/
def galloonlaw03_YardAdjacent.j0 : Nat → Int → Int → Int → Bool → Option (Bool)
  | 0, _, _, _, _ => none
  | k + 1, x0, x1, x5, x32 => if x32 = true then (some false) else ((galloonlaw03_mod.f x1 (wrap64 (x5 - 2))).bind fun t520 => ((yard_Item.f k x0 (wrap64 (1 + t520))).bind fun bt521 => ((yard_Before.f k x0 bt521.1 bt521.2.1).bind fun bt525 => ((yard_Next.f k x0 bt521.1 bt521.2.1).bind fun bt529 => ((yard_Neighbors.f k bt525.1 bt525.2.1 bt521.1 bt521.2.1).bind fun bt533 => ((yard_Neighbors.f k bt521.1 bt521.2.1 bt529.1 bt529.2.1).bind fun bt535 => ((yard_Between.f k bt521.1 bt521.2.1 bt529.1 bt529.2.1).bind fun bt537 => (if bt521.2.2 = 0 then (if bt525.2.2 = 0 then (if bt529.2.2 = 0 then (if bt533.2 = 0 then (if bt535.2 = 0 then (if bt537.2.2 = 0 then (if bt533.1 = true then (if bt535.1 = true then ((galloonref03_Valid.f k bt521.1 bt521.2.1).bind fun t541 => (if t541 = true then ((galloonref03_Valid.f k bt525.1 bt525.2.1).bind fun t542 => (if t542 = true then ((galloonref03_Valid.f k bt529.1 bt529.2.1).bind fun t543 => (if t543 = true then (if (bt537.1 == (wrap64 (bt521.1 + bt529.1)) && (bt537.2.1 == (wrap64 (bt521.2.1 + bt529.2.1)))) = true then (if bt537.2.1 > x0 then (if bt521.1 = 0 then (none) else (if (Int.tmod (wrap64 (bt525.1 + bt529.1)) bt521.1) = 0 then (if bt521.2.1 = 0 then (none) else (if (Int.tmod (wrap64 (bt525.2.1 + bt529.2.1)) bt521.2.1) = 0 then (if (wrap64 (Int.tdiv (wrap64 (bt525.1 + bt529.1)) bt521.1)) = (wrap64 (Int.tdiv (wrap64 (bt525.2.1 + bt529.2.1)) bt521.2.1)) then ((galloonlaw03_awake.f k).bind fun t544 => (some t544)) else (some false)) else (some false))) else (some false))) else (some false)) else (some false)) else (some false))) else (some false))) else (some false))) else (some false)) else (some false)) else (some false)) else (some false)) else (some false)) else (some false)) else (some false)) else (some false)))))))))
def galloonlaw03_YardAdjacent.f (k : Nat) (a0 : Int) (a1 : Int) : Option (Bool) := (galloonlaw03_mod.f a0 299).bind fun t517 => ((yard_Size.f k (wrap64 (2 + t517))).bind fun bt518 => (if bt518.2 = 0 then (galloonlaw03_YardAdjacent.j0 k (wrap64 (2 + t517)) a1 bt518.1 (decide (bt518.1 < 3))) else (galloonlaw03_YardAdjacent.j0 k (wrap64 (2 + t517)) a1 bt518.1 true)))
theorem galloonlaw03_YardAdjacent.mono_l : ∀ k, (∀ y0 y1 y2 y3, LeO (galloonlaw03_YardAdjacent.j0 k y0 y1 y2 y3) (galloonlaw03_YardAdjacent.j0 (k + 1) y0 y1 y2 y3))
  | 0 => fun _ _ _ _ r h => by simp [galloonlaw03_YardAdjacent.j0] at h
  | k + 1 => by
    have ih0 := galloonlaw03_YardAdjacent.mono_l k
    · intro y0 y1 y2 y3
      unfold galloonlaw03_YardAdjacent.j0
      repeat' first
      | (with_reducible exact ih0 _ _ _ _)
      | (with_reducible exact galloonlaw03_awake.mono _)
      | (with_reducible exact galloonref03_Valid.mono _ _ _)
      | (with_reducible exact yard_Before.mono _ _ _ _)
      | (with_reducible exact yard_Between.mono _ _ _ _ _)
      | (with_reducible exact yard_Item.mono _ _ _)
      | (with_reducible exact yard_Neighbors.mono _ _ _ _ _)
      | (with_reducible exact yard_Next.mono _ _ _ _)
      | (with_reducible exact yard_Size.mono _ _)
      | (with_reducible exact LeO.refl _)
      | (with_reducible exact LeO.none _)
      | (with_reducible refine LeO.ite ?_ ?_)
      | (with_reducible refine LeO.bind ?_ (fun _ => ?_))
      | exact ih0 _ _ _ _
      | exact galloonlaw03_awake.mono _
      | exact galloonref03_Valid.mono _ _ _
      | exact yard_Before.mono _ _ _ _
      | exact yard_Between.mono _ _ _ _ _
      | exact yard_Item.mono _ _ _
      | exact yard_Neighbors.mono _ _ _ _ _
      | exact yard_Next.mono _ _ _ _
      | exact yard_Size.mono _ _
      | exact LeO.none _
      | refine LeO.ite ?_ ?_
      | refine LeO.bind ?_ (fun _ => ?_)
theorem galloonlaw03_YardAdjacent.mono : ∀ a0 a1 k, LeO (galloonlaw03_YardAdjacent.f k a0 a1) (galloonlaw03_YardAdjacent.f (k + 1) a0 a1) := by
  intro a0 a1 k
  have ih0 := galloonlaw03_YardAdjacent.mono_l k
  unfold galloonlaw03_YardAdjacent.f
  repeat' first
      | (with_reducible exact ih0 _ _ _ _)
      | (with_reducible exact galloonlaw03_awake.mono _)
      | (with_reducible exact galloonref03_Valid.mono _ _ _)
      | (with_reducible exact yard_Before.mono _ _ _ _)
      | (with_reducible exact yard_Between.mono _ _ _ _ _)
      | (with_reducible exact yard_Item.mono _ _ _)
      | (with_reducible exact yard_Neighbors.mono _ _ _ _ _)
      | (with_reducible exact yard_Next.mono _ _ _ _)
      | (with_reducible exact yard_Size.mono _ _)
      | (with_reducible exact LeO.refl _)
      | (with_reducible exact LeO.none _)
      | (with_reducible refine LeO.ite ?_ ?_)
      | (with_reducible refine LeO.bind ?_ (fun _ => ?_))
      | exact ih0 _ _ _ _
      | exact galloonlaw03_awake.mono _
      | exact galloonref03_Valid.mono _ _ _
      | exact yard_Before.mono _ _ _ _
      | exact yard_Between.mono _ _ _ _ _
      | exact yard_Item.mono _ _ _
      | exact yard_Neighbors.mono _ _ _ _ _
      | exact yard_Next.mono _ _ _ _
      | exact yard_Size.mono _ _
      | exact LeO.none _
      | refine LeO.ite ?_ ?_
      | refine LeO.bind ?_ (fun _ => ?_)
def galloonlaw03_YardAdjacent.T14 : Bool × List (List Nat × List Nat) := (true, [([], []), ([], []), ([1], [1]), ([], []), ([3], [3]), ([2, 4], [2, 4]), ([], []), ([6], [6]), ([], []), ([8], [8]), ([7, 9], [7, 9]), ([5, 10], [5, 10]), ([0, 11], [0, 11]), ([12], [12]), ([13], [13]), ([14, 13], [13, 14]), ([13], [13]), ([15, 16, 13], [13, 15, 16]), ([13, 17], [13, 17]), ([18, 13], [18]), ([19], [19]), ([20, 19], [19, 20]), ([19], [19]), ([22, 19], [19, 22]), ([21, 23, 19], [19, 21, 23]), ([19], [19]), ([25, 19], [19, 25]), ([24, 26, 19], [19, 24, 26]), ([27, 19], [19, 27]), ([19, 28], [19, 28]), ([29, 19], [29]), ([30], [30]), ([31, 30], [30, 31]), ([30], [30]), ([33, 30], [30, 33]), ([32, 34, 30], [30, 32, 34]), ([30], [30]), ([36, 30], [30, 36]), ([35, 37, 30], [30, 35, 37]), ([38, 30], [30, 38]), ([30, 39], [30, 39]), ([40, 30], [40]), ([41], [41]), ([42, 41], [41, 42]), ([41], [41]), ([44, 41], [41, 44]), ([43, 45, 41], [41, 43, 45]), ([41], [41]), ([47, 41], [41, 47]), ([46, 48, 41], [41, 46, 48]), ([41], [41]), ([50, 41], [41, 50]), ([41], [41]), ([52, 41], [41, 52]), ([51, 53, 41], [41, 51, 53]), ([41], [41]), ([55, 41], [41, 55]), ([54, 56, 41], [41, 54, 56]), ([49, 57, 41], [41, 49, 57]), ([41, 58], [41, 58]), ([59, 41], [59]), ([60, 60], [60]), ([60, 61], [60, 61]), ([62, 61, 0, 1, 2, 3, 4, 5, 6, 7, 8, 9, 10, 11, 12, 13, 14, 15, 16, 17, 18, 19, 20, 21, 22, 23, 24, 25, 26, 27, 28, 29, 30, 31, 32, 33, 34, 35, 36, 37, 38, 39, 40, 41, 42, 43, 44, 45, 46, 47, 48, 49, 50, 51, 52, 53, 54, 55, 56, 57, 58, 59, 60, 61, 62], [62])])
def galloonlaw03_YardAdjacent.B14 : List Nat := [0, 0, 2, 0, 8, 30, 0, 64, 0, 256, 960, 2046, 4095, 8191, 16383, 32767, 16383, 131071, 262143, 524287, 1048575, 2097151, 1048575, 5242879, 16777215, 1048575, 34603007, 134217727, 268435455, 536870911, 1073741823, 2147483647, 4294967295, 2147483647, 10737418239, 34359738367, 2147483647, 70866960383, 274877906943, 549755813887, 1099511627775, 2199023255551, 4398046511103, 8796093022207, 4398046511103, 21990232555519, 70368744177663, 4398046511103, 145135534866431, 562949953421311, 4398046511103, 1130297953353727, 4398046511103, 4507997673881599, 16892896649150463, 4398046511103, 36033195065475071, 142993686215524351, 288230376151711743, 576460752303423487, 1152921504606846975, 2305843009213693951, 4611686018427387903, 9223372036854775807]
theorem galloonlaw03_YardAdjacent.tab14 : rtab .any (opsOf Try.f14 14) = galloonlaw03_YardAdjacent.T14 := by kernel_rfl
theorem galloonlaw03_YardAdjacent.bits14 : waitsOk galloonlaw03_YardAdjacent.T14.2 galloonlaw03_YardAdjacent.B14 = true := by kernel_rfl
set_option maxHeartbeats 8000000 in
set_option maxRecDepth 100000 in
theorem galloonlaw03_YardAdjacent.calls (k : Nat) (a0 : Int) (a1 : Int) (r : Bool) (w : World) (h : galloonlaw03_YardAdjacent.f k a0 a1 = some r) (hr : Aside0 (r = true)) :
    Calls Try.prog 14 #[.int .i64 a0, .int .i64 a1] w fun e w' => e = .returned (.bool r) ∧ Below w.heap.size w w' := by
  have hu23 := Try.underlying23
  have HB := Aside0.mk (Below.refl w.heap.size w)
  have H : ((galloonlaw03_mod.f a0 299).bind fun t517 => ((yard_Size.f k (wrap64 (2 + t517))).bind fun bt518 => (if bt518.2 = 0 then (galloonlaw03_YardAdjacent.j0 k (wrap64 (2 + t517)) a1 bt518.1 (decide (bt518.1 < 3))) else (galloonlaw03_YardAdjacent.j0 k (wrap64 (2 + t517)) a1 bt518.1 true)))) = some r := h
  clear h
  replace H := Option.bind_eq_some_iff.mp H
  obtain ⟨t517, A30, H⟩ := H
  replace H : ((yard_Size.f k (wrap64 (2 + t517))).bind fun bt518 => (if bt518.2 = 0 then (galloonlaw03_YardAdjacent.j0 k (wrap64 (2 + t517)) a1 bt518.1 (decide (bt518.1 < 3))) else (galloonlaw03_YardAdjacent.j0 k (wrap64 (2 + t517)) a1 bt518.1 true))) = some r := H
  have A3 := Aside0.mk A30
  clear A30
  replace H := Option.bind_eq_some_iff.mp H
  obtain ⟨⟨t518, t519⟩, A40, H⟩ := H
  replace H : (if t519 = 0 then (galloonlaw03_YardAdjacent.j0 k (wrap64 (2 + t517)) a1 t518 (decide (t518 < 3))) else (galloonlaw03_YardAdjacent.j0 k (wrap64 (2 + t517)) a1 t518 true)) = some r := H
  have A4 := Aside0.mk A40
  clear A40
  have HC5 := Aside0.mk H
  clear H
  go_enter Try.func14, Try.ntmps14
  go_upto_region 3 with (first | ((with_reducible refine gate_callee (f := 47) rfl ?_); refine goesL_ (some 20) rfl rfl Try.func47 (by kernel_rfl) rfl #[.int .i64 a0, .int .i64 299] rfl (by (try simp only [List.map_toArray, List.map_cons, List.map_nil]); first | done | rfl | (simp only [List.length_drop, List.length_take]; rfl)) ?_; (with_reducible refine (galloonlaw03_mod.calls a0 299 t517 _ A3.out).mono ?_); rintro e w' ⟨rfl, ⟨nd, rfl⟩⟩; refine ⟨_, rfl, ?_⟩) | ((with_reducible refine gate_callee (f := 35) rfl ?_); refine goesL_ (some 24) rfl rfl Try.func35 (by kernel_rfl) rfl #[.int .i64 (wrap64 (2 + t517))] rfl (by (try simp only [List.map_toArray, List.map_cons, List.map_nil]); first | done | rfl | (simp only [List.length_drop, List.length_take]; rfl)) ?_; (with_reducible refine (yard_Size.calls k (wrap64 (2 + t517)) t518 t519 _ A4.out).mono ?_); rintro e w6 ⟨rfl, hb⟩; refine ⟨_, rfl, ?_⟩; have n0_ := Aside0.mk (below_step (by repeat (first | (with_reducible first | exact HB.out | apply below_alloc | apply pw_below_drewN | apply below_drew1) | exact HB.out)) hb); clear HB; have HB := n0_; clear n0_; (try clear hb); (try clear hb2); (try clear hk); (try clear hi)))
  (try simp only [Act.put, List.setIfInBounds_toArray, List.set_cons_zero, List.set_cons_succ])
  go_cut [32] (fun v32 wc => ∃ (kq : Nat) (x32_4 : Bool), v32 = .bool x32_4 ∧ Aside0 (galloonlaw03_YardAdjacent.j0 kq (wrap64 (2 + t517)) a1 t518 x32_4 = some r) ∧ Aside0 (kq ≤ k) ∧ Aside0 (Below w.heap.size w wc))
  case first =>
    have H := HC5.out
    clear HC5
    by_cases c7 : t519 = 0
    · rw [if_pos c7] at H
      have c7b0 : (t519 == 0) = true := beq_iff_eq.mpr c7
      have c7b1 : (t519 != 0) = false := bne_eq_false_iff_eq.mpr c7
      clear c7
      (first | rw [c7b0] | (simp only [i64_w, i32_w]; rw [c7b0]) | skip)
      have H' := Aside0.mk H
      clear H
      go_wp2
      go_meet
      case rel => exact ⟨_, (decide (t518 < 3)), (by first | rfl | (simp; done) | (simp [*]; done)), H', ⟨by first | omega | exact Nat.le_refl _⟩, ⟨by repeat (first | (with_reducible first | exact HB.out | apply below_alloc | apply pw_below_drewN | apply below_drew1) | exact HB.out)⟩⟩
    · rw [if_neg c7] at H
      have c7b0 : (t519 == 0) = false := beq_eq_false_iff_ne.mpr c7
      have c7b1 : (t519 != 0) = true := bne_iff_ne.mpr c7
      (first | rw [c7b0] | (simp only [i64_w, i32_w]; rw [c7b0]) | skip)
      have H' := Aside0.mk H
      clear H
      go_wp2
      go_meet
      case rel => exact ⟨_, (true), (by first | rfl | (simp; done) | (simp [*]; done)), H', ⟨by first | omega | exact Nat.le_refl _⟩, ⟨by repeat (first | (with_reducible first | exact HB.out | apply below_alloc | apply pw_below_drewN | apply below_drew1) | exact HB.out)⟩⟩
  case rest =>
    clear HC5
    try clear c1
    try clear p2
    try clear c3
    try clear c4
    try clear p6
    try clear c7
    try clear c7b0
    try clear c7b1
    obtain ⟨kq, x32_4, rfl, HA, HJ4, HB⟩ := hcut
    cases kq with
    | zero => exact absurd HA.out (by simp [galloonlaw03_YardAdjacent.j0])
    | succ kj4 =>
      have H := HA.out
      clear HA
      simp only [galloonlaw03_YardAdjacent.j0] at H
      by_cases c8 : x32_4 = true
      · subst c8
        have H1 : (some false) = some r := by rw [if_pos rfl] at H; exact H
        clear H
        have H := H1
        clear H1
        obtain rfl := Option.some.inj H
        exact absurd hr.out (by decide)
      · replace c8 := Bool.eq_false_iff.mpr c8
        subst c8
        have H1 : ((galloonlaw03_mod.f a1 (wrap64 (t518 - 2))).bind fun t520 => ((yard_Item.f kj4 (wrap64 (2 + t517)) (wrap64 (1 + t520))).bind fun bt521 => ((yard_Before.f kj4 (wrap64 (2 + t517)) bt521.1 bt521.2.1).bind fun bt525 => ((yard_Next.f kj4 (wrap64 (2 + t517)) bt521.1 bt521.2.1).bind fun bt529 => ((yard_Neighbors.f kj4 bt525.1 bt525.2.1 bt521.1 bt521.2.1).bind fun bt533 => ((yard_Neighbors.f kj4 bt521.1 bt521.2.1 bt529.1 bt529.2.1).bind fun bt535 => ((yard_Between.f kj4 bt521.1 bt521.2.1 bt529.1 bt529.2.1).bind fun bt537 => (if bt521.2.2 = 0 then (if bt525.2.2 = 0 then (if bt529.2.2 = 0 then (if bt533.2 = 0 then (if bt535.2 = 0 then (if bt537.2.2 = 0 then (if bt533.1 = true then (if bt535.1 = true then ((galloonref03_Valid.f kj4 bt521.1 bt521.2.1).bind fun t541 => (if t541 = true then ((galloonref03_Valid.f kj4 bt525.1 bt525.2.1).bind fun t542 => (if t542 = true then ((galloonref03_Valid.f kj4 bt529.1 bt529.2.1).bind fun t543 => (if t543 = true then (if (bt537.1 == (wrap64 (bt521.1 + bt529.1)) && (bt537.2.1 == (wrap64 (bt521.2.1 + bt529.2.1)))) = true then (if bt537.2.1 > (wrap64 (2 + t517)) then (if bt521.1 = 0 then (none) else (if (Int.tmod (wrap64 (bt525.1 + bt529.1)) bt521.1) = 0 then (if bt521.2.1 = 0 then (none) else (if (Int.tmod (wrap64 (bt525.2.1 + bt529.2.1)) bt521.2.1) = 0 then (if (wrap64 (Int.tdiv (wrap64 (bt525.1 + bt529.1)) bt521.1)) = (wrap64 (Int.tdiv (wrap64 (bt525.2.1 + bt529.2.1)) bt521.2.1)) then ((galloonlaw03_awake.f kj4).bind fun t544 => (some t544)) else (some false)) else (some false))) else (some false))) else (some false)) else (some false)) else (some false))) else (some false))) else (some false))) else (some false)) else (some false)) else (some false)) else (some false)) else (some false)) else (some false)) else (some false)) else (some false))))))))) = some r := by rw [if_neg (show ¬ (false = true) by decide)] at H; exact H
        clear H
        have H := H1
        clear H1
        replace H := Option.bind_eq_some_iff.mp H
        obtain ⟨t520, A90, H⟩ := H
        replace H : ((yard_Item.f kj4 (wrap64 (2 + t517)) (wrap64 (1 + t520))).bind fun bt521 => ((yard_Before.f kj4 (wrap64 (2 + t517)) bt521.1 bt521.2.1).bind fun bt525 => ((yard_Next.f kj4 (wrap64 (2 + t517)) bt521.1 bt521.2.1).bind fun bt529 => ((yard_Neighbors.f kj4 bt525.1 bt525.2.1 bt521.1 bt521.2.1).bind fun bt533 => ((yard_Neighbors.f kj4 bt521.1 bt521.2.1 bt529.1 bt529.2.1).bind fun bt535 => ((yard_Between.f kj4 bt521.1 bt521.2.1 bt529.1 bt529.2.1).bind fun bt537 => (if bt521.2.2 = 0 then (if bt525.2.2 = 0 then (if bt529.2.2 = 0 then (if bt533.2 = 0 then (if bt535.2 = 0 then (if bt537.2.2 = 0 then (if bt533.1 = true then (if bt535.1 = true then ((galloonref03_Valid.f kj4 bt521.1 bt521.2.1).bind fun t541 => (if t541 = true then ((galloonref03_Valid.f kj4 bt525.1 bt525.2.1).bind fun t542 => (if t542 = true then ((galloonref03_Valid.f kj4 bt529.1 bt529.2.1).bind fun t543 => (if t543 = true then (if (bt537.1 == (wrap64 (bt521.1 + bt529.1)) && (bt537.2.1 == (wrap64 (bt521.2.1 + bt529.2.1)))) = true then (if bt537.2.1 > (wrap64 (2 + t517)) then (if bt521.1 = 0 then (none) else (if (Int.tmod (wrap64 (bt525.1 + bt529.1)) bt521.1) = 0 then (if bt521.2.1 = 0 then (none) else (if (Int.tmod (wrap64 (bt525.2.1 + bt529.2.1)) bt521.2.1) = 0 then (if (wrap64 (Int.tdiv (wrap64 (bt525.1 + bt529.1)) bt521.1)) = (wrap64 (Int.tdiv (wrap64 (bt525.2.1 + bt529.2.1)) bt521.2.1)) then ((galloonlaw03_awake.f kj4).bind fun t544 => (some t544)) else (some false)) else (some false))) else (some false))) else (some false)) else (some false)) else (some false))) else (some false))) else (some false))) else (some false)) else (some false)) else (some false)) else (some false)) else (some false)) else (some false)) else (some false)) else (some false)))))))) = some r := H
        have A9 := Aside0.mk A90
        clear A90
        replace H := Option.bind_eq_some_iff.mp H
        obtain ⟨⟨t521, t522, t523⟩, A100, H⟩ := H
        replace H : ((yard_Before.f kj4 (wrap64 (2 + t517)) t521 t522).bind fun bt525 => ((yard_Next.f kj4 (wrap64 (2 + t517)) t521 t522).bind fun bt529 => ((yard_Neighbors.f kj4 bt525.1 bt525.2.1 t521 t522).bind fun bt533 => ((yard_Neighbors.f kj4 t521 t522 bt529.1 bt529.2.1).bind fun bt535 => ((yard_Between.f kj4 t521 t522 bt529.1 bt529.2.1).bind fun bt537 => (if t523 = 0 then (if bt525.2.2 = 0 then (if bt529.2.2 = 0 then (if bt533.2 = 0 then (if bt535.2 = 0 then (if bt537.2.2 = 0 then (if bt533.1 = true then (if bt535.1 = true then ((galloonref03_Valid.f kj4 t521 t522).bind fun t541 => (if t541 = true then ((galloonref03_Valid.f kj4 bt525.1 bt525.2.1).bind fun t542 => (if t542 = true then ((galloonref03_Valid.f kj4 bt529.1 bt529.2.1).bind fun t543 => (if t543 = true then (if (bt537.1 == (wrap64 (t521 + bt529.1)) && (bt537.2.1 == (wrap64 (t522 + bt529.2.1)))) = true then (if bt537.2.1 > (wrap64 (2 + t517)) then (if t521 = 0 then (none) else (if (Int.tmod (wrap64 (bt525.1 + bt529.1)) t521) = 0 then (if t522 = 0 then (none) else (if (Int.tmod (wrap64 (bt525.2.1 + bt529.2.1)) t522) = 0 then (if (wrap64 (Int.tdiv (wrap64 (bt525.1 + bt529.1)) t521)) = (wrap64 (Int.tdiv (wrap64 (bt525.2.1 + bt529.2.1)) t522)) then ((galloonlaw03_awake.f kj4).bind fun t544 => (some t544)) else (some false)) else (some false))) else (some false))) else (some false)) else (some false)) else (some false))) else (some false))) else (some false))) else (some false)) else (some false)) else (some false)) else (some false)) else (some false)) else (some false)) else (some false)) else (some false))))))) = some r := H
        have A10 := Aside0.mk A100
        clear A100
        replace H := Option.bind_eq_some_iff.mp H
        obtain ⟨⟨t525, t526, t527⟩, A110, H⟩ := H
        replace H : ((yard_Next.f kj4 (wrap64 (2 + t517)) t521 t522).bind fun bt529 => ((yard_Neighbors.f kj4 t525 t526 t521 t522).bind fun bt533 => ((yard_Neighbors.f kj4 t521 t522 bt529.1 bt529.2.1).bind fun bt535 => ((yard_Between.f kj4 t521 t522 bt529.1 bt529.2.1).bind fun bt537 => (if t523 = 0 then (if t527 = 0 then (if bt529.2.2 = 0 then (if bt533.2 = 0 then (if bt535.2 = 0 then (if bt537.2.2 = 0 then (if bt533.1 = true then (if bt535.1 = true then ((galloonref03_Valid.f kj4 t521 t522).bind fun t541 => (if t541 = true then ((galloonref03_Valid.f kj4 t525 t526).bind fun t542 => (if t542 = true then ((galloonref03_Valid.f kj4 bt529.1 bt529.2.1).bind fun t543 => (if t543 = true then (if (bt537.1 == (wrap64 (t521 + bt529.1)) && (bt537.2.1 == (wrap64 (t522 + bt529.2.1)))) = true then (if bt537.2.1 > (wrap64 (2 + t517)) then (if t521 = 0 then (none) else (if (Int.tmod (wrap64 (t525 + bt529.1)) t521) = 0 then (if t522 = 0 then (none) else (if (Int.tmod (wrap64 (t526 + bt529.2.1)) t522) = 0 then (if (wrap64 (Int.tdiv (wrap64 (t525 + bt529.1)) t521)) = (wrap64 (Int.tdiv (wrap64 (t526 + bt529.2.1)) t522)) then ((galloonlaw03_awake.f kj4).bind fun t544 => (some t544)) else (some false)) else (some false))) else (some false))) else (some false)) else (some false)) else (some false))) else (some false))) else (some false))) else (some false)) else (some false)) else (some false)) else (some false)) else (some false)) else (some false)) else (some false)) else (some false)))))) = some r := H
        have A11 := Aside0.mk A110
        clear A110
        replace H := Option.bind_eq_some_iff.mp H
        obtain ⟨⟨t529, t530, t531⟩, A120, H⟩ := H
        replace H : ((yard_Neighbors.f kj4 t525 t526 t521 t522).bind fun bt533 => ((yard_Neighbors.f kj4 t521 t522 t529 t530).bind fun bt535 => ((yard_Between.f kj4 t521 t522 t529 t530).bind fun bt537 => (if t523 = 0 then (if t527 = 0 then (if t531 = 0 then (if bt533.2 = 0 then (if bt535.2 = 0 then (if bt537.2.2 = 0 then (if bt533.1 = true then (if bt535.1 = true then ((galloonref03_Valid.f kj4 t521 t522).bind fun t541 => (if t541 = true then ((galloonref03_Valid.f kj4 t525 t526).bind fun t542 => (if t542 = true then ((galloonref03_Valid.f kj4 t529 t530).bind fun t543 => (if t543 = true then (if (bt537.1 == (wrap64 (t521 + t529)) && (bt537.2.1 == (wrap64 (t522 + t530)))) = true then (if bt537.2.1 > (wrap64 (2 + t517)) then (if t521 = 0 then (none) else (if (Int.tmod (wrap64 (t525 + t529)) t521) = 0 then (if t522 = 0 then (none) else (if (Int.tmod (wrap64 (t526 + t530)) t522) = 0 then (if (wrap64 (Int.tdiv (wrap64 (t525 + t529)) t521)) = (wrap64 (Int.tdiv (wrap64 (t526 + t530)) t522)) then ((galloonlaw03_awake.f kj4).bind fun t544 => (some t544)) else (some false)) else (some false))) else (some false))) else (some false)) else (some false)) else (some false))) else (some false))) else (some false))) else (some false)) else (some false)) else (some false)) else (some false)) else (some false)) else (some false)) else (some false)) else (some false))))) = some r := H
        have A12 := Aside0.mk A120
        clear A120
        replace H := Option.bind_eq_some_iff.mp H
        obtain ⟨⟨t533, t534⟩, A130, H⟩ := H
        replace H : ((yard_Neighbors.f kj4 t521 t522 t529 t530).bind fun bt535 => ((yard_Between.f kj4 t521 t522 t529 t530).bind fun bt537 => (if t523 = 0 then (if t527 = 0 then (if t531 = 0 then (if t534 = 0 then (if bt535.2 = 0 then (if bt537.2.2 = 0 then (if t533 = true then (if bt535.1 = true then ((galloonref03_Valid.f kj4 t521 t522).bind fun t541 => (if t541 = true then ((galloonref03_Valid.f kj4 t525 t526).bind fun t542 => (if t542 = true then ((galloonref03_Valid.f kj4 t529 t530).bind fun t543 => (if t543 = true then (if (bt537.1 == (wrap64 (t521 + t529)) && (bt537.2.1 == (wrap64 (t522 + t530)))) = true then (if bt537.2.1 > (wrap64 (2 + t517)) then (if t521 = 0 then (none) else (if (Int.tmod (wrap64 (t525 + t529)) t521) = 0 then (if t522 = 0 then (none) else (if (Int.tmod (wrap64 (t526 + t530)) t522) = 0 then (if (wrap64 (Int.tdiv (wrap64 (t525 + t529)) t521)) = (wrap64 (Int.tdiv (wrap64 (t526 + t530)) t522)) then ((galloonlaw03_awake.f kj4).bind fun t544 => (some t544)) else (some false)) else (some false))) else (some false))) else (some false)) else (some false)) else (some false))) else (some false))) else (some false))) else (some false)) else (some false)) else (some false)) else (some false)) else (some false)) else (some false)) else (some false)) else (some false)))) = some r := H
        have A13 := Aside0.mk A130
        clear A130
        replace H := Option.bind_eq_some_iff.mp H
        obtain ⟨⟨t535, t536⟩, A140, H⟩ := H
        replace H : ((yard_Between.f kj4 t521 t522 t529 t530).bind fun bt537 => (if t523 = 0 then (if t527 = 0 then (if t531 = 0 then (if t534 = 0 then (if t536 = 0 then (if bt537.2.2 = 0 then (if t533 = true then (if t535 = true then ((galloonref03_Valid.f kj4 t521 t522).bind fun t541 => (if t541 = true then ((galloonref03_Valid.f kj4 t525 t526).bind fun t542 => (if t542 = true then ((galloonref03_Valid.f kj4 t529 t530).bind fun t543 => (if t543 = true then (if (bt537.1 == (wrap64 (t521 + t529)) && (bt537.2.1 == (wrap64 (t522 + t530)))) = true then (if bt537.2.1 > (wrap64 (2 + t517)) then (if t521 = 0 then (none) else (if (Int.tmod (wrap64 (t525 + t529)) t521) = 0 then (if t522 = 0 then (none) else (if (Int.tmod (wrap64 (t526 + t530)) t522) = 0 then (if (wrap64 (Int.tdiv (wrap64 (t525 + t529)) t521)) = (wrap64 (Int.tdiv (wrap64 (t526 + t530)) t522)) then ((galloonlaw03_awake.f kj4).bind fun t544 => (some t544)) else (some false)) else (some false))) else (some false))) else (some false)) else (some false)) else (some false))) else (some false))) else (some false))) else (some false)) else (some false)) else (some false)) else (some false)) else (some false)) else (some false)) else (some false)) else (some false))) = some r := H
        have A14 := Aside0.mk A140
        clear A140
        replace H := Option.bind_eq_some_iff.mp H
        obtain ⟨⟨t537, t538, t539⟩, A150, H⟩ := H
        replace H : (if t523 = 0 then (if t527 = 0 then (if t531 = 0 then (if t534 = 0 then (if t536 = 0 then (if t539 = 0 then (if t533 = true then (if t535 = true then ((galloonref03_Valid.f kj4 t521 t522).bind fun t541 => (if t541 = true then ((galloonref03_Valid.f kj4 t525 t526).bind fun t542 => (if t542 = true then ((galloonref03_Valid.f kj4 t529 t530).bind fun t543 => (if t543 = true then (if (t537 == (wrap64 (t521 + t529)) && (t538 == (wrap64 (t522 + t530)))) = true then (if t538 > (wrap64 (2 + t517)) then (if t521 = 0 then (none) else (if (Int.tmod (wrap64 (t525 + t529)) t521) = 0 then (if t522 = 0 then (none) else (if (Int.tmod (wrap64 (t526 + t530)) t522) = 0 then (if (wrap64 (Int.tdiv (wrap64 (t525 + t529)) t521)) = (wrap64 (Int.tdiv (wrap64 (t526 + t530)) t522)) then ((galloonlaw03_awake.f kj4).bind fun t544 => (some t544)) else (some false)) else (some false))) else (some false))) else (some false)) else (some false)) else (some false))) else (some false))) else (some false))) else (some false)) else (some false)) else (some false)) else (some false)) else (some false)) else (some false)) else (some false)) else (some false)) = some r := H
        have A15 := Aside0.mk A150
        clear A150
        by_cases c16 : t523 = 0
        · rw [if_pos c16] at H
          have c16b0 : (t523 == 0) = true := beq_iff_eq.mpr c16
          have c16b1 : (t523 != 0) = false := bne_eq_false_iff_eq.mpr c16
          clear c16
          by_cases c17 : t527 = 0
          · rw [if_pos c17] at H
            have c17b0 : (t527 == 0) = true := beq_iff_eq.mpr c17
            have c17b1 : (t527 != 0) = false := bne_eq_false_iff_eq.mpr c17
            clear c17
            by_cases c18 : t531 = 0
            · rw [if_pos c18] at H
              have c18b0 : (t531 == 0) = true := beq_iff_eq.mpr c18
              have c18b1 : (t531 != 0) = false := bne_eq_false_iff_eq.mpr c18
              clear c18
              by_cases c19 : t534 = 0
              · rw [if_pos c19] at H
                have c19b0 : (t534 == 0) = true := beq_iff_eq.mpr c19
                have c19b1 : (t534 != 0) = false := bne_eq_false_iff_eq.mpr c19
                clear c19
                by_cases c20 : t536 = 0
                · rw [if_pos c20] at H
                  have c20b0 : (t536 == 0) = true := beq_iff_eq.mpr c20
                  have c20b1 : (t536 != 0) = false := bne_eq_false_iff_eq.mpr c20
                  clear c20
                  by_cases c21 : t539 = 0
                  · rw [if_pos c21] at H
                    have c21b0 : (t539 == 0) = true := beq_iff_eq.mpr c21
                    have c21b1 : (t539 != 0) = false := bne_eq_false_iff_eq.mpr c21
                    clear c21
                    by_cases c22 : t533 = true
                    · subst c22
                      have H1 : (if t535 = true then ((galloonref03_Valid.f kj4 t521 t522).bind fun t541 => (if t541 = true then ((galloonref03_Valid.f kj4 t525 t526).bind fun t542 => (if t542 = true then ((galloonref03_Valid.f kj4 t529 t530).bind fun t543 => (if t543 = true then (if (t537 == (wrap64 (t521 + t529)) && (t538 == (wrap64 (t522 + t530)))) = true then (if t538 > (wrap64 (2 + t517)) then (if t521 = 0 then (none) else (if (Int.tmod (wrap64 (t525 + t529)) t521) = 0 then (if t522 = 0 then (none) else (if (Int.tmod (wrap64 (t526 + t530)) t522) = 0 then (if (wrap64 (Int.tdiv (wrap64 (t525 + t529)) t521)) = (wrap64 (Int.tdiv (wrap64 (t526 + t530)) t522)) then ((galloonlaw03_awake.f kj4).bind fun t544 => (some t544)) else (some false)) else (some false))) else (some false))) else (some false)) else (some false)) else (some false))) else (some false))) else (some false))) else (some false)) = some r := by rw [if_pos rfl] at H; exact H
                      clear H
                      have H := H1
                      clear H1
                      by_cases c23 : t535 = true
                      · subst c23
                        have H1 : ((galloonref03_Valid.f kj4 t521 t522).bind fun t541 => (if t541 = true then ((galloonref03_Valid.f kj4 t525 t526).bind fun t542 => (if t542 = true then ((galloonref03_Valid.f kj4 t529 t530).bind fun t543 => (if t543 = true then (if (t537 == (wrap64 (t521 + t529)) && (t538 == (wrap64 (t522 + t530)))) = true then (if t538 > (wrap64 (2 + t517)) then (if t521 = 0 then (none) else (if (Int.tmod (wrap64 (t525 + t529)) t521) = 0 then (if t522 = 0 then (none) else (if (Int.tmod (wrap64 (t526 + t530)) t522) = 0 then (if (wrap64 (Int.tdiv (wrap64 (t525 + t529)) t521)) = (wrap64 (Int.tdiv (wrap64 (t526 + t530)) t522)) then ((galloonlaw03_awake.f kj4).bind fun t544 => (some t544)) else (some false)) else (some false))) else (some false))) else (some false)) else (some false)) else (some false))) else (some false))) else (some false))) = some r := by rw [if_pos rfl] at H; exact H
                        clear H
                        have H := H1
                        clear H1
                        replace H := Option.bind_eq_some_iff.mp H
                        obtain ⟨t541, A240, H⟩ := H
                        replace H : (if t541 = true then ((galloonref03_Valid.f kj4 t525 t526).bind fun t542 => (if t542 = true then ((galloonref03_Valid.f kj4 t529 t530).bind fun t543 => (if t543 = true then (if (t537 == (wrap64 (t521 + t529)) && (t538 == (wrap64 (t522 + t530)))) = true then (if t538 > (wrap64 (2 + t517)) then (if t521 = 0 then (none) else (if (Int.tmod (wrap64 (t525 + t529)) t521) = 0 then (if t522 = 0 then (none) else (if (Int.tmod (wrap64 (t526 + t530)) t522) = 0 then (if (wrap64 (Int.tdiv (wrap64 (t525 + t529)) t521)) = (wrap64 (Int.tdiv (wrap64 (t526 + t530)) t522)) then ((galloonlaw03_awake.f kj4).bind fun t544 => (some t544)) else (some false)) else (some false))) else (some false))) else (some false)) else (some false)) else (some false))) else (some false))) else (some false)) = some r := H
                        have A24 := Aside0.mk A240
                        clear A240
                        by_cases c25 : t541 = true
                        · subst c25
                          have H1 : ((galloonref03_Valid.f kj4 t525 t526).bind fun t542 => (if t542 = true then ((galloonref03_Valid.f kj4 t529 t530).bind fun t543 => (if t543 = true then (if (t537 == (wrap64 (t521 + t529)) && (t538 == (wrap64 (t522 + t530)))) = true then (if t538 > (wrap64 (2 + t517)) then (if t521 = 0 then (none) else (if (Int.tmod (wrap64 (t525 + t529)) t521) = 0 then (if t522 = 0 then (none) else (if (Int.tmod (wrap64 (t526 + t530)) t522) = 0 then (if (wrap64 (Int.tdiv (wrap64 (t525 + t529)) t521)) = (wrap64 (Int.tdiv (wrap64 (t526 + t530)) t522)) then ((galloonlaw03_awake.f kj4).bind fun t544 => (some t544)) else (some false)) else (some false))) else (some false))) else (some false)) else (some false)) else (some false))) else (some false))) = some r := by rw [if_pos rfl] at H; exact H
                          clear H
                          have H := H1
                          clear H1
                          replace H := Option.bind_eq_some_iff.mp H
                          obtain ⟨t542, A260, H⟩ := H
                          replace H : (if t542 = true then ((galloonref03_Valid.f kj4 t529 t530).bind fun t543 => (if t543 = true then (if (t537 == (wrap64 (t521 + t529)) && (t538 == (wrap64 (t522 + t530)))) = true then (if t538 > (wrap64 (2 + t517)) then (if t521 = 0 then (none) else (if (Int.tmod (wrap64 (t525 + t529)) t521) = 0 then (if t522 = 0 then (none) else (if (Int.tmod (wrap64 (t526 + t530)) t522) = 0 then (if (wrap64 (Int.tdiv (wrap64 (t525 + t529)) t521)) = (wrap64 (Int.tdiv (wrap64 (t526 + t530)) t522)) then ((galloonlaw03_awake.f kj4).bind fun t544 => (some t544)) else (some false)) else (some false))) else (some false))) else (some false)) else (some false)) else (some false))) else (some false)) = some r := H
                          have A26 := Aside0.mk A260
                          clear A260
                          by_cases c27 : t542 = true
                          · subst c27
                            have H1 : ((galloonref03_Valid.f kj4 t529 t530).bind fun t543 => (if t543 = true then (if (t537 == (wrap64 (t521 + t529)) && (t538 == (wrap64 (t522 + t530)))) = true then (if t538 > (wrap64 (2 + t517)) then (if t521 = 0 then (none) else (if (Int.tmod (wrap64 (t525 + t529)) t521) = 0 then (if t522 = 0 then (none) else (if (Int.tmod (wrap64 (t526 + t530)) t522) = 0 then (if (wrap64 (Int.tdiv (wrap64 (t525 + t529)) t521)) = (wrap64 (Int.tdiv (wrap64 (t526 + t530)) t522)) then ((galloonlaw03_awake.f kj4).bind fun t544 => (some t544)) else (some false)) else (some false))) else (some false))) else (some false)) else (some false)) else (some false))) = some r := by rw [if_pos rfl] at H; exact H
                            clear H
                            have H := H1
                            clear H1
                            replace H := Option.bind_eq_some_iff.mp H
                            obtain ⟨t543, A280, H⟩ := H
                            replace H : (if t543 = true then (if (t537 == (wrap64 (t521 + t529)) && (t538 == (wrap64 (t522 + t530)))) = true then (if t538 > (wrap64 (2 + t517)) then (if t521 = 0 then (none) else (if (Int.tmod (wrap64 (t525 + t529)) t521) = 0 then (if t522 = 0 then (none) else (if (Int.tmod (wrap64 (t526 + t530)) t522) = 0 then (if (wrap64 (Int.tdiv (wrap64 (t525 + t529)) t521)) = (wrap64 (Int.tdiv (wrap64 (t526 + t530)) t522)) then ((galloonlaw03_awake.f kj4).bind fun t544 => (some t544)) else (some false)) else (some false))) else (some false))) else (some false)) else (some false)) else (some false)) = some r := H
                            have A28 := Aside0.mk A280
                            clear A280
                            by_cases c29 : t543 = true
                            · subst c29
                              have H1 : (if (t537 == (wrap64 (t521 + t529)) && (t538 == (wrap64 (t522 + t530)))) = true then (if t538 > (wrap64 (2 + t517)) then (if t521 = 0 then (none) else (if (Int.tmod (wrap64 (t525 + t529)) t521) = 0 then (if t522 = 0 then (none) else (if (Int.tmod (wrap64 (t526 + t530)) t522) = 0 then (if (wrap64 (Int.tdiv (wrap64 (t525 + t529)) t521)) = (wrap64 (Int.tdiv (wrap64 (t526 + t530)) t522)) then ((galloonlaw03_awake.f kj4).bind fun t544 => (some t544)) else (some false)) else (some false))) else (some false))) else (some false)) else (some false)) = some r := by rw [if_pos rfl] at H; exact H
                              clear H
                              have H := H1
                              clear H1
                              by_cases c30 : (t537 == (wrap64 (t521 + t529)) && (t538 == (wrap64 (t522 + t530)))) = true
                              · rw [if_pos c30] at H
                                have c30b0 : (t537 == (wrap64 (t521 + t529)) && (t538 == (wrap64 (t522 + t530)))) = true := c30
                                (try (have c30b1 : decide (t537 = (wrap64 (t521 + t529)) && (t538 == (wrap64 (t522 + t530)))) = true := by simpa using c30))
                                (try (have c30b2 : (t537 == (wrap64 (t521 + t529)) && (t538 == (wrap64 (t522 + t530)))) = true := by simpa using c30))
                                clear c30
                                by_cases c31 : t538 > (wrap64 (2 + t517))
                                · rw [if_pos c31] at H
                                  have c31b0 : decide ((wrap64 (2 + t517)) < t538) = true := decide_eq_true c31
                                  clear c31
                                  by_cases c32 : t521 = 0
                                  · rw [if_pos c32] at H
                                    exact absurd H (by simp)
                                  · rw [if_neg c32] at H
                                    have c32b0 : (t521 == 0) = false := beq_eq_false_iff_ne.mpr c32
                                    have c32b1 : (t521 != 0) = true := bne_iff_ne.mpr c32
                                    by_cases c33 : (Int.tmod (wrap64 (t525 + t529)) t521) = 0
                                    · rw [if_pos c33] at H
                                      have c33b0 : ((Int.tmod (wrap64 (t525 + t529)) t521) == 0) = true := beq_iff_eq.mpr c33
                                      have c33b1 : ((Int.tmod (wrap64 (t525 + t529)) t521) != 0) = false := bne_eq_false_iff_eq.mpr c33
                                      clear c33
                                      by_cases c34 : t522 = 0
                                      · rw [if_pos c34] at H
                                        exact absurd H (by simp)
                                      · rw [if_neg c34] at H
                                        have c34b0 : (t522 == 0) = false := beq_eq_false_iff_ne.mpr c34
                                        have c34b1 : (t522 != 0) = true := bne_iff_ne.mpr c34
                                        by_cases c35 : (Int.tmod (wrap64 (t526 + t530)) t522) = 0
                                        · rw [if_pos c35] at H
                                          have c35b0 : ((Int.tmod (wrap64 (t526 + t530)) t522) == 0) = true := beq_iff_eq.mpr c35
                                          have c35b1 : ((Int.tmod (wrap64 (t526 + t530)) t522) != 0) = false := bne_eq_false_iff_eq.mpr c35
                                          clear c35
                                          by_cases c36 : (wrap64 (Int.tdiv (wrap64 (t525 + t529)) t521)) = (wrap64 (Int.tdiv (wrap64 (t526 + t530)) t522))
                                          · rw [if_pos c36] at H
                                            have c36b0 : ((wrap64 (Int.tdiv (wrap64 (t525 + t529)) t521)) == (wrap64 (Int.tdiv (wrap64 (t526 + t530)) t522))) = true := beq_iff_eq.mpr c36
                                            have c36b1 : ((wrap64 (Int.tdiv (wrap64 (t525 + t529)) t521)) != (wrap64 (Int.tdiv (wrap64 (t526 + t530)) t522))) = false := bne_eq_false_iff_eq.mpr c36
                                            clear c36
                                            replace H := Option.bind_eq_some_iff.mp H
                                            obtain ⟨t544, A370, H⟩ := H
                                            replace H : (some t544) = some r := H
                                            have A37 := Aside0.mk A370
                                            clear A370
                                            obtain rfl := Option.some.inj H
                                            try go_wp2_with (first | ((with_reducible refine gate_callee (f := 47) rfl ?_); refine goesL_ (some 36) rfl rfl Try.func47 (by kernel_rfl) rfl #[.int .i64 a1, .int .i64 (wrap64 (t518 - 2))] rfl (by (try simp only [List.map_toArray, List.map_cons, List.map_nil]); first | done | rfl | (simp only [List.length_drop, List.length_take]; rfl)) ?_; (with_reducible refine (galloonlaw03_mod.calls a1 (wrap64 (t518 - 2)) t520 _ A9.out).mono ?_); rintro e w' ⟨rfl, ⟨nd, rfl⟩⟩; refine ⟨_, rfl, ?_⟩; (try (rw [drewN_self wc]; generalize hq_ : World.drewN wc _ = wc; have n0_ : Aside0 (Below w.heap.size w wc) := ⟨by rw [← hq_]; exact (by repeat (first | (with_reducible first | exact HB.out | apply below_alloc | apply pw_below_drewN | apply below_drew1) | exact HB.out))⟩; clear HB hq_; have HB := n0_; clear n0_))) | ((with_reducible refine gate_callee (f := 36) rfl ?_); refine goesL_ (some 41) rfl rfl Try.func36 (by kernel_rfl) rfl #[.int .i64 (wrap64 (2 + t517)), .int .i64 (wrap64 (1 + t520))] rfl (by (try simp only [List.map_toArray, List.map_cons, List.map_nil]); first | done | rfl | (simp only [List.length_drop, List.length_take]; rfl)) ?_; (with_reducible refine (yard_Item.calls kj4 (wrap64 (2 + t517)) (wrap64 (1 + t520)) t521 t522 t523 _ A10.out).mono ?_); rintro e w38 ⟨rfl, hb⟩; refine ⟨_, rfl, ?_⟩; have n0_ := Aside0.mk (below_step (by repeat (first | (with_reducible first | exact HB.out | apply below_alloc | apply pw_below_drewN | apply below_drew1) | exact HB.out)) hb); clear HB; have HB := n0_; clear n0_; (try clear hb); (try clear hb2); (try clear hk); (try clear hi)) | ((with_reducible refine gate_dst (N := 7) rfl ?_); refine box_event ?hg (N := 7) ?hd (cs := #[.int .i64 0, .int .i64 0]) (t := 23) ?hr ?_; (case hd => rfl); (case hg => rfl); (case hr => first | (go_simp; done) | (go_simp; rfl)); intro gb524 hg w39 hbox hb; have n0_ := Aside0.mk (below_step (by repeat (first | (with_reducible first | exact HB.out | apply below_alloc | apply pw_below_drewN | apply below_drew1) | exact HB.out)) hb); have n1_ := Aside0.mk (hbox); have n2_ := Aside0.mk ((by rw [hg]; exact (below_size (by repeat (first | (with_reducible first | exact HB.out | apply below_alloc | apply pw_below_drewN | apply below_drew1) | exact HB.out))) : w.heap.size ≤ gb524)); have n3_ := Aside0.mk ((by rw [hg]; exact (below_size (by repeat (first | (with_reducible first | exact HB.out | apply below_alloc | apply pw_below_drewN | apply below_drew1) | exact HB.out))) : w.heap.size ≤ gb524)); clear HB; have HB := n0_; have BK524 := n1_; have GW524 := n2_; have GE524 := n3_; clear n0_ n1_ n2_ n3_; clear hb hbox hg; have hcz40_0 : w39.cell? ⟨gb524, 0, none⟩ = some (.int .i64 0) := (blk_cell BK524.out 0).trans rfl; have hcz40_1 : w39.cell? ⟨gb524, 1, none⟩ = some (.int .i64 0) := (blk_cell BK524.out 1).trans rfl; have hfz40_0 := blk_frozen BK524.out 0; have hfz40_1 := blk_frozen BK524.out 1) | ((with_reducible refine gate_callee (f := 45) rfl ?_); refine goesL_ (some 47) rfl rfl Try.func45 (by kernel_rfl) rfl #[.int .i64 (wrap64 (2 + t517)), .agg #[.int .i64 t521, .int .i64 t522]] rfl (by (try simp only [List.map_toArray, List.map_cons, List.map_nil]); first | done | rfl | (simp only [List.length_drop, List.length_take]; rfl)) ?_; (with_reducible refine (yard_Before.calls kj4 (wrap64 (2 + t517)) t521 t522 t525 t526 t527 _ A11.out).mono ?_); rintro e w41 ⟨rfl, hb⟩; refine ⟨_, rfl, ?_⟩; have n0_ := Aside0.mk (blk_below (g := gb524) (o := .cells #[.int .i64 t521, .int .i64 t522] 23 (0, 0)) (by (with_reducible repeat (first | refine blk_drewN ?_ _ | refine blk_drew ?_ | refine blk_alloc ?_ _)); refine blk_put (cs := #[.int .i64 t521, .int .i64 0]) ?_ 1 _ rfl; (with_reducible repeat (first | refine blk_drewN ?_ _ | refine blk_drew ?_ | refine blk_alloc ?_ _)); refine blk_put (cs := #[.int .i64 0, .int .i64 0]) ?_ 0 _ rfl; (with_reducible repeat (first | refine blk_drewN ?_ _ | refine blk_drew ?_ | refine blk_alloc ?_ _)); exact BK524.out) hb); have n1_ := Aside0.mk (below_step (by repeat (first | (with_reducible first | exact HB.out | apply below_alloc | apply pw_below_drewN | apply below_drew1 | refine below_set ?_ GE524.out) | exact HB.out)) hb); clear BK524; clear HB; have BK524 := n0_; have HB := n1_; clear n0_ n1_; (try clear hb); (try clear hb2); (try clear hk); (try clear hi)) | ((with_reducible refine gate_dst (N := 9) rfl ?_); refine box_event ?hg (N := 9) ?hd (cs := #[.int .i64 0, .int .i64 0]) (t := 23) ?hr ?_; (case hd => rfl); (case hg => rfl); (case hr => first | (go_simp; done) | (go_simp; rfl)); intro gb528 hg w42 hbox hb; have n0_ := Aside0.mk (blk_below (g := gb524) (o := .cells #[.int .i64 t521, .int .i64 t522] 23 (0, 0)) (by (with_reducible repeat (first | refine blk_drewN ?_ _ | refine blk_drew ?_ | refine blk_alloc ?_ _)); exact BK524.out) hb); have n1_ := Aside0.mk (below_step (by repeat (first | (with_reducible first | exact HB.out | apply below_alloc | apply pw_below_drewN | apply below_drew1 | refine below_set ?_ GE524.out) | exact HB.out)) hb); have n2_ := Aside0.mk (hbox); have n3_ := Aside0.mk ((by rw [hg]; exact (below_size (by repeat (first | (with_reducible first | exact HB.out | apply below_alloc | apply pw_below_drewN | apply below_drew1 | refine below_set ?_ GE524.out) | exact HB.out))) : w.heap.size ≤ gb528)); have n4_ := Aside0.mk ((by rw [hg]; exact (below_size (by repeat (first | (with_reducible first | exact HB.out | apply below_alloc | apply pw_below_drewN | apply below_drew1 | refine below_set ?_ GE524.out) | exact HB.out))) : w.heap.size ≤ gb528)); have n5_ := Aside0.mk ((by rw [hg]; exact Nat.ne_of_lt (blk_lt (g := gb524) (o := .cells #[.int .i64 t521, .int .i64 t522] 23 (0, 0)) (by (with_reducible repeat (first | refine blk_drewN ?_ _ | refine blk_drew ?_ | refine blk_alloc ?_ _)); exact BK524.out)) : gb524 ≠ gb528)); have n6_ := Aside0.mk ((by rw [hg]; exact Nat.ne_of_gt (blk_lt (g := gb524) (o := .cells #[.int .i64 t521, .int .i64 t522] 23 (0, 0)) (by (with_reducible repeat (first | refine blk_drewN ?_ _ | refine blk_drew ?_ | refine blk_alloc ?_ _)); exact BK524.out)) : gb528 ≠ gb524)); clear BK524; clear HB; have BK524 := n0_; have HB := n1_; have BK528 := n2_; have GW528 := n3_; have GE528 := n4_; have NB524_528 := n5_; have NB528_524 := n6_; clear n0_ n1_ n2_ n3_ n4_ n5_ n6_; clear hb hbox hg; have hnb43 := NB528_524.out; have hnc43 := NB524_528.out; have hcz44_0 : w42.cell? ⟨gb528, 0, none⟩ = some (.int .i64 0) := (blk_cell BK528.out 0).trans rfl; have hcz44_1 : w42.cell? ⟨gb528, 1, none⟩ = some (.int .i64 0) := (blk_cell BK528.out 1).trans rfl; have hfz44_0 := blk_frozen BK528.out 0; have hfz44_1 := blk_frozen BK528.out 1; have hcz45_0 : w42.cell? ⟨gb524, 0, none⟩ = some (.int .i64 t521) := (blk_cell BK524.out 0).trans rfl; have hcz45_1 : w42.cell? ⟨gb524, 1, none⟩ = some (.int .i64 t522) := (blk_cell BK524.out 1).trans rfl; have hfz45_0 := blk_frozen BK524.out 0; have hfz45_1 := blk_frozen BK524.out 1) | ((with_reducible refine gate_callee (f := 46) rfl ?_); refine goesL_ (some 53) rfl rfl Try.func46 (by kernel_rfl) rfl #[.int .i64 (wrap64 (2 + t517)), .agg #[.int .i64 t521, .int .i64 t522]] rfl (by (try simp only [List.map_toArray, List.map_cons, List.map_nil]); first | done | rfl | (simp only [List.length_drop, List.length_take]; rfl)) ?_; (with_reducible refine (yard_Next.calls kj4 (wrap64 (2 + t517)) t521 t522 t529 t530 t531 _ A12.out).mono ?_); rintro e w46 ⟨rfl, hb⟩; refine ⟨_, rfl, ?_⟩; have n0_ := Aside0.mk (blk_below (g := gb524) (o := .cells #[.int .i64 t521, .int .i64 t522] 23 (0, 0)) (by (with_reducible repeat (first | refine blk_drewN ?_ _ | refine blk_drew ?_ | refine blk_alloc ?_ _)); refine blk_far ?_ NB524_528.out _; (with_reducible repeat (first | refine blk_drewN ?_ _ | refine blk_drew ?_ | refine blk_alloc ?_ _)); refine blk_far ?_ NB524_528.out _; (with_reducible repeat (first | refine blk_drewN ?_ _ | refine blk_drew ?_ | refine blk_alloc ?_ _)); exact BK524.out) hb); have n1_ := Aside0.mk (blk_below (g := gb528) (o := .cells #[.int .i64 t525, .int .i64 t526] 23 (0, 0)) (by (with_reducible repeat (first | refine blk_drewN ?_ _ | refine blk_drew ?_ | refine blk_alloc ?_ _)); refine blk_put (cs := #[.int .i64 t525, .int .i64 0]) ?_ 1 _ rfl; (with_reducible repeat (first | refine blk_drewN ?_ _ | refine blk_drew ?_ | refine blk_alloc ?_ _)); refine blk_put (cs := #[.int .i64 0, .int .i64 0]) ?_ 0 _ rfl; (with_reducible repeat (first | refine blk_drewN ?_ _ | refine blk_drew ?_ | refine blk_alloc ?_ _)); exact BK528.out) hb); have n2_ := Aside0.mk (below_step (by repeat (first | (with_reducible first | exact HB.out | apply below_alloc | apply pw_below_drewN | apply below_drew1 | refine below_set ?_ GE524.out | refine below_set ?_ GE528.out) | exact HB.out)) hb); clear BK524; clear BK528; clear HB; have BK524 := n0_; have BK528 := n1_; have HB := n2_; clear n0_ n1_ n2_; (try clear hb); (try clear hb2); (try clear hk); (try clear hi)) | ((with_reducible refine gate_dst (N := 11) rfl ?_); refine box_event ?hg (N := 11) ?hd (cs := #[.int .i64 0, .int .i64 0]) (t := 23) ?hr ?_; (case hd => rfl); (case hg => rfl); (case hr => first | (go_simp; done) | (go_simp; rfl)); intro gb532 hg w47 hbox hb; have n0_ := Aside0.mk (blk_below (g := gb524) (o := .cells #[.int .i64 t521, .int .i64 t522] 23 (0, 0)) (by (with_reducible repeat (first | refine blk_drewN ?_ _ | refine blk_drew ?_ | refine blk_alloc ?_ _)); exact BK524.out) hb); have n1_ := Aside0.mk (blk_below (g := gb528) (o := .cells #[.int .i64 t525, .int .i64 t526] 23 (0, 0)) (by (with_reducible repeat (first | refine blk_drewN ?_ _ | refine blk_drew ?_ | refine blk_alloc ?_ _)); exact BK528.out) hb); have n2_ := Aside0.mk (below_step (by repeat (first | (with_reducible first | exact HB.out | apply below_alloc | apply pw_below_drewN | apply below_drew1 | refine below_set ?_ GE524.out | refine below_set ?_ GE528.out) | exact HB.out)) hb); have n3_ := Aside0.mk (hbox); have n4_ := Aside0.mk ((by rw [hg]; exact (below_size (by repeat (first | (with_reducible first | exact HB.out | apply below_alloc | apply pw_below_drewN | apply below_drew1 | refine below_set ?_ GE524.out | refine below_set ?_ GE528.out) | exact HB.out))) : w.heap.size ≤ gb532)); have n5_ := Aside0.mk ((by rw [hg]; exact (below_size (by repeat (first | (with_reducible first | exact HB.out | apply below_alloc | apply pw_below_drewN | apply below_drew1 | refine below_set ?_ GE524.out | refine below_set ?_ GE528.out) | exact HB.out))) : w.heap.size ≤ gb532)); have n6_ := Aside0.mk ((by rw [hg]; exact Nat.ne_of_lt (blk_lt (g := gb524) (o := .cells #[.int .i64 t521, .int .i64 t522] 23 (0, 0)) (by (with_reducible repeat (first | refine blk_drewN ?_ _ | refine blk_drew ?_ | refine blk_alloc ?_ _)); exact BK524.out)) : gb524 ≠ gb532)); have n7_ := Aside0.mk ((by rw [hg]; exact Nat.ne_of_gt (blk_lt (g := gb524) (o := .cells #[.int .i64 t521, .int .i64 t522] 23 (0, 0)) (by (with_reducible repeat (first | refine blk_drewN ?_ _ | refine blk_drew ?_ | refine blk_alloc ?_ _)); exact BK524.out)) : gb532 ≠ gb524)); have n8_ := Aside0.mk ((by rw [hg]; exact Nat.ne_of_lt (blk_lt (g := gb528) (o := .cells #[.int .i64 t525, .int .i64 t526] 23 (0, 0)) (by (with_reducible repeat (first | refine blk_drewN ?_ _ | refine blk_drew ?_ | refine blk_alloc ?_ _)); exact BK528.out)) : gb528 ≠ gb532)); have n9_ := Aside0.mk ((by rw [hg]; exact Nat.ne_of_gt (blk_lt (g := gb528) (o := .cells #[.int .i64 t525, .int .i64 t526] 23 (0, 0)) (by (with_reducible repeat (first | refine blk_drewN ?_ _ | refine blk_drew ?_ | refine blk_alloc ?_ _)); exact BK528.out)) : gb532 ≠ gb528)); clear BK524; clear BK528; clear HB; have BK524 := n0_; have BK528 := n1_; have HB := n2_; have BK532 := n3_; have GW532 := n4_; have GE532 := n5_; have NB524_532 := n6_; have NB532_524 := n7_; have NB528_532 := n8_; have NB532_528 := n9_; clear n0_ n1_ n2_ n3_ n4_ n5_ n6_ n7_ n8_ n9_; clear hb hbox hg; have hnb48 := NB532_524.out; have hnc48 := NB524_532.out; have hnb49 := NB532_528.out; have hnc49 := NB528_532.out; have hcz50_0 : w47.cell? ⟨gb532, 0, none⟩ = some (.int .i64 0) := (blk_cell BK532.out 0).trans rfl; have hcz50_1 : w47.cell? ⟨gb532, 1, none⟩ = some (.int .i64 0) := (blk_cell BK532.out 1).trans rfl; have hfz50_0 := blk_frozen BK532.out 0; have hfz50_1 := blk_frozen BK532.out 1; have hcz51_0 : w47.cell? ⟨gb528, 0, none⟩ = some (.int .i64 t525) := (blk_cell BK528.out 0).trans rfl; have hcz51_1 : w47.cell? ⟨gb528, 1, none⟩ = some (.int .i64 t526) := (blk_cell BK528.out 1).trans rfl; have hfz51_0 := blk_frozen BK528.out 0; have hfz51_1 := blk_frozen BK528.out 1; have hcz52_0 : w47.cell? ⟨gb524, 0, none⟩ = some (.int .i64 t521) := (blk_cell BK524.out 0).trans rfl; have hcz52_1 : w47.cell? ⟨gb524, 1, none⟩ = some (.int .i64 t522) := (blk_cell BK524.out 1).trans rfl; have hfz52_0 := blk_frozen BK524.out 0; have hfz52_1 := blk_frozen BK524.out 1) | ((with_reducible refine gate_callee (f := 32) rfl ?_); refine goesL_ (some 59) rfl rfl Try.func32 (by kernel_rfl) rfl #[.agg #[.int .i64 t525, .int .i64 t526], .agg #[.int .i64 t521, .int .i64 t522]] rfl (by (try simp only [List.map_toArray, List.map_cons, List.map_nil]); first | done | rfl | (simp only [List.length_drop, List.length_take]; rfl)) ?_; (with_reducible refine (yard_Neighbors.calls kj4 t525 t526 t521 t522 true t534 _ A13.out).mono ?_); rintro e w53 ⟨rfl, hb⟩; refine ⟨_, rfl, ?_⟩; have n0_ := Aside0.mk (blk_below (g := gb524) (o := .cells #[.int .i64 t521, .int .i64 t522] 23 (0, 0)) (by (with_reducible repeat (first | refine blk_drewN ?_ _ | refine blk_drew ?_ | refine blk_alloc ?_ _)); refine blk_far ?_ NB524_532.out _; (with_reducible repeat (first | refine blk_drewN ?_ _ | refine blk_drew ?_ | refine blk_alloc ?_ _)); refine blk_far ?_ NB524_532.out _; (with_reducible repeat (first | refine blk_drewN ?_ _ | refine blk_drew ?_ | refine blk_alloc ?_ _)); exact BK524.out) hb); have n1_ := Aside0.mk (blk_below (g := gb528) (o := .cells #[.int .i64 t525, .int .i64 t526] 23 (0, 0)) (by (with_reducible repeat (first | refine blk_drewN ?_ _ | refine blk_drew ?_ | refine blk_alloc ?_ _)); refine blk_far ?_ NB528_532.out _; (with_reducible repeat (first | refine blk_drewN ?_ _ | refine blk_drew ?_ | refine blk_alloc ?_ _)); refine blk_far ?_ NB528_532.out _; (with_reducible repeat (first | refine blk_drewN ?_ _ | refine blk_drew ?_ | refine blk_alloc ?_ _)); exact BK528.out) hb); have n2_ := Aside0.mk (blk_below (g := gb532) (o := .cells #[.int .i64 t529, .int .i64 t530] 23 (0, 0)) (by (with_reducible repeat (first | refine blk_drewN ?_ _ | refine blk_drew ?_ | refine blk_alloc ?_ _)); refine blk_put (cs := #[.int .i64 t529, .int .i64 0]) ?_ 1 _ rfl; (with_reducible repeat (first | refine blk_drewN ?_ _ | refine blk_drew ?_ | refine blk_alloc ?_ _)); refine blk_put (cs := #[.int .i64 0, .int .i64 0]) ?_ 0 _ rfl; (with_reducible repeat (first | refine blk_drewN ?_ _ | refine blk_drew ?_ | refine blk_alloc ?_ _)); exact BK532.out) hb); have n3_ := Aside0.mk (below_step (by repeat (first | (with_reducible first | exact HB.out | apply below_alloc | apply pw_below_drewN | apply below_drew1 | refine below_set ?_ GE524.out | refine below_set ?_ GE528.out | refine below_set ?_ GE532.out) | exact HB.out)) hb); clear BK524; clear BK528; clear BK532; clear HB; have BK524 := n0_; have BK528 := n1_; have BK532 := n2_; have HB := n3_; clear n0_ n1_ n2_ n3_; (try clear hb); (try clear hb2); (try clear hk); (try clear hi); have hcz54_0 : w53.cell? ⟨gb524, 0, none⟩ = some (.int .i64 t521) := (blk_cell BK524.out 0).trans rfl; have hcz54_1 : w53.cell? ⟨gb524, 1, none⟩ = some (.int .i64 t522) := (blk_cell BK524.out 1).trans rfl; have hfz54_0 := blk_frozen BK524.out 0; have hfz54_1 := blk_frozen BK524.out 1; have hcz55_0 : w53.cell? ⟨gb532, 0, none⟩ = some (.int .i64 t529) := (blk_cell BK532.out 0).trans rfl; have hcz55_1 : w53.cell? ⟨gb532, 1, none⟩ = some (.int .i64 t530) := (blk_cell BK532.out 1).trans rfl; have hfz55_0 := blk_frozen BK532.out 0; have hfz55_1 := blk_frozen BK532.out 1) | ((with_reducible refine gate_callee (f := 32) rfl ?_); refine goesL_ (some 65) rfl rfl Try.func32 (by kernel_rfl) rfl #[.agg #[.int .i64 t521, .int .i64 t522], .agg #[.int .i64 t529, .int .i64 t530]] rfl (by (try simp only [List.map_toArray, List.map_cons, List.map_nil]); first | done | rfl | (simp only [List.length_drop, List.length_take]; rfl)) ?_; (with_reducible refine (yard_Neighbors.calls kj4 t521 t522 t529 t530 true t536 _ A14.out).mono ?_); rintro e w56 ⟨rfl, hb⟩; refine ⟨_, rfl, ?_⟩; have n0_ := Aside0.mk (blk_below (g := gb524) (o := .cells #[.int .i64 t521, .int .i64 t522] 23 (0, 0)) (by (with_reducible repeat (first | refine blk_drewN ?_ _ | refine blk_drew ?_ | refine blk_alloc ?_ _)); exact BK524.out) hb); have n1_ := Aside0.mk (blk_below (g := gb528) (o := .cells #[.int .i64 t525, .int .i64 t526] 23 (0, 0)) (by (with_reducible repeat (first | refine blk_drewN ?_ _ | refine blk_drew ?_ | refine blk_alloc ?_ _)); exact BK528.out) hb); have n2_ := Aside0.mk (blk_below (g := gb532) (o := .cells #[.int .i64 t529, .int .i64 t530] 23 (0, 0)) (by (with_reducible repeat (first | refine blk_drewN ?_ _ | refine blk_drew ?_ | refine blk_alloc ?_ _)); exact BK532.out) hb); have n3_ := Aside0.mk (below_step (by repeat (first | (with_reducible first | exact HB.out | apply below_alloc | apply pw_below_drewN | apply below_drew1 | refine below_set ?_ GE524.out | refine below_set ?_ GE528.out | refine below_set ?_ GE532.out) | exact HB.out)) hb); clear BK524; clear BK528; clear BK532; clear HB; have BK524 := n0_; have BK528 := n1_; have BK532 := n2_; have HB := n3_; clear n0_ n1_ n2_ n3_; (try clear hb); (try clear hb2); (try clear hk); (try clear hi); have hcz57_0 : w56.cell? ⟨gb524, 0, none⟩ = some (.int .i64 t521) := (blk_cell BK524.out 0).trans rfl; have hcz57_1 : w56.cell? ⟨gb524, 1, none⟩ = some (.int .i64 t522) := (blk_cell BK524.out 1).trans rfl; have hfz57_0 := blk_frozen BK524.out 0; have hfz57_1 := blk_frozen BK524.out 1; have hcz58_0 : w56.cell? ⟨gb532, 0, none⟩ = some (.int .i64 t529) := (blk_cell BK532.out 0).trans rfl; have hcz58_1 : w56.cell? ⟨gb532, 1, none⟩ = some (.int .i64 t530) := (blk_cell BK532.out 1).trans rfl; have hfz58_0 := blk_frozen BK532.out 0; have hfz58_1 := blk_frozen BK532.out 1) | ((with_reducible refine gate_callee (f := 30) rfl ?_); refine goesL_ (some 71) rfl rfl Try.func30 (by kernel_rfl) rfl #[.agg #[.int .i64 t521, .int .i64 t522], .agg #[.int .i64 t529, .int .i64 t530]] rfl (by (try simp only [List.map_toArray, List.map_cons, List.map_nil]); first | done | rfl | (simp only [List.length_drop, List.length_take]; rfl)) ?_; (with_reducible refine (yard_Between.calls kj4 t521 t522 t529 t530 t537 t538 t539 _ A15.out).mono ?_); rintro e w59 ⟨rfl, hb⟩; refine ⟨_, rfl, ?_⟩; have n0_ := Aside0.mk (blk_below (g := gb524) (o := .cells #[.int .i64 t521, .int .i64 t522] 23 (0, 0)) (by (with_reducible repeat (first | refine blk_drewN ?_ _ | refine blk_drew ?_ | refine blk_alloc ?_ _)); exact BK524.out) hb); have n1_ := Aside0.mk (blk_below (g := gb528) (o := .cells #[.int .i64 t525, .int .i64 t526] 23 (0, 0)) (by (with_reducible repeat (first | refine blk_drewN ?_ _ | refine blk_drew ?_ | refine blk_alloc ?_ _)); exact BK528.out) hb); have n2_ := Aside0.mk (blk_below (g := gb532) (o := .cells #[.int .i64 t529, .int .i64 t530] 23 (0, 0)) (by (with_reducible repeat (first | refine blk_drewN ?_ _ | refine blk_drew ?_ | refine blk_alloc ?_ _)); exact BK532.out) hb); have n3_ := Aside0.mk (below_step (by repeat (first | (with_reducible first | exact HB.out | apply below_alloc | apply pw_below_drewN | apply below_drew1 | refine below_set ?_ GE524.out | refine below_set ?_ GE528.out | refine below_set ?_ GE532.out) | exact HB.out)) hb); clear BK524; clear BK528; clear BK532; clear HB; have BK524 := n0_; have BK528 := n1_; have BK532 := n2_; have HB := n3_; clear n0_ n1_ n2_ n3_; (try clear hb); (try clear hb2); (try clear hk); (try clear hi)) | ((with_reducible refine gate_dst (N := 17) rfl ?_); refine box_event ?hg (N := 17) ?hd (cs := #[.int .i64 0, .int .i64 0]) (t := 23) ?hr ?_; (case hd => rfl); (case hg => rfl); (case hr => first | (go_simp; done) | (go_simp; rfl)); intro gb540 hg w60 hbox hb; have n0_ := Aside0.mk (blk_below (g := gb524) (o := .cells #[.int .i64 t521, .int .i64 t522] 23 (0, 0)) (by (with_reducible repeat (first | refine blk_drewN ?_ _ | refine blk_drew ?_ | refine blk_alloc ?_ _)); exact BK524.out) hb); have n1_ := Aside0.mk (blk_below (g := gb528) (o := .cells #[.int .i64 t525, .int .i64 t526] 23 (0, 0)) (by (with_reducible repeat (first | refine blk_drewN ?_ _ | refine blk_drew ?_ | refine blk_alloc ?_ _)); exact BK528.out) hb); have n2_ := Aside0.mk (blk_below (g := gb532) (o := .cells #[.int .i64 t529, .int .i64 t530] 23 (0, 0)) (by (with_reducible repeat (first | refine blk_drewN ?_ _ | refine blk_drew ?_ | refine blk_alloc ?_ _)); exact BK532.out) hb); have n3_ := Aside0.mk (below_step (by repeat (first | (with_reducible first | exact HB.out | apply below_alloc | apply pw_below_drewN | apply below_drew1 | refine below_set ?_ GE524.out | refine below_set ?_ GE528.out | refine below_set ?_ GE532.out) | exact HB.out)) hb); have n4_ := Aside0.mk (hbox); have n5_ := Aside0.mk ((by rw [hg]; exact (below_size (by repeat (first | (with_reducible first | exact HB.out | apply below_alloc | apply pw_below_drewN | apply below_drew1 | refine below_set ?_ GE524.out | refine below_set ?_ GE528.out | refine below_set ?_ GE532.out) | exact HB.out))) : w.heap.size ≤ gb540)); have n6_ := Aside0.mk ((by rw [hg]; exact (below_size (by repeat (first | (with_reducible first | exact HB.out | apply below_alloc | apply pw_below_drewN | apply below_drew1 | refine below_set ?_ GE524.out | refine below_set ?_ GE528.out | refine below_set ?_ GE532.out) | exact HB.out))) : w.heap.size ≤ gb540)); have n7_ := Aside0.mk ((by rw [hg]; exact Nat.ne_of_lt (blk_lt (g := gb524) (o := .cells #[.int .i64 t521, .int .i64 t522] 23 (0, 0)) (by (with_reducible repeat (first | refine blk_drewN ?_ _ | refine blk_drew ?_ | refine blk_alloc ?_ _)); exact BK524.out)) : gb524 ≠ gb540)); have n8_ := Aside0.mk ((by rw [hg]; exact Nat.ne_of_gt (blk_lt (g := gb524) (o := .cells #[.int .i64 t521, .int .i64 t522] 23 (0, 0)) (by (with_reducible repeat (first | refine blk_drewN ?_ _ | refine blk_drew ?_ | refine blk_alloc ?_ _)); exact BK524.out)) : gb540 ≠ gb524)); have n9_ := Aside0.mk ((by rw [hg]; exact Nat.ne_of_lt (blk_lt (g := gb528) (o := .cells #[.int .i64 t525, .int .i64 t526] 23 (0, 0)) (by (with_reducible repeat (first | refine blk_drewN ?_ _ | refine blk_drew ?_ | refine blk_alloc ?_ _)); exact BK528.out)) : gb528 ≠ gb540)); have n10_ := Aside0.mk ((by rw [hg]; exact Nat.ne_of_gt (blk_lt (g := gb528) (o := .cells #[.int .i64 t525, .int .i64 t526] 23 (0, 0)) (by (with_reducible repeat (first | refine blk_drewN ?_ _ | refine blk_drew ?_ | refine blk_alloc ?_ _)); exact BK528.out)) : gb540 ≠ gb528)); have n11_ := Aside0.mk ((by rw [hg]; exact Nat.ne_of_lt (blk_lt (g := gb532) (o := .cells #[.int .i64 t529, .int .i64 t530] 23 (0, 0)) (by (with_reducible repeat (first | refine blk_drewN ?_ _ | refine blk_drew ?_ | refine blk_alloc ?_ _)); exact BK532.out)) : gb532 ≠ gb540)); have n12_ := Aside0.mk ((by rw [hg]; exact Nat.ne_of_gt (blk_lt (g := gb532) (o := .cells #[.int .i64 t529, .int .i64 t530] 23 (0, 0)) (by (with_reducible repeat (first | refine blk_drewN ?_ _ | refine blk_drew ?_ | refine blk_alloc ?_ _)); exact BK532.out)) : gb540 ≠ gb532)); clear BK524; clear BK528; clear BK532; clear HB; have BK524 := n0_; have BK528 := n1_; have BK532 := n2_; have HB := n3_; have BK540 := n4_; have GW540 := n5_; have GE540 := n6_; have NB524_540 := n7_; have NB540_524 := n8_; have NB528_540 := n9_; have NB540_528 := n10_; have NB532_540 := n11_; have NB540_532 := n12_; clear n0_ n1_ n2_ n3_ n4_ n5_ n6_ n7_ n8_ n9_ n10_ n11_ n12_; clear hb hbox hg; have hnb61 := NB540_524.out; have hnc61 := NB524_540.out; have hnb62 := NB540_528.out; have hnc62 := NB528_540.out; have hnb63 := NB540_532.out; have hnc63 := NB532_540.out; have hcz64_0 : w60.cell? ⟨gb540, 0, none⟩ = some (.int .i64 0) := (blk_cell BK540.out 0).trans rfl; have hcz64_1 : w60.cell? ⟨gb540, 1, none⟩ = some (.int .i64 0) := (blk_cell BK540.out 1).trans rfl; have hfz64_0 := blk_frozen BK540.out 0; have hfz64_1 := blk_frozen BK540.out 1; have hcz65_0 : w60.cell? ⟨gb524, 0, none⟩ = some (.int .i64 t521) := (blk_cell BK524.out 0).trans rfl; have hcz65_1 : w60.cell? ⟨gb524, 1, none⟩ = some (.int .i64 t522) := (blk_cell BK524.out 1).trans rfl; have hfz65_0 := blk_frozen BK524.out 0; have hfz65_1 := blk_frozen BK524.out 1) | (go_at_call 20; (with_reducible refine (galloonref03_Valid.calls kj4 t521 t522 true _ A24.out).mono ?_); rintro e w66 ⟨rfl, hb⟩; have n0_ := Aside0.mk (blk_below (g := gb524) (o := .cells #[.int .i64 t521, .int .i64 t522] 23 (0, 0)) (by (with_reducible repeat (first | refine blk_drewN ?_ _ | refine blk_drew ?_ | refine blk_alloc ?_ _)); refine blk_far ?_ NB524_540.out _; (with_reducible repeat (first | refine blk_drewN ?_ _ | refine blk_drew ?_ | refine blk_alloc ?_ _)); refine blk_far ?_ NB524_540.out _; (with_reducible repeat (first | refine blk_drewN ?_ _ | refine blk_drew ?_ | refine blk_alloc ?_ _)); exact BK524.out) hb); have n1_ := Aside0.mk (blk_below (g := gb528) (o := .cells #[.int .i64 t525, .int .i64 t526] 23 (0, 0)) (by (with_reducible repeat (first | refine blk_drewN ?_ _ | refine blk_drew ?_ | refine blk_alloc ?_ _)); refine blk_far ?_ NB528_540.out _; (with_reducible repeat (first | refine blk_drewN ?_ _ | refine blk_drew ?_ | refine blk_alloc ?_ _)); refine blk_far ?_ NB528_540.out _; (with_reducible repeat (first | refine blk_drewN ?_ _ | refine blk_drew ?_ | refine blk_alloc ?_ _)); exact BK528.out) hb); have n2_ := Aside0.mk (blk_below (g := gb532) (o := .cells #[.int .i64 t529, .int .i64 t530] 23 (0, 0)) (by (with_reducible repeat (first | refine blk_drewN ?_ _ | refine blk_drew ?_ | refine blk_alloc ?_ _)); refine blk_far ?_ NB532_540.out _; (with_reducible repeat (first | refine blk_drewN ?_ _ | refine blk_drew ?_ | refine blk_alloc ?_ _)); refine blk_far ?_ NB532_540.out _; (with_reducible repeat (first | refine blk_drewN ?_ _ | refine blk_drew ?_ | refine blk_alloc ?_ _)); exact BK532.out) hb); have n3_ := Aside0.mk (blk_below (g := gb540) (o := .cells #[.int .i64 t537, .int .i64 t538] 23 (0, 0)) (by (with_reducible repeat (first | refine blk_drewN ?_ _ | refine blk_drew ?_ | refine blk_alloc ?_ _)); refine blk_put (cs := #[.int .i64 t537, .int .i64 0]) ?_ 1 _ rfl; (with_reducible repeat (first | refine blk_drewN ?_ _ | refine blk_drew ?_ | refine blk_alloc ?_ _)); refine blk_put (cs := #[.int .i64 0, .int .i64 0]) ?_ 0 _ rfl; (with_reducible repeat (first | refine blk_drewN ?_ _ | refine blk_drew ?_ | refine blk_alloc ?_ _)); exact BK540.out) hb); have n4_ := Aside0.mk (below_step (by repeat (first | (with_reducible first | exact HB.out | apply below_alloc | apply pw_below_drewN | apply below_drew1 | refine below_set ?_ GE524.out | refine below_set ?_ GE528.out | refine below_set ?_ GE532.out | refine below_set ?_ GE540.out) | exact HB.out)) hb); clear BK524; clear BK528; clear BK532; clear BK540; clear HB; have BK524 := n0_; have BK528 := n1_; have BK532 := n2_; have BK540 := n3_; have HB := n4_; clear n0_ n1_ n2_ n3_ n4_; (try clear hb); (try clear hb2); (try clear hk); (try clear hi); have hcz67_0 : w66.cell? ⟨gb528, 0, none⟩ = some (.int .i64 t525) := (blk_cell BK528.out 0).trans rfl; have hcz67_1 : w66.cell? ⟨gb528, 1, none⟩ = some (.int .i64 t526) := (blk_cell BK528.out 1).trans rfl; have hfz67_0 := blk_frozen BK528.out 0; have hfz67_1 := blk_frozen BK528.out 1) | (go_at_call 20; (with_reducible refine (galloonref03_Valid.calls kj4 t525 t526 true _ A26.out).mono ?_); rintro e w68 ⟨rfl, hb⟩; have n0_ := Aside0.mk (blk_below (g := gb524) (o := .cells #[.int .i64 t521, .int .i64 t522] 23 (0, 0)) (by (with_reducible repeat (first | refine blk_drewN ?_ _ | refine blk_drew ?_ | refine blk_alloc ?_ _)); exact BK524.out) hb); have n1_ := Aside0.mk (blk_below (g := gb528) (o := .cells #[.int .i64 t525, .int .i64 t526] 23 (0, 0)) (by (with_reducible repeat (first | refine blk_drewN ?_ _ | refine blk_drew ?_ | refine blk_alloc ?_ _)); exact BK528.out) hb); have n2_ := Aside0.mk (blk_below (g := gb532) (o := .cells #[.int .i64 t529, .int .i64 t530] 23 (0, 0)) (by (with_reducible repeat (first | refine blk_drewN ?_ _ | refine blk_drew ?_ | refine blk_alloc ?_ _)); exact BK532.out) hb); have n3_ := Aside0.mk (blk_below (g := gb540) (o := .cells #[.int .i64 t537, .int .i64 t538] 23 (0, 0)) (by (with_reducible repeat (first | refine blk_drewN ?_ _ | refine blk_drew ?_ | refine blk_alloc ?_ _)); exact BK540.out) hb); have n4_ := Aside0.mk (below_step (by repeat (first | (with_reducible first | exact HB.out | apply below_alloc | apply pw_below_drewN | apply below_drew1 | refine below_set ?_ GE524.out | refine below_set ?_ GE528.out | refine below_set ?_ GE532.out | refine below_set ?_ GE540.out) | exact HB.out)) hb); clear BK524; clear BK528; clear BK532; clear BK540; clear HB; have BK524 := n0_; have BK528 := n1_; have BK532 := n2_; have BK540 := n3_; have HB := n4_; clear n0_ n1_ n2_ n3_ n4_; (try clear hb); (try clear hb2); (try clear hk); (try clear hi); have hcz69_0 : w68.cell? ⟨gb532, 0, none⟩ = some (.int .i64 t529) := (blk_cell BK532.out 0).trans rfl; have hcz69_1 : w68.cell? ⟨gb532, 1, none⟩ = some (.int .i64 t530) := (blk_cell BK532.out 1).trans rfl; have hfz69_0 := blk_frozen BK532.out 0; have hfz69_1 := blk_frozen BK532.out 1) | (go_at_call 20; (with_reducible refine (galloonref03_Valid.calls kj4 t529 t530 true _ A28.out).mono ?_); rintro e w70 ⟨rfl, hb⟩; have n0_ := Aside0.mk (blk_below (g := gb524) (o := .cells #[.int .i64 t521, .int .i64 t522] 23 (0, 0)) (by (with_reducible repeat (first | refine blk_drewN ?_ _ | refine blk_drew ?_ | refine blk_alloc ?_ _)); exact BK524.out) hb); have n1_ := Aside0.mk (blk_below (g := gb528) (o := .cells #[.int .i64 t525, .int .i64 t526] 23 (0, 0)) (by (with_reducible repeat (first | refine blk_drewN ?_ _ | refine blk_drew ?_ | refine blk_alloc ?_ _)); exact BK528.out) hb); have n2_ := Aside0.mk (blk_below (g := gb532) (o := .cells #[.int .i64 t529, .int .i64 t530] 23 (0, 0)) (by (with_reducible repeat (first | refine blk_drewN ?_ _ | refine blk_drew ?_ | refine blk_alloc ?_ _)); exact BK532.out) hb); have n3_ := Aside0.mk (blk_below (g := gb540) (o := .cells #[.int .i64 t537, .int .i64 t538] 23 (0, 0)) (by (with_reducible repeat (first | refine blk_drewN ?_ _ | refine blk_drew ?_ | refine blk_alloc ?_ _)); exact BK540.out) hb); have n4_ := Aside0.mk (below_step (by repeat (first | (with_reducible first | exact HB.out | apply below_alloc | apply pw_below_drewN | apply below_drew1 | refine below_set ?_ GE524.out | refine below_set ?_ GE528.out | refine below_set ?_ GE532.out | refine below_set ?_ GE540.out) | exact HB.out)) hb); clear BK524; clear BK528; clear BK532; clear BK540; clear HB; have BK524 := n0_; have BK528 := n1_; have BK532 := n2_; have BK540 := n3_; have HB := n4_; clear n0_ n1_ n2_ n3_ n4_; (try clear hb); (try clear hb2); (try clear hk); (try clear hi)))
                                            have n0_ := Aside0.mk (blk_drew BK524.out)
                                            have n1_ := Aside0.mk (blk_drew BK528.out)
                                            have n2_ := Aside0.mk (blk_drew BK532.out)
                                            have n3_ := Aside0.mk (blk_drew BK540.out)
                                            have n4_ := Aside0.mk (below_drew1 HB.out)
                                            clear BK524
                                            clear BK528
                                            clear BK532
                                            clear BK540
                                            clear HB
                                            have BK524 := n0_
                                            have BK528 := n1_
                                            have BK532 := n2_
                                            have BK540 := n3_
                                            have HB := n4_
                                            clear n0_ n1_ n2_ n3_ n4_
                                            refine start_ (n := 64) (S := fun w' => w'.cell? ⟨gb540, 0, none⟩ = some (.int .i64 t537) ∧ w'.cell? ⟨gb540, 1, none⟩ = some (.int .i64 t538) ∧ w'.cell? ⟨gb524, 0, none⟩ = some (.int .i64 t521) ∧ w'.cell? ⟨gb524, 1, none⟩ = some (.int .i64 t522) ∧ w'.cell? ⟨gb532, 0, none⟩ = some (.int .i64 t529) ∧ w'.cell? ⟨gb532, 1, none⟩ = some (.int .i64 t530) ∧ w'.cell? ⟨gb528, 0, none⟩ = some (.int .i64 t525) ∧ w'.cell? ⟨gb528, 1, none⟩ = some (.int .i64 t526)) (ds := []) #[false, false, false, false, false, false, false, false, false, false, false, false, false, false, false, false, false, false, false, false, false, false, false, false, false, false, false, false, false, false, false, false, false, false, false, false, false, false, false, false, false, false, false, false, false, false, false, false, false, false, false, false, false, false, false, false, false, false, false, false, false, false, false, false] (by kernel_rfl) rfl rfl ⟨(blk_cell BK540.out 0).trans rfl, (blk_cell BK540.out 1).trans rfl, (blk_cell BK524.out 0).trans rfl, (blk_cell BK524.out 1).trans rfl, (blk_cell BK532.out 0).trans rfl, (blk_cell BK532.out 1).trans rfl, (blk_cell BK528.out 0).trans rfl, (blk_cell BK528.out 1).trans rfl⟩ (fun hHeld => ?_); refine with_tabW galloonlaw03_YardAdjacent.tab14 galloonlaw03_YardAdjacent.bits14 (fun HT_ HW_ => ?_)
                                            generalize w70.drew = w71 at BK524 BK528 BK532 BK540 HB hHeld ⊢
                                            refine pure_ (i := 1) (N := some 120) (v := ?_) (a' := ?_) #[false, true, false, false, false, false, false, false, false, false, false, false, false, false, false, false, false, false, false, false, false, false, false, false, false, false, false, false, false, false, false, false, false, false, false, false, false, false, false, false, false, false, false, false, false, false, false, false, false, false, false, false, false, false, false, false, false, false, false, false, false, false, false, false] rfl rfl (any_of HT_.out (by kernel_rfl)) (fun _ _ _ h => h) (Or.inl ⟨by rfl, ?_⟩) ?_ ?_
                                            rotate_left
                                            · intro w'
                                              go_simp
                                              with_reducible rfl
                                            rotate_left
                                            · simp only [Act.put, List.setIfInBounds_toArray, List.set_cons_zero, List.set_cons_succ, i64_w, i32_w]
                                              rfl
                                            refine pure_ (i := 3) (N := some 122) (v := ?_) (a' := ?_) #[false, true, false, true, false, false, false, false, false, false, false, false, false, false, false, false, false, false, false, false, false, false, false, false, false, false, false, false, false, false, false, false, false, false, false, false, false, false, false, false, false, false, false, false, false, false, false, false, false, false, false, false, false, false, false, false, false, false, false, false, false, false, false, false] rfl rfl (any_of HT_.out (by kernel_rfl)) (fun _ _ _ h => h) (Or.inl ⟨by rfl, ?_⟩) ?_ ?_
                                            rotate_left
                                            · intro w'
                                              go_simp
                                              with_reducible rfl
                                            rotate_left
                                            · simp only [Act.put, List.setIfInBounds_toArray, List.set_cons_zero, List.set_cons_succ, i64_w, i32_w]
                                              rfl
                                            refine pure_ (i := 6) (N := some 125) (v := ?_) (a' := ?_) #[false, true, false, true, false, false, true, false, false, false, false, false, false, false, false, false, false, false, false, false, false, false, false, false, false, false, false, false, false, false, false, false, false, false, false, false, false, false, false, false, false, false, false, false, false, false, false, false, false, false, false, false, false, false, false, false, false, false, false, false, false, false, false, false] rfl rfl (any_of HT_.out (by kernel_rfl)) (fun _ _ _ h => h) (Or.inl ⟨by rfl, ?_⟩) ?_ ?_
                                            rotate_left
                                            · intro w'
                                              go_simp
                                              with_reducible rfl
                                            rotate_left
                                            · simp only [Act.put, List.setIfInBounds_toArray, List.set_cons_zero, List.set_cons_succ, i64_w, i32_w]
                                              rfl
                                            refine pure_ (i := 8) (N := some 127) (v := ?_) (a' := ?_) #[false, true, false, true, false, false, true, false, true, false, false, false, false, false, false, false, false, false, false, false, false, false, false, false, false, false, false, false, false, false, false, false, false, false, false, false, false, false, false, false, false, false, false, false, false, false, false, false, false, false, false, false, false, false, false, false, false, false, false, false, false, false, false, false] rfl rfl (any_of HT_.out (by kernel_rfl)) (fun _ _ _ h => h) (Or.inl ⟨by rfl, ?_⟩) ?_ ?_
                                            rotate_left
                                            · intro w'
                                              go_simp
                                              with_reducible rfl
                                            rotate_left
                                            · simp only [Act.put, List.setIfInBounds_toArray, List.set_cons_zero, List.set_cons_succ, i64_w, i32_w]
                                              rfl
                                            refine take_ (i := 0) (N := some 119) (v := ?_) (a' := ?_) #[true, true, false, true, false, false, true, false, true, false, false, false, false, false, false, false, false, false, false, false, false, false, false, false, false, false, false, false, false, false, false, false, false, false, false, false, false, false, false, false, false, false, false, false, false, false, false, false, false, false, false, false, false, false, false, false, false, false, false, false, false, false, false, false] rfl rfl (take_ofW HT_.out HW_.out (by kernel_rfl)) (fun _ _ _ h => h) (Or.inl ⟨by rfl, ?_⟩) hHeld ?_ ?_
                                            rotate_left
                                            · rintro w' ⟨s0, s1, s2, s3, s4, s5, s6, s7⟩
                                              go_simp
                                              with_reducible rfl
                                            rotate_left
                                            · simp only [Act.put, List.setIfInBounds_toArray, List.set_cons_zero, List.set_cons_succ, i64_w, i32_w]
                                              rfl
                                            refine take_ (i := 2) (N := some 121) (v := ?_) (a' := ?_) #[true, true, true, true, false, false, true, false, true, false, false, false, false, false, false, false, false, false, false, false, false, false, false, false, false, false, false, false, false, false, false, false, false, false, false, false, false, false, false, false, false, false, false, false, false, false, false, false, false, false, false, false, false, false, false, false, false, false, false, false, false, false, false, false] rfl rfl (take_ofW HT_.out HW_.out (by kernel_rfl)) (fun _ _ _ h => h) (Or.inl ⟨by rfl, ?_⟩) hHeld ?_ ?_
                                            rotate_left
                                            · rintro w' ⟨s0, s1, s2, s3, s4, s5, s6, s7⟩
                                              go_simp
                                              with_reducible rfl
                                            rotate_left
                                            · simp only [Act.put, List.setIfInBounds_toArray, List.set_cons_zero, List.set_cons_succ, i64_w, i32_w]
                                              rfl
                                            refine take_ (i := 4) (N := some 123) (v := ?_) (a' := ?_) #[true, true, true, true, true, false, true, false, true, false, false, false, false, false, false, false, false, false, false, false, false, false, false, false, false, false, false, false, false, false, false, false, false, false, false, false, false, false, false, false, false, false, false, false, false, false, false, false, false, false, false, false, false, false, false, false, false, false, false, false, false, false, false, false] rfl rfl (take_ofW HT_.out HW_.out (by kernel_rfl)) (fun _ _ _ h => h) (Or.inl ⟨by rfl, ?_⟩) hHeld ?_ ?_
                                            rotate_left
                                            · rintro w' ⟨s0, s1, s2, s3, s4, s5, s6, s7⟩
                                              go_simp
                                              with_reducible rfl
                                            rotate_left
                                            · simp only [Act.put, List.setIfInBounds_toArray, List.set_cons_zero, List.set_cons_succ, i64_w, i32_w]
                                              rfl
                                            refine pure_ (i := 5) (N := some 124) (v := ?_) (a' := ?_) #[true, true, true, true, true, true, true, false, true, false, false, false, false, false, false, false, false, false, false, false, false, false, false, false, false, false, false, false, false, false, false, false, false, false, false, false, false, false, false, false, false, false, false, false, false, false, false, false, false, false, false, false, false, false, false, false, false, false, false, false, false, false, false, false] rfl rfl (any_of HT_.out (by kernel_rfl)) (fun _ _ _ h => h) (Or.inl ⟨by rfl, ?_⟩) ?_ ?_
                                            rotate_left
                                            · intro w'
                                              go_simp
                                              with_reducible rfl
                                            rotate_left
                                            · simp only [Act.put, List.setIfInBounds_toArray, List.set_cons_zero, List.set_cons_succ, i64_w, i32_w]
                                              rfl
                                            refine take_ (i := 7) (N := some 126) (v := ?_) (a' := ?_) #[true, true, true, true, true, true, true, true, true, false, false, false, false, false, false, false, false, false, false, false, false, false, false, false, false, false, false, false, false, false, false, false, false, false, false, false, false, false, false, false, false, false, false, false, false, false, false, false, false, false, false, false, false, false, false, false, false, false, false, false, false, false, false, false] rfl rfl (take_ofW HT_.out HW_.out (by kernel_rfl)) (fun _ _ _ h => h) (Or.inl ⟨by rfl, ?_⟩) hHeld ?_ ?_
                                            rotate_left
                                            · rintro w' ⟨s0, s1, s2, s3, s4, s5, s6, s7⟩
                                              go_simp
                                              with_reducible rfl
                                            rotate_left
                                            · simp only [Act.put, List.setIfInBounds_toArray, List.set_cons_zero, List.set_cons_succ, i64_w, i32_w]
                                              rfl
                                            refine take_ (i := 9) (N := some 128) (v := ?_) (a' := ?_) #[true, true, true, true, true, true, true, true, true, true, false, false, false, false, false, false, false, false, false, false, false, false, false, false, false, false, false, false, false, false, false, false, false, false, false, false, false, false, false, false, false, false, false, false, false, false, false, false, false, false, false, false, false, false, false, false, false, false, false, false, false, false, false, false] rfl rfl (take_ofW HT_.out HW_.out (by kernel_rfl)) (fun _ _ _ h => h) (Or.inl ⟨by rfl, ?_⟩) hHeld ?_ ?_
                                            rotate_left
                                            · rintro w' ⟨s0, s1, s2, s3, s4, s5, s6, s7⟩
                                              go_simp
                                              with_reducible rfl
                                            rotate_left
                                            · simp only [Act.put, List.setIfInBounds_toArray, List.set_cons_zero, List.set_cons_succ, i64_w, i32_w]
                                              rfl
                                            refine pure_ (i := 10) (N := some 129) (v := ?_) (a' := ?_) #[true, true, true, true, true, true, true, true, true, true, true, false, false, false, false, false, false, false, false, false, false, false, false, false, false, false, false, false, false, false, false, false, false, false, false, false, false, false, false, false, false, false, false, false, false, false, false, false, false, false, false, false, false, false, false, false, false, false, false, false, false, false, false, false] rfl rfl (any_of HT_.out (by kernel_rfl)) (fun _ _ _ h => h) (Or.inl ⟨by rfl, ?_⟩) ?_ ?_
                                            rotate_left
                                            · intro w'
                                              go_simp
                                              with_reducible rfl
                                            rotate_left
                                            · simp only [Act.put, List.setIfInBounds_toArray, List.set_cons_zero, List.set_cons_succ, i64_w, i32_w]
                                              rfl
                                            refine pure_ (i := 11) (N := some 130) (v := ?_) (a' := ?_) #[true, true, true, true, true, true, true, true, true, true, true, true, false, false, false, false, false, false, false, false, false, false, false, false, false, false, false, false, false, false, false, false, false, false, false, false, false, false, false, false, false, false, false, false, false, false, false, false, false, false, false, false, false, false, false, false, false, false, false, false, false, false, false, false] rfl rfl (any_of HT_.out (by kernel_rfl)) (fun _ _ _ h => h) (Or.inl ⟨by rfl, ?_⟩) ?_ ?_
                                            rotate_left
                                            · intro w'
                                              go_simp
                                              with_reducible rfl
                                            rotate_left
                                            · simp only [Act.put, List.setIfInBounds_toArray, List.set_cons_zero, List.set_cons_succ, i64_w, i32_w]
                                              rfl
                                            refine pure_ (i := 12) (N := some 131) (v := ?_) (a' := ?_) #[true, true, true, true, true, true, true, true, true, true, true, true, true, false, false, false, false, false, false, false, false, false, false, false, false, false, false, false, false, false, false, false, false, false, false, false, false, false, false, false, false, false, false, false, false, false, false, false, false, false, false, false, false, false, false, false, false, false, false, false, false, false, false, false] rfl rfl (any_of HT_.out (by kernel_rfl)) (fun _ _ _ h => h) (Or.inl ⟨by rfl, ?_⟩) ?_ ?_
                                            rotate_left
                                            · intro w'
                                              go_simp
                                              with_reducible rfl
                                            rotate_left
                                            · simp only [Act.put, List.setIfInBounds_toArray, List.set_cons_zero, List.set_cons_succ, i64_w, i32_w]
                                              rfl
                                            refine pure_ (i := 13) (N := some 132) (v := ?_) (a' := ?_) #[true, true, true, true, true, true, true, true, true, true, true, true, true, true, false, false, false, false, false, false, false, false, false, false, false, false, false, false, false, false, false, false, false, false, false, false, false, false, false, false, false, false, false, false, false, false, false, false, false, false, false, false, false, false, false, false, false, false, false, false, false, false, false, false] rfl rfl (any_of HT_.out (by kernel_rfl)) (fun _ _ _ h => h) (Or.inl ⟨by rfl, ?_⟩) ?_ ?_
                                            rotate_left
                                            · intro w'
                                              go_simp
                                              with_reducible rfl
                                            rotate_left
                                            · simp only [Act.put, List.setIfInBounds_toArray, List.set_cons_zero, List.set_cons_succ, i64_w, i32_w]
                                              rfl
                                            refine pure_ (i := 14) (N := some 133) (v := ?_) (a' := ?_) #[true, true, true, true, true, true, true, true, true, true, true, true, true, true, true, false, false, false, false, false, false, false, false, false, false, false, false, false, false, false, false, false, false, false, false, false, false, false, false, false, false, false, false, false, false, false, false, false, false, false, false, false, false, false, false, false, false, false, false, false, false, false, false, false] rfl rfl (any_of HT_.out (by kernel_rfl)) (fun _ _ _ h => h) (Or.inl ⟨by rfl, ?_⟩) ?_ ?_
                                            rotate_left
                                            · intro w'
                                              go_simp
                                              with_reducible rfl
                                            rotate_left
                                            · simp only [Act.put, List.setIfInBounds_toArray, List.set_cons_zero, List.set_cons_succ, i64_w, i32_w]
                                              rfl
                                            refine pure_ (i := 16) (N := some 135) (v := ?_) (a' := ?_) #[true, true, true, true, true, true, true, true, true, true, true, true, true, true, true, false, true, false, false, false, false, false, false, false, false, false, false, false, false, false, false, false, false, false, false, false, false, false, false, false, false, false, false, false, false, false, false, false, false, false, false, false, false, false, false, false, false, false, false, false, false, false, false, false] rfl rfl (any_of HT_.out (by kernel_rfl)) (fun _ _ _ h => h) (Or.inl ⟨by rfl, ?_⟩) ?_ ?_
                                            rotate_left
                                            · intro w'
                                              go_simp
                                              with_reducible rfl
                                            rotate_left
                                            · simp only [Act.put, List.setIfInBounds_toArray, List.set_cons_zero, List.set_cons_succ, i64_w, i32_w]
                                              rfl
                                            refine take_ (i := 15) (N := some 134) (v := ?_) (a' := ?_) #[true, true, true, true, true, true, true, true, true, true, true, true, true, true, true, true, true, false, false, false, false, false, false, false, false, false, false, false, false, false, false, false, false, false, false, false, false, false, false, false, false, false, false, false, false, false, false, false, false, false, false, false, false, false, false, false, false, false, false, false, false, false, false, false] rfl rfl (take_ofW HT_.out HW_.out (by kernel_rfl)) (fun _ _ _ h => h) (Or.inl ⟨by rfl, ?_⟩) hHeld ?_ ?_
                                            rotate_left
                                            · rintro w' ⟨s0, s1, s2, s3, s4, s5, s6, s7⟩
                                              go_simp
                                              with_reducible rfl
                                            rotate_left
                                            · simp only [Act.put, List.setIfInBounds_toArray, List.set_cons_zero, List.set_cons_succ, i64_w, i32_w]
                                              rfl
                                            refine pure_ (i := 17) (N := some 136) (v := ?_) (a' := ?_) #[true, true, true, true, true, true, true, true, true, true, true, true, true, true, true, true, true, true, false, false, false, false, false, false, false, false, false, false, false, false, false, false, false, false, false, false, false, false, false, false, false, false, false, false, false, false, false, false, false, false, false, false, false, false, false, false, false, false, false, false, false, false, false, false] rfl rfl (any_of HT_.out (by kernel_rfl)) (fun _ _ _ h => h) (Or.inl ⟨by rfl, ?_⟩) ?_ ?_
                                            rotate_left
                                            · intro w'
                                              go_simp
                                              with_reducible rfl
                                            rotate_left
                                            · simp only [Act.put, List.setIfInBounds_toArray, List.set_cons_zero, List.set_cons_succ, i64_w, i32_w]
                                              rfl
                                            refine pure_ (i := 18) (N := some 137) (v := ?_) (a' := ?_) #[true, true, true, true, true, true, true, true, true, true, true, true, true, true, true, true, true, true, true, false, false, false, false, false, false, false, false, false, false, false, false, false, false, false, false, false, false, false, false, false, false, false, false, false, false, false, false, false, false, false, false, false, false, false, false, false, false, false, false, false, false, false, false, false] rfl rfl (any_of HT_.out (by kernel_rfl)) (fun _ _ _ h => h) (Or.inl ⟨by rfl, ?_⟩) ?_ ?_
                                            rotate_left
                                            · intro w'
                                              go_simp
                                              with_reducible rfl
                                            rotate_left
                                            · simp only [Act.put, List.setIfInBounds_toArray, List.set_cons_zero, List.set_cons_succ, i64_w, i32_w]
                                              rfl
                                            refine pure_ (i := 19) (N := some 138) (v := ?_) (a' := ?_) #[true, true, true, true, true, true, true, true, true, true, true, true, true, true, true, true, true, true, true, true, false, false, false, false, false, false, false, false, false, false, false, false, false, false, false, false, false, false, false, false, false, false, false, false, false, false, false, false, false, false, false, false, false, false, false, false, false, false, false, false, false, false, false, false] rfl rfl (any_of HT_.out (by kernel_rfl)) (fun _ _ _ h => h) (Or.inl ⟨by rfl, ?_⟩) ?_ ?_
                                            rotate_left
                                            · intro w'
                                              go_simp
                                              with_reducible rfl
                                            rotate_left
                                            · simp only [Act.put, List.setIfInBounds_toArray, List.set_cons_zero, List.set_cons_succ, i64_w, i32_w]
                                              rfl
                                            refine pure_ (i := 20) (N := some 139) (v := ?_) (a' := ?_) #[true, true, true, true, true, true, true, true, true, true, true, true, true, true, true, true, true, true, true, true, true, false, false, false, false, false, false, false, false, false, false, false, false, false, false, false, false, false, false, false, false, false, false, false, false, false, false, false, false, false, false, false, false, false, false, false, false, false, false, false, false, false, false, false] rfl rfl (any_of HT_.out (by kernel_rfl)) (fun _ _ _ h => h) (Or.inl ⟨by rfl, ?_⟩) ?_ ?_
                                            rotate_left
                                            · intro w'
                                              go_simp
                                              with_reducible rfl
                                            rotate_left
                                            · simp only [Act.put, List.setIfInBounds_toArray, List.set_cons_zero, List.set_cons_succ, i64_w, i32_w]
                                              rfl
                                            refine pure_ (i := 22) (N := some 141) (v := ?_) (a' := ?_) #[true, true, true, true, true, true, true, true, true, true, true, true, true, true, true, true, true, true, true, true, true, false, true, false, false, false, false, false, false, false, false, false, false, false, false, false, false, false, false, false, false, false, false, false, false, false, false, false, false, false, false, false, false, false, false, false, false, false, false, false, false, false, false, false] rfl rfl (any_of HT_.out (by kernel_rfl)) (fun _ _ _ h => h) (Or.inl ⟨by rfl, ?_⟩) ?_ ?_
                                            rotate_left
                                            · intro w'
                                              go_simp
                                              with_reducible rfl
                                            rotate_left
                                            · simp only [Act.put, List.setIfInBounds_toArray, List.set_cons_zero, List.set_cons_succ, i64_w, i32_w]
                                              rfl
                                            refine pure_ (i := 25) (N := some 144) (v := ?_) (a' := ?_) #[true, true, true, true, true, true, true, true, true, true, true, true, true, true, true, true, true, true, true, true, true, false, true, false, false, true, false, false, false, false, false, false, false, false, false, false, false, false, false, false, false, false, false, false, false, false, false, false, false, false, false, false, false, false, false, false, false, false, false, false, false, false, false, false] rfl rfl (any_of HT_.out (by kernel_rfl)) (fun _ _ _ h => h) (Or.inl ⟨by rfl, ?_⟩) ?_ ?_
                                            rotate_left
                                            · intro w'
                                              go_simp
                                              with_reducible rfl
                                            rotate_left
                                            · simp only [Act.put, List.setIfInBounds_toArray, List.set_cons_zero, List.set_cons_succ, i64_w, i32_w]
                                              rfl
                                            refine take_ (i := 21) (N := some 140) (v := ?_) (a' := ?_) #[true, true, true, true, true, true, true, true, true, true, true, true, true, true, true, true, true, true, true, true, true, true, true, false, false, true, false, false, false, false, false, false, false, false, false, false, false, false, false, false, false, false, false, false, false, false, false, false, false, false, false, false, false, false, false, false, false, false, false, false, false, false, false, false] rfl rfl (take_ofW HT_.out HW_.out (by kernel_rfl)) (fun _ _ _ h => h) (Or.inl ⟨by rfl, ?_⟩) hHeld ?_ ?_
                                            rotate_left
                                            · rintro w' ⟨s0, s1, s2, s3, s4, s5, s6, s7⟩
                                              go_simp
                                              with_reducible rfl
                                            rotate_left
                                            · simp only [Act.put, List.setIfInBounds_toArray, List.set_cons_zero, List.set_cons_succ, i64_w, i32_w]
                                              rfl
                                            refine take_ (i := 23) (N := some 142) (v := ?_) (a' := ?_) #[true, true, true, true, true, true, true, true, true, true, true, true, true, true, true, true, true, true, true, true, true, true, true, true, false, true, false, false, false, false, false, false, false, false, false, false, false, false, false, false, false, false, false, false, false, false, false, false, false, false, false, false, false, false, false, false, false, false, false, false, false, false, false, false] rfl rfl (take_ofW HT_.out HW_.out (by kernel_rfl)) (fun _ _ _ h => h) (Or.inl ⟨by rfl, ?_⟩) hHeld ?_ ?_
                                            rotate_left
                                            · rintro w' ⟨s0, s1, s2, s3, s4, s5, s6, s7⟩
                                              go_simp
                                              with_reducible rfl
                                            rotate_left
                                            · simp only [Act.put, List.setIfInBounds_toArray, List.set_cons_zero, List.set_cons_succ, i64_w, i32_w]
                                              rfl
                                            refine pure_ (i := 24) (N := some 143) (v := ?_) (a' := ?_) #[true, true, true, true, true, true, true, true, true, true, true, true, true, true, true, true, true, true, true, true, true, true, true, true, true, true, false, false, false, false, false, false, false, false, false, false, false, false, false, false, false, false, false, false, false, false, false, false, false, false, false, false, false, false, false, false, false, false, false, false, false, false, false, false] rfl rfl (any_of HT_.out (by kernel_rfl)) (fun _ _ _ h => h) (Or.inl ⟨by rfl, ?_⟩) ?_ ?_
                                            rotate_left
                                            · intro w'
                                              go_simp
                                              with_reducible rfl
                                            rotate_left
                                            · simp only [Act.put, List.setIfInBounds_toArray, List.set_cons_zero, List.set_cons_succ, i64_w, i32_w]
                                              rfl
                                            refine take_ (i := 26) (N := some 145) (v := ?_) (a' := ?_) #[true, true, true, true, true, true, true, true, true, true, true, true, true, true, true, true, true, true, true, true, true, true, true, true, true, true, true, false, false, false, false, false, false, false, false, false, false, false, false, false, false, false, false, false, false, false, false, false, false, false, false, false, false, false, false, false, false, false, false, false, false, false, false, false] rfl rfl (take_ofW HT_.out HW_.out (by kernel_rfl)) (fun _ _ _ h => h) (Or.inl ⟨by rfl, ?_⟩) hHeld ?_ ?_
                                            rotate_left
                                            · rintro w' ⟨s0, s1, s2, s3, s4, s5, s6, s7⟩
                                              go_simp
                                              with_reducible rfl
                                            rotate_left
                                            · simp only [Act.put, List.setIfInBounds_toArray, List.set_cons_zero, List.set_cons_succ, i64_w, i32_w]
                                              rfl
                                            refine pure_ (i := 27) (N := some 146) (v := ?_) (a' := ?_) #[true, true, true, true, true, true, true, true, true, true, true, true, true, true, true, true, true, true, true, true, true, true, true, true, true, true, true, true, false, false, false, false, false, false, false, false, false, false, false, false, false, false, false, false, false, false, false, false, false, false, false, false, false, false, false, false, false, false, false, false, false, false, false, false] rfl rfl (any_of HT_.out (by kernel_rfl)) (fun _ _ _ h => h) (Or.inl ⟨by rfl, ?_⟩) ?_ ?_
                                            rotate_left
                                            · intro w'
                                              go_simp
                                              with_reducible rfl
                                            rotate_left
                                            · simp only [Act.put, List.setIfInBounds_toArray, List.set_cons_zero, List.set_cons_succ, i64_w, i32_w]
                                              rfl
                                            refine pure_ (i := 28) (N := some 147) (v := ?_) (a' := ?_) #[true, true, true, true, true, true, true, true, true, true, true, true, true, true, true, true, true, true, true, true, true, true, true, true, true, true, true, true, true, false, false, false, false, false, false, false, false, false, false, false, false, false, false, false, false, false, false, false, false, false, false, false, false, false, false, false, false, false, false, false, false, false, false, false] rfl rfl (any_of HT_.out (by kernel_rfl)) (fun _ _ _ h => h) (Or.inl ⟨by rfl, ?_⟩) ?_ ?_
                                            rotate_left
                                            · intro w'
                                              go_simp
                                              with_reducible rfl
                                            rotate_left
                                            · simp only [Act.put, List.setIfInBounds_toArray, List.set_cons_zero, List.set_cons_succ, i64_w, i32_w]
                                              rfl
                                            refine pure_ (i := 29) (N := some 148) (v := ?_) (a' := ?_) #[true, true, true, true, true, true, true, true, true, true, true, true, true, true, true, true, true, true, true, true, true, true, true, true, true, true, true, true, true, true, false, false, false, false, false, false, false, false, false, false, false, false, false, false, false, false, false, false, false, false, false, false, false, false, false, false, false, false, false, false, false, false, false, false] rfl rfl (any_of HT_.out (by kernel_rfl)) (fun _ _ _ h => h) (Or.inl ⟨by rfl, ?_⟩) ?_ ?_
                                            rotate_left
                                            · intro w'
                                              go_simp
                                              with_reducible rfl
                                            rotate_left
                                            · simp only [Act.put, List.setIfInBounds_toArray, List.set_cons_zero, List.set_cons_succ, i64_w, i32_w]
                                              rfl
                                            refine pure_ (i := 30) (N := some 149) (v := ?_) (a' := ?_) #[true, true, true, true, true, true, true, true, true, true, true, true, true, true, true, true, true, true, true, true, true, true, true, true, true, true, true, true, true, true, true, false, false, false, false, false, false, false, false, false, false, false, false, false, false, false, false, false, false, false, false, false, false, false, false, false, false, false, false, false, false, false, false, false] rfl rfl (any_of HT_.out (by kernel_rfl)) (fun _ _ _ h => h) (Or.inl ⟨by rfl, ?_⟩) ?_ ?_
                                            rotate_left
                                            · intro w'
                                              go_simp
                                              with_reducible rfl
                                            rotate_left
                                            · simp only [Act.put, List.setIfInBounds_toArray, List.set_cons_zero, List.set_cons_succ, i64_w, i32_w]
                                              rfl
                                            refine pure_ (i := 31) (N := some 150) (v := ?_) (a' := ?_) #[true, true, true, true, true, true, true, true, true, true, true, true, true, true, true, true, true, true, true, true, true, true, true, true, true, true, true, true, true, true, true, true, false, false, false, false, false, false, false, false, false, false, false, false, false, false, false, false, false, false, false, false, false, false, false, false, false, false, false, false, false, false, false, false] rfl rfl (any_of HT_.out (by kernel_rfl)) (fun _ _ _ h => h) (Or.inl ⟨by rfl, ?_⟩) ?_ ?_
                                            rotate_left
                                            · intro w'
                                              go_simp
                                              with_reducible rfl
                                            rotate_left
                                            · simp only [Act.put, List.setIfInBounds_toArray, List.set_cons_zero, List.set_cons_succ, i64_w, i32_w]
                                              rfl
                                            refine pure_ (i := 33) (N := some 152) (v := ?_) (a' := ?_) #[true, true, true, true, true, true, true, true, true, true, true, true, true, true, true, true, true, true, true, true, true, true, true, true, true, true, true, true, true, true, true, true, false, true, false, false, false, false, false, false, false, false, false, false, false, false, false, false, false, false, false, false, false, false, false, false, false, false, false, false, false, false, false, false] rfl rfl (any_of HT_.out (by kernel_rfl)) (fun _ _ _ h => h) (Or.inl ⟨by rfl, ?_⟩) ?_ ?_
                                            rotate_left
                                            · intro w'
                                              go_simp
                                              with_reducible rfl
                                            rotate_left
                                            · simp only [Act.put, List.setIfInBounds_toArray, List.set_cons_zero, List.set_cons_succ, i64_w, i32_w]
                                              rfl
                                            refine pure_ (i := 36) (N := some 155) (v := ?_) (a' := ?_) #[true, true, true, true, true, true, true, true, true, true, true, true, true, true, true, true, true, true, true, true, true, true, true, true, true, true, true, true, true, true, true, true, false, true, false, false, true, false, false, false, false, false, false, false, false, false, false, false, false, false, false, false, false, false, false, false, false, false, false, false, false, false, false, false] rfl rfl (any_of HT_.out (by kernel_rfl)) (fun _ _ _ h => h) (Or.inl ⟨by rfl, ?_⟩) ?_ ?_
                                            rotate_left
                                            · intro w'
                                              go_simp
                                              with_reducible rfl
                                            rotate_left
                                            · simp only [Act.put, List.setIfInBounds_toArray, List.set_cons_zero, List.set_cons_succ, i64_w, i32_w]
                                              rfl
                                            refine take_ (i := 32) (N := some 151) (v := ?_) (a' := ?_) #[true, true, true, true, true, true, true, true, true, true, true, true, true, true, true, true, true, true, true, true, true, true, true, true, true, true, true, true, true, true, true, true, true, true, false, false, true, false, false, false, false, false, false, false, false, false, false, false, false, false, false, false, false, false, false, false, false, false, false, false, false, false, false, false] rfl rfl (take_ofW HT_.out HW_.out (by kernel_rfl)) (fun _ _ _ h => h) (Or.inl ⟨by rfl, ?_⟩) hHeld ?_ ?_
                                            rotate_left
                                            · rintro w' ⟨s0, s1, s2, s3, s4, s5, s6, s7⟩
                                              go_simp
                                              with_reducible rfl
                                            rotate_left
                                            · simp only [Act.put, List.setIfInBounds_toArray, List.set_cons_zero, List.set_cons_succ, i64_w, i32_w]
                                              rfl
                                            refine take_ (i := 34) (N := some 153) (v := ?_) (a' := ?_) #[true, true, true, true, true, true, true, true, true, true, true, true, true, true, true, true, true, true, true, true, true, true, true, true, true, true, true, true, true, true, true, true, true, true, true, false, true, false, false, false, false, false, false, false, false, false, false, false, false, false, false, false, false, false, false, false, false, false, false, false, false, false, false, false] rfl rfl (take_ofW HT_.out HW_.out (by kernel_rfl)) (fun _ _ _ h => h) (Or.inl ⟨by rfl, ?_⟩) hHeld ?_ ?_
                                            rotate_left
                                            · rintro w' ⟨s0, s1, s2, s3, s4, s5, s6, s7⟩
                                              go_simp
                                              with_reducible rfl
                                            rotate_left
                                            · simp only [Act.put, List.setIfInBounds_toArray, List.set_cons_zero, List.set_cons_succ, i64_w, i32_w]
                                              rfl
                                            refine pure_ (i := 35) (N := some 154) (v := ?_) (a' := ?_) #[true, true, true, true, true, true, true, true, true, true, true, true, true, true, true, true, true, true, true, true, true, true, true, true, true, true, true, true, true, true, true, true, true, true, true, true, true, false, false, false, false, false, false, false, false, false, false, false, false, false, false, false, false, false, false, false, false, false, false, false, false, false, false, false] rfl rfl (any_of HT_.out (by kernel_rfl)) (fun _ _ _ h => h) (Or.inl ⟨by rfl, ?_⟩) ?_ ?_
                                            rotate_left
                                            · intro w'
                                              go_simp
                                              with_reducible rfl
                                            rotate_left
                                            · simp only [Act.put, List.setIfInBounds_toArray, List.set_cons_zero, List.set_cons_succ, i64_w, i32_w]
                                              rfl
                                            refine take_ (i := 37) (N := some 156) (v := ?_) (a' := ?_) #[true, true, true, true, true, true, true, true, true, true, true, true, true, true, true, true, true, true, true, true, true, true, true, true, true, true, true, true, true, true, true, true, true, true, true, true, true, true, false, false, false, false, false, false, false, false, false, false, false, false, false, false, false, false, false, false, false, false, false, false, false, false, false, false] rfl rfl (take_ofW HT_.out HW_.out (by kernel_rfl)) (fun _ _ _ h => h) (Or.inl ⟨by rfl, ?_⟩) hHeld ?_ ?_
                                            rotate_left
                                            · rintro w' ⟨s0, s1, s2, s3, s4, s5, s6, s7⟩
                                              go_simp
                                              with_reducible rfl
                                            rotate_left
                                            · simp only [Act.put, List.setIfInBounds_toArray, List.set_cons_zero, List.set_cons_succ, i64_w, i32_w]
                                              rfl
                                            refine pure_ (i := 38) (N := some 157) (v := ?_) (a' := ?_) #[true, true, true, true, true, true, true, true, true, true, true, true, true, true, true, true, true, true, true, true, true, true, true, true, true, true, true, true, true, true, true, true, true, true, true, true, true, true, true, false, false, false, false, false, false, false, false, false, false, false, false, false, false, false, false, false, false, false, false, false, false, false, false, false] rfl rfl (any_of HT_.out (by kernel_rfl)) (fun _ _ _ h => h) (Or.inl ⟨by rfl, ?_⟩) ?_ ?_
                                            rotate_left
                                            · intro w'
                                              go_simp
                                              with_reducible rfl
                                            rotate_left
                                            · simp only [Act.put, List.setIfInBounds_toArray, List.set_cons_zero, List.set_cons_succ, i64_w, i32_w]
                                              rfl
                                            refine pure_ (i := 39) (N := some 158) (v := ?_) (a' := ?_) #[true, true, true, true, true, true, true, true, true, true, true, true, true, true, true, true, true, true, true, true, true, true, true, true, true, true, true, true, true, true, true, true, true, true, true, true, true, true, true, true, false, false, false, false, false, false, false, false, false, false, false, false, false, false, false, false, false, false, false, false, false, false, false, false] rfl rfl (any_of HT_.out (by kernel_rfl)) (fun _ _ _ h => h) (Or.inl ⟨by rfl, ?_⟩) ?_ ?_
                                            rotate_left
                                            · intro w'
                                              go_simp
                                              with_reducible rfl
                                            rotate_left
                                            · simp only [Act.put, List.setIfInBounds_toArray, List.set_cons_zero, List.set_cons_succ, i64_w, i32_w]
                                              rfl
                                            refine pure_ (i := 40) (N := some 159) (v := ?_) (a' := ?_) #[true, true, true, true, true, true, true, true, true, true, true, true, true, true, true, true, true, true, true, true, true, true, true, true, true, true, true, true, true, true, true, true, true, true, true, true, true, true, true, true, true, false, false, false, false, false, false, false, false, false, false, false, false, false, false, false, false, false, false, false, false, false, false, false] rfl rfl (any_of HT_.out (by kernel_rfl)) (fun _ _ _ h => h) (Or.inl ⟨by rfl, ?_⟩) ?_ ?_
                                            rotate_left
                                            · intro w'
                                              go_simp
                                              with_reducible rfl
                                            rotate_left
                                            · simp only [Act.put, List.setIfInBounds_toArray, List.set_cons_zero, List.set_cons_succ, i64_w, i32_w]
                                              rfl
                                            refine pure_ (i := 41) (N := some 160) (v := ?_) (a' := ?_) #[true, true, true, true, true, true, true, true, true, true, true, true, true, true, true, true, true, true, true, true, true, true, true, true, true, true, true, true, true, true, true, true, true, true, true, true, true, true, true, true, true, true, false, false, false, false, false, false, false, false, false, false, false, false, false, false, false, false, false, false, false, false, false, false] rfl rfl (any_of HT_.out (by kernel_rfl)) (fun _ _ _ h => h) (Or.inl ⟨by rfl, ?_⟩) ?_ ?_
                                            rotate_left
                                            · intro w'
                                              go_simp
                                              with_reducible rfl
                                            rotate_left
                                            · simp only [Act.put, List.setIfInBounds_toArray, List.set_cons_zero, List.set_cons_succ, i64_w, i32_w]
                                              rfl
                                            refine pure_ (i := 42) (N := some 161) (v := ?_) (a' := ?_) #[true, true, true, true, true, true, true, true, true, true, true, true, true, true, true, true, true, true, true, true, true, true, true, true, true, true, true, true, true, true, true, true, true, true, true, true, true, true, true, true, true, true, true, false, false, false, false, false, false, false, false, false, false, false, false, false, false, false, false, false, false, false, false, false] rfl rfl (any_of HT_.out (by kernel_rfl)) (fun _ _ _ h => h) (Or.inl ⟨by rfl, ?_⟩) ?_ ?_
                                            rotate_left
                                            · intro w'
                                              go_simp
                                              with_reducible rfl
                                            rotate_left
                                            · simp only [Act.put, List.setIfInBounds_toArray, List.set_cons_zero, List.set_cons_succ, i64_w, i32_w]
                                              rfl
                                            refine pure_ (i := 44) (N := some 163) (v := ?_) (a' := ?_) #[true, true, true, true, true, true, true, true, true, true, true, true, true, true, true, true, true, true, true, true, true, true, true, true, true, true, true, true, true, true, true, true, true, true, true, true, true, true, true, true, true, true, true, false, true, false, false, false, false, false, false, false, false, false, false, false, false, false, false, false, false, false, false, false] rfl rfl (any_of HT_.out (by kernel_rfl)) (fun _ _ _ h => h) (Or.inl ⟨by rfl, ?_⟩) ?_ ?_
                                            rotate_left
                                            · intro w'
                                              go_simp
                                              with_reducible rfl
                                            rotate_left
                                            · simp only [Act.put, List.setIfInBounds_toArray, List.set_cons_zero, List.set_cons_succ, i64_w, i32_w]
                                              rfl
                                            refine pure_ (i := 47) (N := some 166) (v := ?_) (a' := ?_) #[true, true, true, true, true, true, true, true, true, true, true, true, true, true, true, true, true, true, true, true, true, true, true, true, true, true, true, true, true, true, true, true, true, true, true, true, true, true, true, true, true, true, true, false, true, false, false, true, false, false, false, false, false, false, false, false, false, false, false, false, false, false, false, false] rfl rfl (any_of HT_.out (by kernel_rfl)) (fun _ _ _ h => h) (Or.inl ⟨by rfl, ?_⟩) ?_ ?_
                                            rotate_left
                                            · intro w'
                                              go_simp
                                              with_reducible rfl
                                            rotate_left
                                            · simp only [Act.put, List.setIfInBounds_toArray, List.set_cons_zero, List.set_cons_succ, i64_w, i32_w]
                                              rfl
                                            refine pure_ (i := 50) (N := some 169) (v := ?_) (a' := ?_) #[true, true, true, true, true, true, true, true, true, true, true, true, true, true, true, true, true, true, true, true, true, true, true, true, true, true, true, true, true, true, true, true, true, true, true, true, true, true, true, true, true, true, true, false, true, false, false, true, false, false, true, false, false, false, false, false, false, false, false, false, false, false, false, false] rfl rfl (any_of HT_.out (by kernel_rfl)) (fun _ _ _ h => h) (Or.inl ⟨by rfl, ?_⟩) ?_ ?_
                                            rotate_left
                                            · intro w'
                                              go_simp
                                              with_reducible rfl
                                            rotate_left
                                            · simp only [Act.put, List.setIfInBounds_toArray, List.set_cons_zero, List.set_cons_succ, i64_w, i32_w]
                                              rfl
                                            refine pure_ (i := 52) (N := some 171) (v := ?_) (a' := ?_) #[true, true, true, true, true, true, true, true, true, true, true, true, true, true, true, true, true, true, true, true, true, true, true, true, true, true, true, true, true, true, true, true, true, true, true, true, true, true, true, true, true, true, true, false, true, false, false, true, false, false, true, false, true, false, false, false, false, false, false, false, false, false, false, false] rfl rfl (any_of HT_.out (by kernel_rfl)) (fun _ _ _ h => h) (Or.inl ⟨by rfl, ?_⟩) ?_ ?_
                                            rotate_left
                                            · intro w'
                                              go_simp
                                              with_reducible rfl
                                            rotate_left
                                            · simp only [Act.put, List.setIfInBounds_toArray, List.set_cons_zero, List.set_cons_succ, i64_w, i32_w]
                                              rfl
                                            refine pure_ (i := 55) (N := some 174) (v := ?_) (a' := ?_) #[true, true, true, true, true, true, true, true, true, true, true, true, true, true, true, true, true, true, true, true, true, true, true, true, true, true, true, true, true, true, true, true, true, true, true, true, true, true, true, true, true, true, true, false, true, false, false, true, false, false, true, false, true, false, false, true, false, false, false, false, false, false, false, false] rfl rfl (any_of HT_.out (by kernel_rfl)) (fun _ _ _ h => h) (Or.inl ⟨by rfl, ?_⟩) ?_ ?_
                                            rotate_left
                                            · intro w'
                                              go_simp
                                              with_reducible rfl
                                            rotate_left
                                            · simp only [Act.put, List.setIfInBounds_toArray, List.set_cons_zero, List.set_cons_succ, i64_w, i32_w]
                                              rfl
                                            refine take_ (i := 43) (N := some 162) (v := ?_) (a' := ?_) #[true, true, true, true, true, true, true, true, true, true, true, true, true, true, true, true, true, true, true, true, true, true, true, true, true, true, true, true, true, true, true, true, true, true, true, true, true, true, true, true, true, true, true, true, true, false, false, true, false, false, true, false, true, false, false, true, false, false, false, false, false, false, false, false] rfl rfl (take_ofW HT_.out HW_.out (by kernel_rfl)) (fun _ _ _ h => h) (Or.inl ⟨by rfl, ?_⟩) hHeld ?_ ?_
                                            rotate_left
                                            · rintro w' ⟨s0, s1, s2, s3, s4, s5, s6, s7⟩
                                              go_simp
                                              with_reducible rfl
                                            rotate_left
                                            · simp only [Act.put, List.setIfInBounds_toArray, List.set_cons_zero, List.set_cons_succ, i64_w, i32_w]
                                              rfl
                                            refine take_ (i := 45) (N := some 164) (v := ?_) (a' := ?_) #[true, true, true, true, true, true, true, true, true, true, true, true, true, true, true, true, true, true, true, true, true, true, true, true, true, true, true, true, true, true, true, true, true, true, true, true, true, true, true, true, true, true, true, true, true, true, false, true, false, false, true, false, true, false, false, true, false, false, false, false, false, false, false, false] rfl rfl (take_ofW HT_.out HW_.out (by kernel_rfl)) (fun _ _ _ h => h) (Or.inl ⟨by rfl, ?_⟩) hHeld ?_ ?_
                                            rotate_left
                                            · rintro w' ⟨s0, s1, s2, s3, s4, s5, s6, s7⟩
                                              go_simp
                                              with_reducible rfl
                                            rotate_left
                                            · simp only [Act.put, List.setIfInBounds_toArray, List.set_cons_zero, List.set_cons_succ, i64_w, i32_w]
                                              rfl
                                            refine pure_ (i := 46) (N := some 165) (v := ?_) (a' := ?_) #[true, true, true, true, true, true, true, true, true, true, true, true, true, true, true, true, true, true, true, true, true, true, true, true, true, true, true, true, true, true, true, true, true, true, true, true, true, true, true, true, true, true, true, true, true, true, true, true, false, false, true, false, true, false, false, true, false, false, false, false, false, false, false, false] rfl rfl (any_of HT_.out (by kernel_rfl)) (fun _ _ _ h => h) (Or.inl ⟨by rfl, ?_⟩) ?_ ?_
                                            rotate_left
                                            · intro w'
                                              go_simp
                                              with_reducible rfl
                                            rotate_left
                                            · simp only [Act.put, List.setIfInBounds_toArray, List.set_cons_zero, List.set_cons_succ, i64_w, i32_w]
                                              rfl
                                            refine take_ (i := 48) (N := some 167) (v := ?_) (a' := ?_) #[true, true, true, true, true, true, true, true, true, true, true, true, true, true, true, true, true, true, true, true, true, true, true, true, true, true, true, true, true, true, true, true, true, true, true, true, true, true, true, true, true, true, true, true, true, true, true, true, true, false, true, false, true, false, false, true, false, false, false, false, false, false, false, false] rfl rfl (take_ofW HT_.out HW_.out (by kernel_rfl)) (fun _ _ _ h => h) (Or.inl ⟨by rfl, ?_⟩) hHeld ?_ ?_
                                            rotate_left
                                            · rintro w' ⟨s0, s1, s2, s3, s4, s5, s6, s7⟩
                                              go_simp
                                              with_reducible rfl
                                            rotate_left
                                            · simp only [Act.put, List.setIfInBounds_toArray, List.set_cons_zero, List.set_cons_succ, i64_w, i32_w]
                                              rfl
                                            refine pure_ (i := 49) (N := some 168) (v := ?_) (a' := ?_) #[true, true, true, true, true, true, true, true, true, true, true, true, true, true, true, true, true, true, true, true, true, true, true, true, true, true, true, true, true, true, true, true, true, true, true, true, true, true, true, true, true, true, true, true, true, true, true, true, true, true, true, false, true, false, false, true, false, false, false, false, false, false, false, false] rfl rfl (any_of HT_.out (by kernel_rfl)) (fun _ _ _ h => h) (Or.inl ⟨by rfl, ?_⟩) ?_ ?_
                                            rotate_left
                                            · intro w'
                                              go_simp
                                              with_reducible rfl
                                            rotate_left
                                            · simp only [Act.put, List.setIfInBounds_toArray, List.set_cons_zero, List.set_cons_succ, i64_w, i32_w]
                                              rfl
                                            refine take_ (i := 51) (N := some 170) (v := ?_) (a' := ?_) #[true, true, true, true, true, true, true, true, true, true, true, true, true, true, true, true, true, true, true, true, true, true, true, true, true, true, true, true, true, true, true, true, true, true, true, true, true, true, true, true, true, true, true, true, true, true, true, true, true, true, true, true, true, false, false, true, false, false, false, false, false, false, false, false] rfl rfl (take_ofW HT_.out HW_.out (by kernel_rfl)) (fun _ _ _ h => h) (Or.inl ⟨by rfl, ?_⟩) hHeld ?_ ?_
                                            rotate_left
                                            · rintro w' ⟨s0, s1, s2, s3, s4, s5, s6, s7⟩
                                              go_simp
                                              with_reducible rfl
                                            rotate_left
                                            · simp only [Act.put, List.setIfInBounds_toArray, List.set_cons_zero, List.set_cons_succ, i64_w, i32_w]
                                              rfl
                                            refine take_ (i := 53) (N := some 172) (v := ?_) (a' := ?_) #[true, true, true, true, true, true, true, true, true, true, true, true, true, true, true, true, true, true, true, true, true, true, true, true, true, true, true, true, true, true, true, true, true, true, true, true, true, true, true, true, true, true, true, true, true, true, true, true, true, true, true, true, true, true, false, true, false, false, false, false, false, false, false, false] rfl rfl (take_ofW HT_.out HW_.out (by kernel_rfl)) (fun _ _ _ h => h) (Or.inl ⟨by rfl, ?_⟩) hHeld ?_ ?_
                                            rotate_left
                                            · rintro w' ⟨s0, s1, s2, s3, s4, s5, s6, s7⟩
                                              go_simp
                                              with_reducible rfl
                                            rotate_left
                                            · simp only [Act.put, List.setIfInBounds_toArray, List.set_cons_zero, List.set_cons_succ, i64_w, i32_w]
                                              rfl
                                            refine pure_ (i := 54) (N := some 173) (v := ?_) (a' := ?_) #[true, true, true, true, true, true, true, true, true, true, true, true, true, true, true, true, true, true, true, true, true, true, true, true, true, true, true, true, true, true, true, true, true, true, true, true, true, true, true, true, true, true, true, true, true, true, true, true, true, true, true, true, true, true, true, true, false, false, false, false, false, false, false, false] rfl rfl (any_of HT_.out (by kernel_rfl)) (fun _ _ _ h => h) (Or.inl ⟨by rfl, ?_⟩) ?_ ?_
                                            rotate_left
                                            · intro w'
                                              go_simp
                                              with_reducible rfl
                                            rotate_left
                                            · simp only [Act.put, List.setIfInBounds_toArray, List.set_cons_zero, List.set_cons_succ, i64_w, i32_w]
                                              rfl
                                            refine take_ (i := 56) (N := some 175) (v := ?_) (a' := ?_) #[true, true, true, true, true, true, true, true, true, true, true, true, true, true, true, true, true, true, true, true, true, true, true, true, true, true, true, true, true, true, true, true, true, true, true, true, true, true, true, true, true, true, true, true, true, true, true, true, true, true, true, true, true, true, true, true, true, false, false, false, false, false, false, false] rfl rfl (take_ofW HT_.out HW_.out (by kernel_rfl)) (fun _ _ _ h => h) (Or.inl ⟨by rfl, ?_⟩) hHeld ?_ ?_
                                            rotate_left
                                            · rintro w' ⟨s0, s1, s2, s3, s4, s5, s6, s7⟩
                                              go_simp
                                              with_reducible rfl
                                            rotate_left
                                            · simp only [Act.put, List.setIfInBounds_toArray, List.set_cons_zero, List.set_cons_succ, i64_w, i32_w]
                                              rfl
                                            refine pure_ (i := 57) (N := some 176) (v := ?_) (a' := ?_) #[true, true, true, true, true, true, true, true, true, true, true, true, true, true, true, true, true, true, true, true, true, true, true, true, true, true, true, true, true, true, true, true, true, true, true, true, true, true, true, true, true, true, true, true, true, true, true, true, true, true, true, true, true, true, true, true, true, true, false, false, false, false, false, false] rfl rfl (any_of HT_.out (by kernel_rfl)) (fun _ _ _ h => h) (Or.inl ⟨by rfl, ?_⟩) ?_ ?_
                                            rotate_left
                                            · intro w'
                                              go_simp
                                              with_reducible rfl
                                            rotate_left
                                            · simp only [Act.put, List.setIfInBounds_toArray, List.set_cons_zero, List.set_cons_succ, i64_w, i32_w]
                                              rfl
                                            refine pure_ (i := 58) (N := some 177) (v := ?_) (a' := ?_) #[true, true, true, true, true, true, true, true, true, true, true, true, true, true, true, true, true, true, true, true, true, true, true, true, true, true, true, true, true, true, true, true, true, true, true, true, true, true, true, true, true, true, true, true, true, true, true, true, true, true, true, true, true, true, true, true, true, true, true, false, false, false, false, false] rfl rfl (any_of HT_.out (by kernel_rfl)) (fun _ _ _ h => h) (Or.inl ⟨by rfl, ?_⟩) ?_ ?_
                                            rotate_left
                                            · intro w'
                                              go_simp
                                              with_reducible rfl
                                            rotate_left
                                            · simp only [Act.put, List.setIfInBounds_toArray, List.set_cons_zero, List.set_cons_succ, i64_w, i32_w]
                                              rfl
                                            refine pure_ (i := 59) (N := some 178) (v := ?_) (a' := ?_) #[true, true, true, true, true, true, true, true, true, true, true, true, true, true, true, true, true, true, true, true, true, true, true, true, true, true, true, true, true, true, true, true, true, true, true, true, true, true, true, true, true, true, true, true, true, true, true, true, true, true, true, true, true, true, true, true, true, true, true, true, false, false, false, false] rfl rfl (any_of HT_.out (by kernel_rfl)) (fun _ _ _ h => h) (Or.inl ⟨by rfl, ?_⟩) ?_ ?_
                                            rotate_left
                                            · intro w'
                                              go_simp
                                              with_reducible rfl
                                            rotate_left
                                            · simp only [Act.put, List.setIfInBounds_toArray, List.set_cons_zero, List.set_cons_succ, i64_w, i32_w]
                                              rfl
                                            refine pure_ (i := 60) (N := some 179) (v := ?_) (a' := ?_) #[true, true, true, true, true, true, true, true, true, true, true, true, true, true, true, true, true, true, true, true, true, true, true, true, true, true, true, true, true, true, true, true, true, true, true, true, true, true, true, true, true, true, true, true, true, true, true, true, true, true, true, true, true, true, true, true, true, true, true, true, true, false, false, false] rfl rfl (any_of HT_.out (by kernel_rfl)) (fun _ _ _ h => h) (Or.inl ⟨by rfl, ?_⟩) ?_ ?_
                                            rotate_left
                                            · intro w'
                                              go_simp
                                              with_reducible rfl
                                            rotate_left
                                            · simp only [Act.put, List.setIfInBounds_toArray, List.set_cons_zero, List.set_cons_succ, i64_w, i32_w]
                                              rfl
                                            refine one_ (i := 61) (N := some 180) #[true, true, true, true, true, true, true, true, true, true, true, true, true, true, true, true, true, true, true, true, true, true, true, true, true, true, true, true, true, true, true, true, true, true, true, true, true, true, true, true, true, true, true, true, true, true, true, true, true, true, true, true, true, true, true, true, true, true, true, true, true, true, false, false] rfl rfl (one_of HT_.out (by kernel_rfl)) (by decide) (fun K hK => ?_)
                                            refine goes_ Try.func21 (by kernel_rfl) rfl #[] (by rfl) rfl rfl (by (try simp only [List.map_toArray, List.map_cons, List.map_nil]); first | done | rfl | (simp only [List.length_drop, List.length_take]; rfl)) ?_
                                            with_reducible refine (galloonlaw03_awake.calls kj4  t544 _ A37.out).mono ?_
                                            rintro e w72 ⟨rfl, hb⟩
                                            refine ⟨_, rfl, ?_⟩
                                            have n0_ := Aside0.mk (blk_below (g := gb524) (o := .cells #[.int .i64 t521, .int .i64 t522] 23 (0, 0)) (by (with_reducible repeat (first | refine blk_drewN ?_ _ | refine blk_drew ?_ | refine blk_alloc ?_ _)); exact BK524.out) hb)
                                            have n1_ := Aside0.mk (blk_below (g := gb528) (o := .cells #[.int .i64 t525, .int .i64 t526] 23 (0, 0)) (by (with_reducible repeat (first | refine blk_drewN ?_ _ | refine blk_drew ?_ | refine blk_alloc ?_ _)); exact BK528.out) hb)
                                            have n2_ := Aside0.mk (blk_below (g := gb532) (o := .cells #[.int .i64 t529, .int .i64 t530] 23 (0, 0)) (by (with_reducible repeat (first | refine blk_drewN ?_ _ | refine blk_drew ?_ | refine blk_alloc ?_ _)); exact BK532.out) hb)
                                            have n3_ := Aside0.mk (blk_below (g := gb540) (o := .cells #[.int .i64 t537, .int .i64 t538] 23 (0, 0)) (by (with_reducible repeat (first | refine blk_drewN ?_ _ | refine blk_drew ?_ | refine blk_alloc ?_ _)); exact BK540.out) hb)
                                            have n4_ := Aside0.mk (below_step (by repeat (first | (with_reducible first | exact HB.out | apply below_alloc | apply pw_below_drewN | apply below_drew1 | refine below_set ?_ GE524.out | refine below_set ?_ GE528.out | refine below_set ?_ GE532.out | refine below_set ?_ GE540.out) | exact HB.out)) hb)
                                            clear BK524
                                            clear BK528
                                            clear BK532
                                            clear BK540
                                            clear HB
                                            have BK524 := n0_
                                            have BK528 := n1_
                                            have BK532 := n2_
                                            have BK540 := n3_
                                            have HB := n4_
                                            clear n0_ n1_ n2_ n3_ n4_
                                            (try clear hb)
                                            (try clear hb2)
                                            (try clear hk)
                                            (try clear hi)
                                            refine hK.out _ _ ⟨(blk_cell BK540.out 0).trans rfl, (blk_cell BK540.out 1).trans rfl, (blk_cell BK524.out 0).trans rfl, (blk_cell BK524.out 1).trans rfl, (blk_cell BK532.out 0).trans rfl, (blk_cell BK532.out 1).trans rfl, (blk_cell BK528.out 0).trans rfl, (blk_cell BK528.out 1).trans rfl⟩ (fun hHeld => ?_)
                                            clear hK K
                                            refine norm_ (a' := ?_) ?_ ?_
                                            rotate_left
                                            · show Act.put _ (some 180) _ = _
                                              simp only [Act.put, List.setIfInBounds_toArray, List.set_cons_zero, List.set_cons_succ, i64_w, i32_w]
                                              rfl
                                            refine pure_ (i := 62) (N := some 181) (v := ?_) (a' := ?_) #[true, true, true, true, true, true, true, true, true, true, true, true, true, true, true, true, true, true, true, true, true, true, true, true, true, true, true, true, true, true, true, true, true, true, true, true, true, true, true, true, true, true, true, true, true, true, true, true, true, true, true, true, true, true, true, true, true, true, true, true, true, true, true, false] rfl rfl (any_of HT_.out (by kernel_rfl)) (fun _ _ _ h => h) (Or.inl ⟨by rfl, ?_⟩) ?_ ?_
                                            rotate_left
                                            · intro w'
                                              go_simp
                                              with_reducible rfl
                                            rotate_left
                                            · simp only [Act.put, List.setIfInBounds_toArray, List.set_cons_zero, List.set_cons_succ, i64_w, i32_w]
                                              rfl
                                            refine pure_ (i := 63) (N := some 4) (v := ?_) (a' := ?_) #[true, true, true, true, true, true, true, true, true, true, true, true, true, true, true, true, true, true, true, true, true, true, true, true, true, true, true, true, true, true, true, true, true, true, true, true, true, true, true, true, true, true, true, true, true, true, true, true, true, true, true, true, true, true, true, true, true, true, true, true, true, true, true, true] rfl rfl (any_of HT_.out (by kernel_rfl)) (fun _ _ _ h => h) (Or.inl ⟨by rfl, ?_⟩) ?_ ?_
                                            rotate_left
                                            · intro w'
                                              go_simp
                                              with_reducible rfl
                                            rotate_left
                                            · simp only [Act.put, List.setIfInBounds_toArray, List.set_cons_zero, List.set_cons_succ, i64_w, i32_w]
                                              rfl
                                            refine done_ (done_of HT_.out (by kernel_rfl)) ?_
                                            try go_wp2
                                            go_ret
                                            exact ⟨by first | rfl | (simp [errW_none, errW_some] <;> rfl) | (simp [*, errW_none, errW_some] <;> rfl), by repeat (first | (with_reducible first | exact HB.out | apply below_alloc | apply pw_below_drewN | apply below_drew1 | refine below_set ?_ GE524.out | refine below_set ?_ GE528.out | refine below_set ?_ GE532.out | refine below_set ?_ GE540.out) | exact HB.out)⟩
                                          · rw [if_neg c36] at H
                                            have c36b0 : ((wrap64 (Int.tdiv (wrap64 (t525 + t529)) t521)) == (wrap64 (Int.tdiv (wrap64 (t526 + t530)) t522))) = false := beq_eq_false_iff_ne.mpr c36
                                            have c36b1 : ((wrap64 (Int.tdiv (wrap64 (t525 + t529)) t521)) != (wrap64 (Int.tdiv (wrap64 (t526 + t530)) t522))) = true := bne_iff_ne.mpr c36
                                            obtain rfl := Option.some.inj H
                                            exact absurd hr.out (by decide)
                                        · rw [if_neg c35] at H
                                          have c35b0 : ((Int.tmod (wrap64 (t526 + t530)) t522) == 0) = false := beq_eq_false_iff_ne.mpr c35
                                          have c35b1 : ((Int.tmod (wrap64 (t526 + t530)) t522) != 0) = true := bne_iff_ne.mpr c35
                                          obtain rfl := Option.some.inj H
                                          exact absurd hr.out (by decide)
                                    · rw [if_neg c33] at H
                                      have c33b0 : ((Int.tmod (wrap64 (t525 + t529)) t521) == 0) = false := beq_eq_false_iff_ne.mpr c33
                                      have c33b1 : ((Int.tmod (wrap64 (t525 + t529)) t521) != 0) = true := bne_iff_ne.mpr c33
                                      obtain rfl := Option.some.inj H
                                      exact absurd hr.out (by decide)
                                · rw [if_neg c31] at H
                                  have c31b0 : decide ((wrap64 (2 + t517)) < t538) = false := decide_eq_false c31
                                  clear c31
                                  obtain rfl := Option.some.inj H
                                  exact absurd hr.out (by decide)
                              · rw [if_neg c30] at H
                                have c30b0 : (t537 == (wrap64 (t521 + t529)) && (t538 == (wrap64 (t522 + t530)))) = false := by simpa using c30
                                (try (have c30b1 : decide (t537 = (wrap64 (t521 + t529)) && (t538 == (wrap64 (t522 + t530)))) = false := by simpa using c30))
                                (try (have c30b2 : (t537 == (wrap64 (t521 + t529)) && (t538 == (wrap64 (t522 + t530)))) = false := by simpa using c30))
                                (try (have c30b3 : ¬ (t537 = (wrap64 (t521 + t529)) && (t538 == (wrap64 (t522 + t530)))) := by simpa using c30))
                                clear c30
                                obtain rfl := Option.some.inj H
                                exact absurd hr.out (by decide)
                            · replace c29 := Bool.eq_false_iff.mpr c29
                              subst c29
                              have H1 : (some false) = some r := by rw [if_neg (show ¬ (false = true) by decide)] at H; exact H
                              clear H
                              have H := H1
                              clear H1
                              obtain rfl := Option.some.inj H
                              exact absurd hr.out (by decide)
                          · replace c27 := Bool.eq_false_iff.mpr c27
                            subst c27
                            have H1 : (some false) = some r := by rw [if_neg (show ¬ (false = true) by decide)] at H; exact H
                            clear H
                            have H := H1
                            clear H1
                            obtain rfl := Option.some.inj H
                            exact absurd hr.out (by decide)
                        · replace c25 := Bool.eq_false_iff.mpr c25
                          subst c25
                          have H1 : (some false) = some r := by rw [if_neg (show ¬ (false = true) by decide)] at H; exact H
                          clear H
                          have H := H1
                          clear H1
                          obtain rfl := Option.some.inj H
                          exact absurd hr.out (by decide)
                      · replace c23 := Bool.eq_false_iff.mpr c23
                        subst c23
                        have H1 : (some false) = some r := by rw [if_neg (show ¬ (false = true) by decide)] at H; exact H
                        clear H
                        have H := H1
                        clear H1
                        obtain rfl := Option.some.inj H
                        exact absurd hr.out (by decide)
                    · replace c22 := Bool.eq_false_iff.mpr c22
                      subst c22
                      have H1 : (some false) = some r := by rw [if_neg (show ¬ (false = true) by decide)] at H; exact H
                      clear H
                      have H := H1
                      clear H1
                      obtain rfl := Option.some.inj H
                      exact absurd hr.out (by decide)
                  · rw [if_neg c21] at H
                    have c21b0 : (t539 == 0) = false := beq_eq_false_iff_ne.mpr c21
                    have c21b1 : (t539 != 0) = true := bne_iff_ne.mpr c21
                    obtain rfl := Option.some.inj H
                    exact absurd hr.out (by decide)
                · rw [if_neg c20] at H
                  have c20b0 : (t536 == 0) = false := beq_eq_false_iff_ne.mpr c20
                  have c20b1 : (t536 != 0) = true := bne_iff_ne.mpr c20
                  obtain rfl := Option.some.inj H
                  exact absurd hr.out (by decide)
              · rw [if_neg c19] at H
                have c19b0 : (t534 == 0) = false := beq_eq_false_iff_ne.mpr c19
                have c19b1 : (t534 != 0) = true := bne_iff_ne.mpr c19
                obtain rfl := Option.some.inj H
                exact absurd hr.out (by decide)
            · rw [if_neg c18] at H
              have c18b0 : (t531 == 0) = false := beq_eq_false_iff_ne.mpr c18
              have c18b1 : (t531 != 0) = true := bne_iff_ne.mpr c18
              obtain rfl := Option.some.inj H
              exact absurd hr.out (by decide)
          · rw [if_neg c17] at H
            have c17b0 : (t527 == 0) = false := beq_eq_false_iff_ne.mpr c17
            have c17b1 : (t527 != 0) = true := bne_iff_ne.mpr c17
            obtain rfl := Option.some.inj H
            exact absurd hr.out (by decide)
        · rw [if_neg c16] at H
          have c16b0 : (t523 == 0) = false := beq_eq_false_iff_ne.mpr c16
          have c16b1 : (t523 != 0) = true := bne_iff_ne.mpr c16
          obtain rfl := Option.some.inj H
          exact absurd hr.out (by decide)

/-- THE ONE PURE STATEMENT of galloonlaw03_YardAdjacent: yours. -/
def galloonlaw03_YardAdjacent.Pure : Prop := ∀ (a0 : Int) (a1 : Int), (Lit.int .i64 a0).wf = true → (Lit.int .i64 a1).wf = true → ∃ k, galloonlaw03_YardAdjacent.f k a0 a1 = some true
theorem galloonlaw03_YardAdjacent.walk (P : galloonlaw03_YardAdjacent.Pure) (a0 : Int) (a1 : Int) (w : World) (w0 : (Lit.int .i64 a0).wf = true) (w1 : (Lit.int .i64 a1).wf = true) :
    Calls Try.prog 14 #[.int .i64 a0, .int .i64 a1] w fun e w' => e = .returned (.bool true) ∧ Below w.heap.size w w' := by
  obtain ⟨k, h⟩ := P a0 a1 w0 w1
  refine (galloonlaw03_YardAdjacent.calls k a0 a1 true w h ⟨rfl⟩).mono ?_
  rintro e w' ⟨rfl, hd⟩
  exact ⟨rfl, hd⟩

end Go.Proofs.Ythjodhmkmjabbaa.PY
