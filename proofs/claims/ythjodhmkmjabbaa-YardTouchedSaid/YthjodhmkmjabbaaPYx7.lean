-- Made by the session's own driver (wip/tools/p2.py) out of the translation; Lean checks it.
import Derived.Test.YthjodhmkmjabbaaSq
import Derived.Test.YthjodhmkmjabbaaPYx0
import Derived.Test.YthjodhmkmjabbaaPYx1
import Derived.Test.YthjodhmkmjabbaaPYx3
import Derived.Test.YthjodhmkmjabbaaPYx4
import Derived.Test.YthjodhmkmjabbaaPYx5
import Derived.Test.YthjodhmkmjabbaaPYx6
import Derived.Test.YthjodhmkmjabbaaGBetween
import Derived.Test.YthjodhmkmjabbaaGPath
namespace Go.Proofs.Ythjodhmkmjabbaa.PY
open Go.RowKit Go.Proofs.YthjodhmkmjabbaaW.PrintWords Go.Proofs.YthjodhmkmjabbaaW.PrintLast Go.Proofs.YthjodhmkmjabbaaW.PrintMore
attribute [local go_sem] max2_int min2_int max_two min_two max_three min_three max_four min_four   -- for this text's walks alone
set_option linter.unusedVariables false
set_option linter.unusedSimpArgs false
attribute [local go_sem high] eqA23
/-! ### yard_Size: function 35 -/
def yard_Size.f (k : Nat) (a0 : Int) : Option (Int × Int) := (yard_isRow.f a0).bind fun t132 => (if t132 = true then ((yard_below.f k a0 1 1).bind fun t133 => (some (wrap64 (1 + t133), 0))) else (some (0, 2)))
theorem yard_Size.mono : ∀ a0 k, LeO (yard_Size.f k a0) (yard_Size.f (k + 1) a0) := by
 intro a0 k
 unfold yard_Size.f
 repeat' first
  | (with_reducible exact yard_below.mono _ _ _ _)
  | (with_reducible exact LeO.refl _)
  | (with_reducible exact LeO.none _)
  | (with_reducible refine LeO.ite ?_ ?_)
  | (with_reducible refine LeO.bind ?_ (fun _ => ?_))
  | exact yard_below.mono _ _ _ _
  | exact LeO.none _
  | refine LeO.ite ?_ ?_
  | refine LeO.bind ?_ (fun _ => ?_)
set_option maxHeartbeats 8000000 in
set_option maxRecDepth 100000 in
theorem yard_Size.calls (k : Nat) (a0 : Int) (r1 : Int) (r2 : Int) (w : World) (h : yard_Size.f k a0 = some (r1, r2)) :
 Calls Try.prog 35 #[.int .i64 a0] w fun e w' => e = .returned (.tuple #[.int .i64 r1, .int .i64 r2]) ∧ Below w.heap.size w w' := by
 have hu23 := Try.underlying23
 have HB := Aside0.mk (Below.refl w.heap.size w)
 have H : ((yard_isRow.f a0).bind fun t132 => (if t132 = true then ((yard_below.f k a0 1 1).bind fun t133 => (some (wrap64 (1 + t133), 0))) else (some (0, 2)))) = some (r1, r2) := h
 clear h
 replace H := Option.bind_eq_some_iff.mp H
 obtain ⟨t132, A20, H⟩ := H
 replace H : (if t132 = true then ((yard_below.f k a0 1 1).bind fun t133 => (some (wrap64 (1 + t133), 0))) else (some (0, 2))) = some (r1, r2) := H
 have A2 := Aside0.mk A20
 clear A20
 by_cases c3 : t132 = true
 ·subst c3
  have H1 : ((yard_below.f k a0 1 1).bind fun t133 => (some (wrap64 (1 + t133), 0))) = some (r1, r2) := by rw [if_pos rfl] at H; exact H
  clear H
  have H := H1
  clear H1
  replace H := Option.bind_eq_some_iff.mp H
  obtain ⟨t133, A40, H⟩ := H
  replace H : (some (wrap64 (1 + t133), 0)) = some (r1, r2) := H
  have A4 := Aside0.mk A40
  clear A40
  simp only [Option.some.injEq, Prod.mk.injEq] at H
  obtain ⟨rfl, rfl⟩ := H
  go_enter Try.func35, Try.ntmps35
  go_wp2_with (first | ((with_reducible refine gate_callee (f := 69) rfl ?_); refine gL 5 Try.func69 #[.int .i64 a0] (h := ?_); (with_reducible refine (yard_isRow.calls a0 true _ A2.out).mono ?_); rintro e w' ⟨rfl, ⟨nd, rfl⟩⟩; refine ⟨_, rfl, ?_⟩) | ((with_reducible refine gate_callee (f := 70) rfl ?_); refine gL 9 Try.func70 #[.int .i64 a0, .agg #[.int .i64 1, .int .i64 1]] (h := ?_); (with_reducible refine (yard_below.calls k a0 1 1 t133 _ A4.out).mono ?_); rintro e w5 ⟨rfl, hb⟩; refine ⟨_, rfl, ?_⟩; replace HB := bS HB hb; (try clear hb); (try clear hb2); (try clear hk); (try clear hi)))
  go_ret2
  exact ⟨by first | rfl | (simp [errW_none, errW_some] <;> rfl) | (simp [*, errW_none, errW_some] <;> rfl), bB HB⟩
 ·replace c3 := Bool.eq_false_iff.mpr c3
  subst c3
  have H1 : (some (0, 2)) = some (r1, r2) := by rw [if_neg (show ¬ (false = true) by decide)] at H; exact H
  clear H
  have H := H1
  clear H1
  simp only [Option.some.injEq, Prod.mk.injEq] at H
  obtain ⟨rfl, rfl⟩ := H
  go_enter Try.func35, Try.ntmps35
  go_wp2_with (first | ((with_reducible refine gate_callee (f := 69) rfl ?_); refine gL 5 Try.func69 #[.int .i64 a0] (h := ?_); (with_reducible refine (yard_isRow.calls a0 false _ A2.out).mono ?_); rintro e w' ⟨rfl, ⟨nd, rfl⟩⟩; refine ⟨_, rfl, ?_⟩))
  go_ret2
  exact ⟨by first | rfl | (simp [errW_none, errW_some] <;> rfl) | (simp [*, errW_none, errW_some] <;> rfl), bB HB⟩
/-! ### galloonlaw03_awake: function 21 -/
def galloonlaw03_awake.j0 : Nat → Bool → Option (Bool)
 | 0, _ => none
 | k + 1, x82 => if x82 = true then (some false) else (some true)
def galloonlaw03_awake.f (k : Nat)  : Option (Bool) := (yard_Size.f k 5).bind fun bt134 => ((yard_Between.f k 1 3 1 2).bind fun bt136 => ((yard_Path.f k 2 5).bind fun bt140 => ((yard_Saw.f k 1 3).bind fun bt142 => ((yard_Quotients.f k 2 5).bind fun bt145 => (if bt134.2 = 0 then (if bt134.1 = 11 then (if bt136.2.2 = 0 then (if (!(bt136.1 == 2) || (!(bt136.2.1 == 5))) = true then (galloonlaw03_awake.j0 k true) else (if bt140.2 = 0 then (if bt140.1.toList = ([76, 82] : List UInt8) then (if bt142.2.2 = 0 then (if bt142.1 = 1 then (if bt142.2.1 = 18 then (if bt145.2 = 0 then ((galloonlaw03_ints.f k bt145.1 (([2, 2] : List Int))).bind fun t152 => (galloonlaw03_awake.j0 k (!t152))) else (galloonlaw03_awake.j0 k true)) else (galloonlaw03_awake.j0 k true)) else (galloonlaw03_awake.j0 k true)) else (galloonlaw03_awake.j0 k true)) else (galloonlaw03_awake.j0 k true)) else (galloonlaw03_awake.j0 k true))) else (galloonlaw03_awake.j0 k true)) else (galloonlaw03_awake.j0 k true)) else (galloonlaw03_awake.j0 k true))))))
theorem galloonlaw03_awake.mono_l : ∀ k, (∀ y0, LeO (galloonlaw03_awake.j0 k y0) (galloonlaw03_awake.j0 (k + 1) y0))
 | 0 => fun _ r h => by simp [galloonlaw03_awake.j0] at h
 | k + 1 => by
  have ih0 := galloonlaw03_awake.mono_l k
  ·intro y0
   unfold galloonlaw03_awake.j0
   repeat' first
   | (with_reducible exact ih0 _)
   | (with_reducible exact galloonlaw03_ints.mono _ _ _)
   | (with_reducible exact yard_Between.mono _ _ _ _ _)
   | (with_reducible exact yard_Path.mono _ _ _)
   | (with_reducible exact yard_Quotients.mono _ _ _)
   | (with_reducible exact yard_Saw.mono _ _ _)
   | (with_reducible exact yard_Size.mono _ _)
   | (with_reducible exact LeO.refl _)
   | (with_reducible exact LeO.none _)
   | (with_reducible refine LeO.ite ?_ ?_)
   | (with_reducible refine LeO.bind ?_ (fun _ => ?_))
   | exact ih0 _
   | exact galloonlaw03_ints.mono _ _ _
   | exact yard_Between.mono _ _ _ _ _
   | exact yard_Path.mono _ _ _
   | exact yard_Quotients.mono _ _ _
   | exact yard_Saw.mono _ _ _
   | exact yard_Size.mono _ _
   | exact LeO.none _
   | refine LeO.ite ?_ ?_
   | refine LeO.bind ?_ (fun _ => ?_)
theorem galloonlaw03_awake.mono : ∀ k, LeO (galloonlaw03_awake.f k ) (galloonlaw03_awake.f (k + 1) ) := by
 intro  k
 have ih0 := galloonlaw03_awake.mono_l k
 unfold galloonlaw03_awake.f
 repeat' first
  | (with_reducible exact ih0 _)
  | (with_reducible exact galloonlaw03_ints.mono _ _ _)
  | (with_reducible exact yard_Between.mono _ _ _ _ _)
  | (with_reducible exact yard_Path.mono _ _ _)
  | (with_reducible exact yard_Quotients.mono _ _ _)
  | (with_reducible exact yard_Saw.mono _ _ _)
  | (with_reducible exact yard_Size.mono _ _)
  | (with_reducible exact LeO.refl _)
  | (with_reducible exact LeO.none _)
  | (with_reducible refine LeO.ite ?_ ?_)
  | (with_reducible refine LeO.bind ?_ (fun _ => ?_))
  | exact ih0 _
  | exact galloonlaw03_ints.mono _ _ _
  | exact yard_Between.mono _ _ _ _ _
  | exact yard_Path.mono _ _ _
  | exact yard_Quotients.mono _ _ _
  | exact yard_Saw.mono _ _ _
  | exact yard_Size.mono _ _
  | exact LeO.none _
  | refine LeO.ite ?_ ?_
  | refine LeO.bind ?_ (fun _ => ?_)
set_option maxHeartbeats 8000000 in
set_option maxRecDepth 100000 in
theorem galloonlaw03_awake.calls (k : Nat)  (r : Bool) (w : World) (h : galloonlaw03_awake.f k  = some r) :
 Calls Try.prog 21 #[] w fun e w' => e = .returned (.bool r) ∧ Below w.heap.size w w' := by
 have hu23 := Try.underlying23
 have HB := Aside0.mk (Below.refl w.heap.size w)
 have H : ((yard_Size.f k 5).bind fun bt134 => ((yard_Between.f k 1 3 1 2).bind fun bt136 => ((yard_Path.f k 2 5).bind fun bt140 => ((yard_Saw.f k 1 3).bind fun bt142 => ((yard_Quotients.f k 2 5).bind fun bt145 => (if bt134.2 = 0 then (if bt134.1 = 11 then (if bt136.2.2 = 0 then (if (!(bt136.1 == 2) || (!(bt136.2.1 == 5))) = true then (galloonlaw03_awake.j0 k true) else (if bt140.2 = 0 then (if bt140.1.toList = ([76, 82] : List UInt8) then (if bt142.2.2 = 0 then (if bt142.1 = 1 then (if bt142.2.1 = 18 then (if bt145.2 = 0 then ((galloonlaw03_ints.f k bt145.1 (([2, 2] : List Int))).bind fun t152 => (galloonlaw03_awake.j0 k (!t152))) else (galloonlaw03_awake.j0 k true)) else (galloonlaw03_awake.j0 k true)) else (galloonlaw03_awake.j0 k true)) else (galloonlaw03_awake.j0 k true)) else (galloonlaw03_awake.j0 k true)) else (galloonlaw03_awake.j0 k true))) else (galloonlaw03_awake.j0 k true)) else (galloonlaw03_awake.j0 k true)) else (galloonlaw03_awake.j0 k true))))))) = some r := h
 clear h
 replace H := Option.bind_eq_some_iff.mp H
 obtain ⟨⟨t134, t135⟩, A10, H⟩ := H
 replace H : ((yard_Between.f k 1 3 1 2).bind fun bt136 => ((yard_Path.f k 2 5).bind fun bt140 => ((yard_Saw.f k 1 3).bind fun bt142 => ((yard_Quotients.f k 2 5).bind fun bt145 => (if t135 = 0 then (if t134 = 11 then (if bt136.2.2 = 0 then (if (!(bt136.1 == 2) || (!(bt136.2.1 == 5))) = true then (galloonlaw03_awake.j0 k true) else (if bt140.2 = 0 then (if bt140.1.toList = ([76, 82] : List UInt8) then (if bt142.2.2 = 0 then (if bt142.1 = 1 then (if bt142.2.1 = 18 then (if bt145.2 = 0 then ((galloonlaw03_ints.f k bt145.1 (([2, 2] : List Int))).bind fun t152 => (galloonlaw03_awake.j0 k (!t152))) else (galloonlaw03_awake.j0 k true)) else (galloonlaw03_awake.j0 k true)) else (galloonlaw03_awake.j0 k true)) else (galloonlaw03_awake.j0 k true)) else (galloonlaw03_awake.j0 k true)) else (galloonlaw03_awake.j0 k true))) else (galloonlaw03_awake.j0 k true)) else (galloonlaw03_awake.j0 k true)) else (galloonlaw03_awake.j0 k true)))))) = some r := H
 have A1 := Aside0.mk A10
 clear A10
 replace H := Option.bind_eq_some_iff.mp H
 obtain ⟨⟨t136, t137, t138⟩, A20, H⟩ := H
 replace H : ((yard_Path.f k 2 5).bind fun bt140 => ((yard_Saw.f k 1 3).bind fun bt142 => ((yard_Quotients.f k 2 5).bind fun bt145 => (if t135 = 0 then (if t134 = 11 then (if t138 = 0 then (if (!(t136 == 2) || (!(t137 == 5))) = true then (galloonlaw03_awake.j0 k true) else (if bt140.2 = 0 then (if bt140.1.toList = ([76, 82] : List UInt8) then (if bt142.2.2 = 0 then (if bt142.1 = 1 then (if bt142.2.1 = 18 then (if bt145.2 = 0 then ((galloonlaw03_ints.f k bt145.1 (([2, 2] : List Int))).bind fun t152 => (galloonlaw03_awake.j0 k (!t152))) else (galloonlaw03_awake.j0 k true)) else (galloonlaw03_awake.j0 k true)) else (galloonlaw03_awake.j0 k true)) else (galloonlaw03_awake.j0 k true)) else (galloonlaw03_awake.j0 k true)) else (galloonlaw03_awake.j0 k true))) else (galloonlaw03_awake.j0 k true)) else (galloonlaw03_awake.j0 k true)) else (galloonlaw03_awake.j0 k true))))) = some r := H
 have A2 := Aside0.mk A20
 clear A20
 replace H := Option.bind_eq_some_iff.mp H
 obtain ⟨⟨t140, t141⟩, A30, H⟩ := H
 replace H : ((yard_Saw.f k 1 3).bind fun bt142 => ((yard_Quotients.f k 2 5).bind fun bt145 => (if t135 = 0 then (if t134 = 11 then (if t138 = 0 then (if (!(t136 == 2) || (!(t137 == 5))) = true then (galloonlaw03_awake.j0 k true) else (if t141 = 0 then (if t140.toList = ([76, 82] : List UInt8) then (if bt142.2.2 = 0 then (if bt142.1 = 1 then (if bt142.2.1 = 18 then (if bt145.2 = 0 then ((galloonlaw03_ints.f k bt145.1 (([2, 2] : List Int))).bind fun t152 => (galloonlaw03_awake.j0 k (!t152))) else (galloonlaw03_awake.j0 k true)) else (galloonlaw03_awake.j0 k true)) else (galloonlaw03_awake.j0 k true)) else (galloonlaw03_awake.j0 k true)) else (galloonlaw03_awake.j0 k true)) else (galloonlaw03_awake.j0 k true))) else (galloonlaw03_awake.j0 k true)) else (galloonlaw03_awake.j0 k true)) else (galloonlaw03_awake.j0 k true)))) = some r := H
 have A3 := Aside0.mk A30
 clear A30
 replace H := Option.bind_eq_some_iff.mp H
 obtain ⟨⟨t142, t143, t144⟩, A40, H⟩ := H
 replace H : ((yard_Quotients.f k 2 5).bind fun bt145 => (if t135 = 0 then (if t134 = 11 then (if t138 = 0 then (if (!(t136 == 2) || (!(t137 == 5))) = true then (galloonlaw03_awake.j0 k true) else (if t141 = 0 then (if t140.toList = ([76, 82] : List UInt8) then (if t144 = 0 then (if t142 = 1 then (if t143 = 18 then (if bt145.2 = 0 then ((galloonlaw03_ints.f k bt145.1 (([2, 2] : List Int))).bind fun t152 => (galloonlaw03_awake.j0 k (!t152))) else (galloonlaw03_awake.j0 k true)) else (galloonlaw03_awake.j0 k true)) else (galloonlaw03_awake.j0 k true)) else (galloonlaw03_awake.j0 k true)) else (galloonlaw03_awake.j0 k true)) else (galloonlaw03_awake.j0 k true))) else (galloonlaw03_awake.j0 k true)) else (galloonlaw03_awake.j0 k true)) else (galloonlaw03_awake.j0 k true))) = some r := H
 have A4 := Aside0.mk A40
 clear A40
 replace H := Option.bind_eq_some_iff.mp H
 obtain ⟨⟨t145, t148⟩, A50, H⟩ := H
 replace H : (if t135 = 0 then (if t134 = 11 then (if t138 = 0 then (if (!(t136 == 2) || (!(t137 == 5))) = true then (galloonlaw03_awake.j0 k true) else (if t141 = 0 then (if t140.toList = ([76, 82] : List UInt8) then (if t144 = 0 then (if t142 = 1 then (if t143 = 18 then (if t148 = 0 then ((galloonlaw03_ints.f k t145 (([2, 2] : List Int))).bind fun t152 => (galloonlaw03_awake.j0 k (!t152))) else (galloonlaw03_awake.j0 k true)) else (galloonlaw03_awake.j0 k true)) else (galloonlaw03_awake.j0 k true)) else (galloonlaw03_awake.j0 k true)) else (galloonlaw03_awake.j0 k true)) else (galloonlaw03_awake.j0 k true))) else (galloonlaw03_awake.j0 k true)) else (galloonlaw03_awake.j0 k true)) else (galloonlaw03_awake.j0 k true)) = some r := H
 have A5 := Aside0.mk A50
 clear A50
 have HC6 := Aside0.mk H
 clear H
 go_enter Try.func21, Try.ntmps21
 go_upto_region 6 with (first | ((with_reducible refine gate_callee (f := 35) rfl ?_); refine gL 13 Try.func35 #[.int .i64 5] (h := ?_); (with_reducible refine (yard_Size.calls k 5 t134 t135 _ A1.out).mono ?_); rintro e w7 ⟨rfl, hb⟩; refine ⟨_, rfl, ?_⟩; replace HB := bS HB hb; (try clear hb); (try clear hb2); (try clear hk); (try clear hi)) | ((with_reducible refine gate_callee (f := 30) rfl ?_); refine gL 19 Try.func30 #[.agg #[.int .i64 1, .int .i64 3], .agg #[.int .i64 1, .int .i64 2]] (h := ?_); (with_reducible refine (yard_Between.calls k 1 3 1 2 t136 t137 t138 _ A2.out).mono ?_); rintro e w8 ⟨rfl, hb⟩; refine ⟨_, rfl, ?_⟩; replace HB := bS HB hb; (try clear hb); (try clear hb2); (try clear hk); (try clear hi)) | ((with_reducible refine gate_dst (N := 3) rfl ?_); (try (refine gate_guard (by rfl) ?_; dsimp only)); refine box_event ?hg (N := 3) ?hd (cs := #[.int .i64 0, .int .i64 0]) (t := 23) ?hr ?_; (case hd => rfl); (case hg => rfl); (case hr => first | (go_simp; done) | (go_simp; rfl)); intro gb139 hg w9 hbox hb; have BK139 := Aside0.mk (hbox); have GW139 := bG HB hg; have GE139 := bG HB hg; replace HB := bS HB hb; clear hb hbox hg; obtain ⟨hcz10_0, hcz10_1, hfz10_0, hfz10_1⟩ := cQ BK139) | ((with_reducible refine gate_callee (f := 17) rfl ?_); refine gL 24 Try.func17 #[.agg #[.int .i64 2, .int .i64 5]] (h := ?_); (with_reducible refine (yard_Path.calls k 2 5 t140 t141 _ A3.out).mono ?_); rintro e w11 ⟨rfl, hb⟩; refine ⟨_, rfl, ?_⟩; replace BK139 := Aside0.mk (blk_below (g := gb139) (o := .cells #[.int .i64 t136, .int .i64 t137] 23 (0, 0)) (by (with_reducible repeat (first | refine blk_drewN ?_ _ | refine blk_drew ?_ | refine blk_alloc ?_ _)); refine blk_put (cs := #[.int .i64 t136, .int .i64 0]) ?_ 1 _ rfl; (with_reducible repeat (first | refine blk_drewN ?_ _ | refine blk_drew ?_ | refine blk_alloc ?_ _)); refine blk_put (cs := #[.int .i64 0, .int .i64 0]) ?_ 0 _ rfl; (with_reducible repeat (first | refine blk_drewN ?_ _ | refine blk_drew ?_ | refine blk_alloc ?_ _)); exact BK139.out) hb); replace HB := bS HB hb; (try clear hb); (try clear hb2); (try clear hk); (try clear hi)) | ((with_reducible refine gate_callee (f := 19) rfl ?_); refine gL 29 Try.func19 #[.agg #[.int .i64 1, .int .i64 3]] (h := ?_); (with_reducible refine (yard_Saw.calls k 1 3 t142 t143 t144 _ A4.out).mono ?_); rintro e w12 ⟨rfl, hb⟩; refine ⟨_, rfl, ?_⟩; replace BK139 := kB BK139 hb; replace HB := bS HB hb; (try clear hb); (try clear hb2); (try clear hk); (try clear hi)) | ((with_reducible refine gate_callee (f := 18) rfl ?_); refine gL 35 Try.func18 #[.agg #[.int .i64 2, .int .i64 5]] (h := ?_); (with_reducible refine (yard_Quotients.calls k 2 5 t145 t148 _ A5.out).mono ?_); rintro e w13 ⟨v146, rfl, ho0, hb⟩; refine ⟨_, rfl, ?_⟩; have HO147 := Aside0.mk (Kd.R_lower ho0 (below_size (bB HB))); replace BK139 := kB BK139 hb; replace HB := bS HB hb; (try clear hb); (try clear hb2); (try clear hk); (try clear hi); (try clear ho0)))
 (try simp only [Act.put, List.setIfInBounds_toArray, List.set_cons_zero, List.set_cons_succ])
 go_cut [82] (fun v82 wc => ∃ (kq : Nat) (x82_5 : Bool), v82 = .bool x82_5 ∧ Aside0 (galloonlaw03_awake.j0 kq x82_5 = some r) ∧ Aside0 (kq ≤ k) ∧ Aside0 (wc.heap[gb139]? = some (.cells #[.int .i64 t136, .int .i64 t137] 23 (0, 0))) ∧ Aside0 (Below w.heap.size w wc))
 case first =>
  have H := HC6.out
  clear HC6
  by_cases c14 : t135 = 0
  ·rw [if_pos c14] at H
   have c14b0 : (t135 == 0) = true := beq_iff_eq.mpr c14
   have c14b1 : (t135 != 0) = false := bne_eq_false_iff_eq.mpr c14
   clear c14
   (first | rw [c14b0] | (simp only [i64_w, i32_w]; rw [c14b0]) | skip)
   by_cases c15 : t134 = 11
   case neg =>
    rw [if_neg c15] at H
    have c15b0 : (t134 == 11) = false := beq_eq_false_iff_ne.mpr c15
    have c15b1 : (t134 != 11) = true := bne_iff_ne.mpr c15
    have H' := Aside0.mk H
    clear H
    go_wp2
    go_meet
    case rel => exact ⟨_, (true), (by first | rfl | (simp; done) | (simp [*]; done)), H', ⟨by first | omega | exact Nat.le_refl _⟩, kA BK139, bA HB⟩
   rw [if_pos c15] at H
   have c15b0 : (t134 == 11) = true := beq_iff_eq.mpr c15
   have c15b1 : (t134 != 11) = false := bne_eq_false_iff_eq.mpr c15
   clear c15
   by_cases c16 : t138 = 0
   case neg =>
    rw [if_neg c16] at H
    have c16b0 : (t138 == 0) = false := beq_eq_false_iff_ne.mpr c16
    have c16b1 : (t138 != 0) = true := bne_iff_ne.mpr c16
    have H' := Aside0.mk H
    clear H
    go_wp2
    go_meet
    case rel => exact ⟨_, (true), (by first | rfl | (simp; done) | (simp [*]; done)), H', ⟨by first | omega | exact Nat.le_refl _⟩, kA BK139, bA HB⟩
   rw [if_pos c16] at H
   have c16b0 : (t138 == 0) = true := beq_iff_eq.mpr c16
   have c16b1 : (t138 != 0) = false := bne_eq_false_iff_eq.mpr c16
   clear c16
   by_cases c17 : (!(t136 == 2) || (!(t137 == 5))) = true
   ·rw [if_pos c17] at H
    have c17b0 : (!(t136 == 2) || (!(t137 == 5))) = true := c17
    clear c17
    have H' := Aside0.mk H
    clear H
    obtain ⟨hcz18_0, hcz18_1, hfz18_0, hfz18_1⟩ := cQ BK139
    go_wp2
    go_meet
    case rel => exact ⟨_, (true), (by first | rfl | (simp; done) | (simp [*]; done)), H', ⟨by first | omega | exact Nat.le_refl _⟩, kA BK139, bA HB⟩
   ·rw [if_neg c17] at H
    have c17b0 : (!(t136 == 2) || (!(t137 == 5))) = false := by simpa using c17
    clear c17
    by_cases c19 : t141 = 0
    ·rw [if_pos c19] at H
     have c19b0 : (t141 == 0) = true := beq_iff_eq.mpr c19
     have c19b1 : (t141 != 0) = false := bne_eq_false_iff_eq.mpr c19
     clear c19
     by_cases c20 : t140.toList = ([76, 82] : List UInt8)
     ·rw [if_pos c20] at H
      have c20b0 : (t140.toList == ([76, 82] : List UInt8)) = true := beq_iff_eq.mpr c20
      have c20b1 : (t140.toList != ([76, 82] : List UInt8)) = false := bne_eq_false_iff_eq.mpr c20
      clear c20
      by_cases c21 : t144 = 0
      ·rw [if_pos c21] at H
       have c21b0 : (t144 == 0) = true := beq_iff_eq.mpr c21
       have c21b1 : (t144 != 0) = false := bne_eq_false_iff_eq.mpr c21
       clear c21
       by_cases c22 : t142 = 1
       ·rw [if_pos c22] at H
        have c22b0 : (t142 == 1) = true := beq_iff_eq.mpr c22
        have c22b1 : (t142 != 1) = false := bne_eq_false_iff_eq.mpr c22
        clear c22
        by_cases c23 : t143 = 18
        ·rw [if_pos c23] at H
         have c23b0 : (t143 == 18) = true := beq_iff_eq.mpr c23
         have c23b1 : (t143 != 18) = false := bne_eq_false_iff_eq.mpr c23
         clear c23
         by_cases c24 : t148 = 0
         ·rw [if_pos c24] at H
          have c24b0 : (t148 == 0) = true := beq_iff_eq.mpr c24
          have c24b1 : (t148 != 0) = false := bne_eq_false_iff_eq.mpr c24
          clear c24
          obtain ⟨y149, hy149⟩ : ∃ y_ : List Int, y_ = (([2, 2] : List Int)) := ⟨_, rfl⟩
          replace H : ((galloonlaw03_ints.f k t145 y149).bind fun t152 => (galloonlaw03_awake.j0 k (!t152))) = some r := by first | (rw [hy149]; with_reducible exact H) | (have H2_ := (Option.bind_some _ _).symm.trans H; rw [hy149]; with_reducible exact H2_) | (have H2_ := (Option.bind_some _ _).symm.trans H; with_reducible exact H2_) | with_reducible exact H | (rw [hy149]; exact H) | exact H
          have Ny149 := Aside0.mk hy149
          clear hy149
          replace H := Option.bind_eq_some_iff.mp H
          obtain ⟨t152, A250, H⟩ := H
          replace H : (galloonlaw03_awake.j0 k (!t152)) = some r := H
          have A25 := Aside0.mk A250
          clear A250
          have H' := Aside0.mk H
          clear H
          obtain ⟨hcz26_0, hcz26_1, hfz26_0, hfz26_1⟩ := cQ BK139
          go_wp2_with (first | ((with_reducible refine gate_dst (N := 79) rfl ?_); (try (refine gate_guard (by rfl) ?_; dsimp only)); refine Kd.R_lit (Kd.int .i64) _ 3 ?hg (N := 79) ?hd (xs := ([2, 2] : List Int)) (inner := [.int .i64 2, .int .i64 2]) (ok := fun _ => True) (okp := fun _ => True) ?hr ?hp (fun _ hk => hk) trivial (Below.refl _ _) (Nat.le_refl _) (by simp) ?_; (case hd => rfl); (case hg => rfl); (case hr => first | (go_simp; done) | (go_simp; rfl)); (case hp => exact (Reps.one (show Kd.M (Kd.int .i64) _ _ _ 2 [.int .i64 2] from rfl) (Reps.one (show Kd.M (Kd.int .i64) _ _ _ 2 [.int .i64 2] from rfl) (Reps.none _ _)))); intro v150 w27 ho28 hb hg_ hnew_; clear hg_ hnew_; (first | rw [← Ny149.out] at ho28 | (simp only [Int.reduceToNat] at ho28; rw [← Ny149.out] at ho28)); have HO151 := Aside0.mk (Kd.R_lower (Kd.R_new' ho28 (Kd.R_lt (by (with_reducible repeat (first | apply Kd.R_alloc | apply Kd.R_drewN | apply Kd.R_drew)); exact HO147.out))) (below_size (bB HB))); replace HO147 := Aside0.mk (Kd.R_elder' (by (with_reducible repeat (first | apply Kd.R_alloc | apply Kd.R_drewN | apply Kd.R_drew)); exact HO147.out) (Kd.R_base ho28) hb); replace BK139 := kB BK139 hb; replace HB := bS HB hb; clear hb ho28; obtain ⟨Ao29, co29, eo29⟩ := Kd.R_slice HO147.out; subst eo29; obtain ⟨Ao30, co30, eo30⟩ := Kd.R_slice HO151.out; subst eo30) | (go_at_call 22; (with_reducible refine (galloonlaw03_ints.calls k _ _ t145 _ _ y149 t152 _ ?side1 ?side2 ?side3 ?side4 A25.out).mono ?_); (case side1 => repeat (first | exact (Kd.R_reads' HO147.out).2.2 | (with_reducible refine Kd.C_alloc ?_ _) | (with_reducible refine Kd.C_drewN ?_ _) | (with_reducible refine Kd.C_drew ?_))); (case side2 => exact (Kd.R_reads' HO147.out).2.1); (case side3 => repeat (first | exact (Kd.R_reads' HO151.out).2.2 | (with_reducible refine Kd.C_alloc ?_ _) | (with_reducible refine Kd.C_drewN ?_ _) | (with_reducible refine Kd.C_drew ?_))); (case side4 => exact (Kd.R_reads' HO151.out).2.1); rintro e w' ⟨rfl, ⟨nd, rfl⟩⟩))
          go_meet
          case rel => exact ⟨_, (!t152), (by first | rfl | (simp; done) | (simp [*]; done)), H', ⟨by first | omega | exact Nat.le_refl _⟩, kA BK139, bA HB⟩
         ·rw [if_neg c24] at H
          have c24b0 : (t148 == 0) = false := beq_eq_false_iff_ne.mpr c24
          have c24b1 : (t148 != 0) = true := bne_iff_ne.mpr c24
          have H' := Aside0.mk H
          clear H
          obtain ⟨hcz31_0, hcz31_1, hfz31_0, hfz31_1⟩ := cQ BK139
          go_wp2
          go_meet
          case rel => exact ⟨_, (true), (by first | rfl | (simp; done) | (simp [*]; done)), H', ⟨by first | omega | exact Nat.le_refl _⟩, kA BK139, bA HB⟩
        ·rw [if_neg c23] at H
         have c23b0 : (t143 == 18) = false := beq_eq_false_iff_ne.mpr c23
         have c23b1 : (t143 != 18) = true := bne_iff_ne.mpr c23
         have H' := Aside0.mk H
         clear H
         obtain ⟨hcz32_0, hcz32_1, hfz32_0, hfz32_1⟩ := cQ BK139
         go_wp2
         go_meet
         case rel => exact ⟨_, (true), (by first | rfl | (simp; done) | (simp [*]; done)), H', ⟨by first | omega | exact Nat.le_refl _⟩, kA BK139, bA HB⟩
       ·rw [if_neg c22] at H
        have c22b0 : (t142 == 1) = false := beq_eq_false_iff_ne.mpr c22
        have c22b1 : (t142 != 1) = true := bne_iff_ne.mpr c22
        have H' := Aside0.mk H
        clear H
        obtain ⟨hcz33_0, hcz33_1, hfz33_0, hfz33_1⟩ := cQ BK139
        go_wp2
        go_meet
        case rel => exact ⟨_, (true), (by first | rfl | (simp; done) | (simp [*]; done)), H', ⟨by first | omega | exact Nat.le_refl _⟩, kA BK139, bA HB⟩
      ·rw [if_neg c21] at H
       have c21b0 : (t144 == 0) = false := beq_eq_false_iff_ne.mpr c21
       have c21b1 : (t144 != 0) = true := bne_iff_ne.mpr c21
       have H' := Aside0.mk H
       clear H
       obtain ⟨hcz34_0, hcz34_1, hfz34_0, hfz34_1⟩ := cQ BK139
       go_wp2
       go_meet
       case rel => exact ⟨_, (true), (by first | rfl | (simp; done) | (simp [*]; done)), H', ⟨by first | omega | exact Nat.le_refl _⟩, kA BK139, bA HB⟩
     ·rw [if_neg c20] at H
      have c20b0 : (t140.toList == ([76, 82] : List UInt8)) = false := beq_eq_false_iff_ne.mpr c20
      have c20b1 : (t140.toList != ([76, 82] : List UInt8)) = true := bne_iff_ne.mpr c20
      have H' := Aside0.mk H
      clear H
      obtain ⟨hcz35_0, hcz35_1, hfz35_0, hfz35_1⟩ := cQ BK139
      go_wp2
      go_meet
      case rel => exact ⟨_, (true), (by first | rfl | (simp; done) | (simp [*]; done)), H', ⟨by first | omega | exact Nat.le_refl _⟩, kA BK139, bA HB⟩
    ·rw [if_neg c19] at H
     have c19b0 : (t141 == 0) = false := beq_eq_false_iff_ne.mpr c19
     have c19b1 : (t141 != 0) = true := bne_iff_ne.mpr c19
     have H' := Aside0.mk H
     clear H
     obtain ⟨hcz36_0, hcz36_1, hfz36_0, hfz36_1⟩ := cQ BK139
     go_wp2
     go_meet
     case rel => exact ⟨_, (true), (by first | rfl | (simp; done) | (simp [*]; done)), H', ⟨by first | omega | exact Nat.le_refl _⟩, kA BK139, bA HB⟩
  ·rw [if_neg c14] at H
   have c14b0 : (t135 == 0) = false := beq_eq_false_iff_ne.mpr c14
   have c14b1 : (t135 != 0) = true := bne_iff_ne.mpr c14
   (first | rw [c14b0] | (simp only [i64_w, i32_w]; rw [c14b0]) | skip)
   have H' := Aside0.mk H
   clear H
   go_wp2
   go_meet
   case rel => exact ⟨_, (true), (by first | rfl | (simp; done) | (simp [*]; done)), H', ⟨by first | omega | exact Nat.le_refl _⟩, kA BK139, bA HB⟩
 case rest =>
  clear HC6
  try clear p2
  obtain ⟨kq, x82_5, rfl, HA, HJ5, BK139, HB⟩ := hcut
  cases kq with
  | zero => exact absurd HA.out (by simp [galloonlaw03_awake.j0])
  | succ kj5 =>
   have H := HA.out
   clear HA
   simp only [galloonlaw03_awake.j0] at H
   by_cases c37 : x82_5 = true
   ·subst c37
    have H1 : (some false) = some r := by rw [if_pos rfl] at H; exact H
    clear H
    have H := H1
    clear H1
    obtain rfl := Option.some.inj H
    go_wp2
    go_ret
    exact ⟨by first | rfl | (simp [errW_none, errW_some] <;> rfl) | (simp [*, errW_none, errW_some] <;> rfl), bB HB⟩
   ·replace c37 := Bool.eq_false_iff.mpr c37
    subst c37
    have H1 : (some true) = some r := by rw [if_neg (show ¬ (false = true) by decide)] at H; exact H
    clear H
    have H := H1
    clear H1
    obtain rfl := Option.some.inj H
    go_wp2
    go_ret
    exact ⟨by first | rfl | (simp [errW_none, errW_some] <;> rfl) | (simp [*, errW_none, errW_some] <;> rfl), bB HB⟩
end Go.Proofs.Ythjodhmkmjabbaa.PY
