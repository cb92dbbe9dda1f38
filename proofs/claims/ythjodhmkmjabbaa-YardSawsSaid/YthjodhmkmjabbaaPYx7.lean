-- Made by the session's own driver (wip/tools/p2.py) out of the translation; Lean checks it.
import Derived.Test.YthjodhmkmjabbaaPYx0
import Derived.Test.YthjodhmkmjabbaaPYx1
import Derived.Test.YthjodhmkmjabbaaPYx3
import Derived.Test.YthjodhmkmjabbaaPYx4
import Derived.Test.YthjodhmkmjabbaaPYx5
import Derived.Test.YthjodhmkmjabbaaPYx6
import Derived.Test.YthjodhmkmjabbaaGBetween
import Derived.Test.YthjodhmkmjabbaaGPath
namespace Go.Proofs.Ythjodhmkmjabbaa.PY
open Go.RowKit Go.Proofs.YthjodhmkmjabbaaW.PrintWords Go.Proofs.YthjodhmkmjabbaaW.PrintLast Go.Proofs.YthjodhmkmjabbaaW.PrintMore
attribute [local go_sem] max2_int min2_int max_two min_two max_three min_three max_four min_four   -- for this text's walks alone
set_option linter.unusedVariables false
set_option linter.unusedSimpArgs false

attribute [local go_sem high] eqA23
/-! ### yard_Size: function 35 -/
def yard_Size.f (k : Nat) (a0 : Int) : Option (Int × Int) := (yard_isRow.f a0).bind fun t132 => (if t132 = true then ((yard_below.f k a0 1 1).bind fun t133 => (some (wrap64 (1 + t133), 0))) else (some (0, 2)))
theorem yard_Size.mono : ∀ a0 k, LeO (yard_Size.f k a0) (yard_Size.f (k + 1) a0) := by
  intro a0 k
  unfold yard_Size.f
  repeat' first
      | (with_reducible exact yard_below.mono _ _ _ _)
      | (with_reducible exact LeO.refl _)
      | (with_reducible exact LeO.none _)
      | (with_reducible refine LeO.ite ?_ ?_)
      | (with_reducible refine LeO.bind ?_ (fun _ => ?_))
      | exact yard_below.mono _ _ _ _
      | exact LeO.none _
      | refine LeO.ite ?_ ?_
      | refine LeO.bind ?_ (fun _ => ?_)
set_option maxHeartbeats 8000000 in
set_option maxRecDepth 100000 in
theorem yard_Size.calls (k : Nat) (a0 : Int) (r1 : Int) (r2 : Int) (w : World) (h : yard_Size.f k a0 = some (r1, r2)) :
    Calls Try.prog 35 #[.int .i64 a0] w fun e w' => e = .returned (.tuple #[.int .i64 r1, .int .i64 r2]) ∧ Below w.heap.size w w' := by
  have hu23 := Try.underlying23
  have HB := Aside0.mk (Below.refl w.heap.size w)
  have H : ((yard_isRow.f a0).bind fun t132 => (if t132 = true then ((yard_below.f k a0 1 1).bind fun t133 => (some (wrap64 (1 + t133), 0))) else (some (0, 2)))) = some (r1, r2) := h
  clear h
  replace H := Option.bind_eq_some_iff.mp H
  obtain ⟨t132, A20, H⟩ := H
  replace H : (if t132 = true then ((yard_below.f k a0 1 1).bind fun t133 => (some (wrap64 (1 + t133), 0))) else (some (0, 2))) = some (r1, r2) := H
  have A2 := Aside0.mk A20
  clear A20
  by_cases c3 : t132 = true
  · subst c3
    have H1 : ((yard_below.f k a0 1 1).bind fun t133 => (some (wrap64 (1 + t133), 0))) = some (r1, r2) := by rw [if_pos rfl] at H; exact H
    clear H
    have H := H1
    clear H1
    replace H := Option.bind_eq_some_iff.mp H
    obtain ⟨t133, A40, H⟩ := H
    replace H : (some (wrap64 (1 + t133), 0)) = some (r1, r2) := H
    have A4 := Aside0.mk A40
    clear A40
    simp only [Option.some.injEq, Prod.mk.injEq] at H
    obtain ⟨rfl, rfl⟩ := H
    go_enter Try.func35, Try.ntmps35
    go_wp2_with (first | ((with_reducible refine gate_callee (f := 69) rfl ?_); refine goesL_ (some 5) rfl rfl Try.func69 (by kernel_rfl) rfl #[.int .i64 a0] rfl (by (try simp only [List.map_toArray, List.map_cons, List.map_nil]); first | done | rfl | (simp only [List.length_drop, List.length_take]; rfl)) ?_; (with_reducible refine (yard_isRow.calls a0 true _ A2.out).mono ?_); rintro e w' ⟨rfl, ⟨nd, rfl⟩⟩; refine ⟨_, rfl, ?_⟩) | ((with_reducible refine gate_callee (f := 70) rfl ?_); refine goesL_ (some 9) rfl rfl Try.func70 (by kernel_rfl) rfl #[.int .i64 a0, .agg #[.int .i64 1, .int .i64 1]] rfl (by (try simp only [List.map_toArray, List.map_cons, List.map_nil]); first | done | rfl | (simp only [List.length_drop, List.length_take]; rfl)) ?_; (with_reducible refine (yard_below.calls k a0 1 1 t133 _ A4.out).mono ?_); rintro e w5 ⟨rfl, hb⟩; refine ⟨_, rfl, ?_⟩; have n0_ := Aside0.mk (below_step (by repeat (first | (with_reducible first | exact HB.out | apply below_alloc | apply pw_below_drewN | apply below_drew1) | exact HB.out)) hb); clear HB; have HB := n0_; clear n0_; (try clear hb); (try clear hb2); (try clear hk); (try clear hi)))
    go_ret2
    exact ⟨by first | rfl | (simp [errW_none, errW_some] <;> rfl) | (simp [*, errW_none, errW_some] <;> rfl), by repeat (first | (with_reducible first | exact HB.out | apply below_alloc | apply pw_below_drewN | apply below_drew1) | exact HB.out)⟩
  · replace c3 := Bool.eq_false_iff.mpr c3
    subst c3
    have H1 : (some (0, 2)) = some (r1, r2) := by rw [if_neg (show ¬ (false = true) by decide)] at H; exact H
    clear H
    have H := H1
    clear H1
    simp only [Option.some.injEq, Prod.mk.injEq] at H
    obtain ⟨rfl, rfl⟩ := H
    go_enter Try.func35, Try.ntmps35
    go_wp2_with (first | ((with_reducible refine gate_callee (f := 69) rfl ?_); refine goesL_ (some 5) rfl rfl Try.func69 (by kernel_rfl) rfl #[.int .i64 a0] rfl (by (try simp only [List.map_toArray, List.map_cons, List.map_nil]); first | done | rfl | (simp only [List.length_drop, List.length_take]; rfl)) ?_; (with_reducible refine (yard_isRow.calls a0 false _ A2.out).mono ?_); rintro e w' ⟨rfl, ⟨nd, rfl⟩⟩; refine ⟨_, rfl, ?_⟩))
    go_ret2
    exact ⟨by first | rfl | (simp [errW_none, errW_some] <;> rfl) | (simp [*, errW_none, errW_some] <;> rfl), by repeat (first | (with_reducible first | exact HB.out | apply below_alloc | apply pw_below_drewN | apply below_drew1) | exact HB.out)⟩

/-! ### galloonlaw03_awake: function 21 -/
def galloonlaw03_awake.j0 : Nat → Bool → Option (Bool)
  | 0, _ => none
  | k + 1, x82 => if x82 = true then (some false) else (some true)
def galloonlaw03_awake.f (k : Nat)  : Option (Bool) := (yard_Size.f k 5).bind fun bt134 => ((yard_Between.f k 1 3 1 2).bind fun bt136 => ((yard_Path.f k 2 5).bind fun bt140 => ((yard_Saw.f k 1 3).bind fun bt142 => ((yard_Quotients.f k 2 5).bind fun bt145 => (if bt134.2 = 0 then (if bt134.1 = 11 then (if bt136.2.2 = 0 then (if (!(bt136.1 == 2) || (!(bt136.2.1 == 5))) = true then (galloonlaw03_awake.j0 k true) else (if bt140.2 = 0 then (if bt140.1.toList = ([76, 82] : List UInt8) then (if bt142.2.2 = 0 then (if bt142.1 = 1 then (if bt142.2.1 = 18 then (if bt145.2 = 0 then ((galloonlaw03_ints.f k bt145.1 (([2, 2] : List Int))).bind fun t152 => (galloonlaw03_awake.j0 k (!t152))) else (galloonlaw03_awake.j0 k true)) else (galloonlaw03_awake.j0 k true)) else (galloonlaw03_awake.j0 k true)) else (galloonlaw03_awake.j0 k true)) else (galloonlaw03_awake.j0 k true)) else (galloonlaw03_awake.j0 k true))) else (galloonlaw03_awake.j0 k true)) else (galloonlaw03_awake.j0 k true)) else (galloonlaw03_awake.j0 k true))))))
theorem galloonlaw03_awake.mono_l : ∀ k, (∀ y0, LeO (galloonlaw03_awake.j0 k y0) (galloonlaw03_awake.j0 (k + 1) y0))
  | 0 => fun _ r h => by simp [galloonlaw03_awake.j0] at h
  | k + 1 => by
    have ih0 := galloonlaw03_awake.mono_l k
    · intro y0
      unfold galloonlaw03_awake.j0
      repeat' first
      | (with_reducible exact ih0 _)
      | (with_reducible exact galloonlaw03_ints.mono _ _ _)
      | (with_reducible exact yard_Between.mono _ _ _ _ _)
      | (with_reducible exact yard_Path.mono _ _ _)
      | (with_reducible exact yard_Quotients.mono _ _ _)
      | (with_reducible exact yard_Saw.mono _ _ _)
      | (with_reducible exact yard_Size.mono _ _)
      | (with_reducible exact LeO.refl _)
      | (with_reducible exact LeO.none _)
      | (with_reducible refine LeO.ite ?_ ?_)
      | (with_reducible refine LeO.bind ?_ (fun _ => ?_))
      | exact ih0 _
      | exact galloonlaw03_ints.mono _ _ _
      | exact yard_Between.mono _ _ _ _ _
      | exact yard_Path.mono _ _ _
      | exact yard_Quotients.mono _ _ _
      | exact yard_Saw.mono _ _ _
      | exact yard_Size.mono _ _
      | exact LeO.none _
      | refine LeO.ite ?_ ?_
      | refine LeO.bind ?_ (fun _ => ?_)
theorem galloonlaw03_awake.mono : ∀ k, LeO (galloonlaw03_awake.f k ) (galloonlaw03_awake.f (k + 1) ) := by
  intro  k
  have ih0 := galloonlaw03_awake.mono_l k
  unfold galloonlaw03_awake.f
  repeat' first
      | (with_reducible exact ih0 _)
      | (with_reducible exact galloonlaw03_ints.mono _ _ _)
      | (with_reducible exact yard_Between.mono _ _ _ _ _)
      | (with_reducible exact yard_Path.mono _ _ _)
      | (with_reducible exact yard_Quotients.mono _ _ _)
      | (with_reducible exact yard_Saw.mono _ _ _)
      | (with_reducible exact yard_Size.mono _ _)
      | (with_reducible exact LeO.refl _)
      | (with_reducible exact LeO.none _)
      | (with_reducible refine LeO.ite ?_ ?_)
      | (with_reducible refine LeO.bind ?_ (fun _ => ?_))
      | exact ih0 _
      | exact galloonlaw03_ints.mono _ _ _
      | exact yard_Between.mono _ _ _ _ _
      | exact yard_Path.mono _ _ _
      | exact yard_Quotients.mono _ _ _
      | exact yard_Saw.mono _ _ _
      | exact yard_Size.mono _ _
      | exact LeO.none _
      | refine LeO.ite ?_ ?_
      | refine LeO.bind ?_ (fun _ => ?_)
set_option maxHeartbeats 8000000 in
set_option maxRecDepth 100000 in
theorem galloonlaw03_awake.calls (k : Nat)  (r : Bool) (w : World) (h : galloonlaw03_awake.f k  = some r) :
    Calls Try.prog 21 #[] w fun e w' => e = .returned (.bool r) ∧ Below w.heap.size w w' := by
  have hu23 := Try.underlying23
  have HB := Aside0.mk (Below.refl w.heap.size w)
  have H : ((yard_Size.f k 5).bind fun bt134 => ((yard_Between.f k 1 3 1 2).bind fun bt136 => ((yard_Path.f k 2 5).bind fun bt140 => ((yard_Saw.f k 1 3).bind fun bt142 => ((yard_Quotients.f k 2 5).bind fun bt145 => (if bt134.2 = 0 then (if bt134.1 = 11 then (if bt136.2.2 = 0 then (if (!(bt136.1 == 2) || (!(bt136.2.1 == 5))) = true then (galloonlaw03_awake.j0 k true) else (if bt140.2 = 0 then (if bt140.1.toList = ([76, 82] : List UInt8) then (if bt142.2.2 = 0 then (if bt142.1 = 1 then (if bt142.2.1 = 18 then (if bt145.2 = 0 then ((galloonlaw03_ints.f k bt145.1 (([2, 2] : List Int))).bind fun t152 => (galloonlaw03_awake.j0 k (!t152))) else (galloonlaw03_awake.j0 k true)) else (galloonlaw03_awake.j0 k true)) else (galloonlaw03_awake.j0 k true)) else (galloonlaw03_awake.j0 k true)) else (galloonlaw03_awake.j0 k true)) else (galloonlaw03_awake.j0 k true))) else (galloonlaw03_awake.j0 k true)) else (galloonlaw03_awake.j0 k true)) else (galloonlaw03_awake.j0 k true))))))) = some r := h
  clear h
  replace H := Option.bind_eq_some_iff.mp H
  obtain ⟨⟨t134, t135⟩, A10, H⟩ := H
  replace H : ((yard_Between.f k 1 3 1 2).bind fun bt136 => ((yard_Path.f k 2 5).bind fun bt140 => ((yard_Saw.f k 1 3).bind fun bt142 => ((yard_Quotients.f k 2 5).bind fun bt145 => (if t135 = 0 then (if t134 = 11 then (if bt136.2.2 = 0 then (if (!(bt136.1 == 2) || (!(bt136.2.1 == 5))) = true then (galloonlaw03_awake.j0 k true) else (if bt140.2 = 0 then (if bt140.1.toList = ([76, 82] : List UInt8) then (if bt142.2.2 = 0 then (if bt142.1 = 1 then (if bt142.2.1 = 18 then (if bt145.2 = 0 then ((galloonlaw03_ints.f k bt145.1 (([2, 2] : List Int))).bind fun t152 => (galloonlaw03_awake.j0 k (!t152))) else (galloonlaw03_awake.j0 k true)) else (galloonlaw03_awake.j0 k true)) else (galloonlaw03_awake.j0 k true)) else (galloonlaw03_awake.j0 k true)) else (galloonlaw03_awake.j0 k true)) else (galloonlaw03_awake.j0 k true))) else (galloonlaw03_awake.j0 k true)) else (galloonlaw03_awake.j0 k true)) else (galloonlaw03_awake.j0 k true)))))) = some r := H
  have A1 := Aside0.mk A10
  clear A10
  replace H := Option.bind_eq_some_iff.mp H
  obtain ⟨⟨t136, t137, t138⟩, A20, H⟩ := H
  replace H : ((yard_Path.f k 2 5).bind fun bt140 => ((yard_Saw.f k 1 3).bind fun bt142 => ((yard_Quotients.f k 2 5).bind fun bt145 => (if t135 = 0 then (if t134 = 11 then (if t138 = 0 then (if (!(t136 == 2) || (!(t137 == 5))) = true then (galloonlaw03_awake.j0 k true) else (if bt140.2 = 0 then (if bt140.1.toList = ([76, 82] : List UInt8) then (if bt142.2.2 = 0 then (if bt142.1 = 1 then (if bt142.2.1 = 18 then (if bt145.2 = 0 then ((galloonlaw03_ints.f k bt145.1 (([2, 2] : List Int))).bind fun t152 => (galloonlaw03_awake.j0 k (!t152))) else (galloonlaw03_awake.j0 k true)) else (galloonlaw03_awake.j0 k true)) else (galloonlaw03_awake.j0 k true)) else (galloonlaw03_awake.j0 k true)) else (galloonlaw03_awake.j0 k true)) else (galloonlaw03_awake.j0 k true))) else (galloonlaw03_awake.j0 k true)) else (galloonlaw03_awake.j0 k true)) else (galloonlaw03_awake.j0 k true))))) = some r := H
  have A2 := Aside0.mk A20
  clear A20
  replace H := Option.bind_eq_some_iff.mp H
  obtain ⟨⟨t140, t141⟩, A30, H⟩ := H
  replace H : ((yard_Saw.f k 1 3).bind fun bt142 => ((yard_Quotients.f k 2 5).bind fun bt145 => (if t135 = 0 then (if t134 = 11 then (if t138 = 0 then (if (!(t136 == 2) || (!(t137 == 5))) = true then (galloonlaw03_awake.j0 k true) else (if t141 = 0 then (if t140.toList = ([76, 82] : List UInt8) then (if bt142.2.2 = 0 then (if bt142.1 = 1 then (if bt142.2.1 = 18 then (if bt145.2 = 0 then ((galloonlaw03_ints.f k bt145.1 (([2, 2] : List Int))).bind fun t152 => (galloonlaw03_awake.j0 k (!t152))) else (galloonlaw03_awake.j0 k true)) else (galloonlaw03_awake.j0 k true)) else (galloonlaw03_awake.j0 k true)) else (galloonlaw03_awake.j0 k true)) else (galloonlaw03_awake.j0 k true)) else (galloonlaw03_awake.j0 k true))) else (galloonlaw03_awake.j0 k true)) else (galloonlaw03_awake.j0 k true)) else (galloonlaw03_awake.j0 k true)))) = some r := H
  have A3 := Aside0.mk A30
  clear A30
  replace H := Option.bind_eq_some_iff.mp H
  obtain ⟨⟨t142, t143, t144⟩, A40, H⟩ := H
  replace H : ((yard_Quotients.f k 2 5).bind fun bt145 => (if t135 = 0 then (if t134 = 11 then (if t138 = 0 then (if (!(t136 == 2) || (!(t137 == 5))) = true then (galloonlaw03_awake.j0 k true) else (if t141 = 0 then (if t140.toList = ([76, 82] : List UInt8) then (if t144 = 0 then (if t142 = 1 then (if t143 = 18 then (if bt145.2 = 0 then ((galloonlaw03_ints.f k bt145.1 (([2, 2] : List Int))).bind fun t152 => (galloonlaw03_awake.j0 k (!t152))) else (galloonlaw03_awake.j0 k true)) else (galloonlaw03_awake.j0 k true)) else (galloonlaw03_awake.j0 k true)) else (galloonlaw03_awake.j0 k true)) else (galloonlaw03_awake.j0 k true)) else (galloonlaw03_awake.j0 k true))) else (galloonlaw03_awake.j0 k true)) else (galloonlaw03_awake.j0 k true)) else (galloonlaw03_awake.j0 k true))) = some r := H
  have A4 := Aside0.mk A40
  clear A40
  replace H := Option.bind_eq_some_iff.mp H
  obtain ⟨⟨t145, t148⟩, A50, H⟩ := H
  replace H : (if t135 = 0 then (if t134 = 11 then (if t138 = 0 then (if (!(t136 == 2) || (!(t137 == 5))) = true then (galloonlaw03_awake.j0 k true) else (if t141 = 0 then (if t140.toList = ([76, 82] : List UInt8) then (if t144 = 0 then (if t142 = 1 then (if t143 = 18 then (if t148 = 0 then ((galloonlaw03_ints.f k t145 (([2, 2] : List Int))).bind fun t152 => (galloonlaw03_awake.j0 k (!t152))) else (galloonlaw03_awake.j0 k true)) else (galloonlaw03_awake.j0 k true)) else (galloonlaw03_awake.j0 k true)) else (galloonlaw03_awake.j0 k true)) else (galloonlaw03_awake.j0 k true)) else (galloonlaw03_awake.j0 k true))) else (galloonlaw03_awake.j0 k true)) else (galloonlaw03_awake.j0 k true)) else (galloonlaw03_awake.j0 k true)) = some r := H
  have A5 := Aside0.mk A50
  clear A50
  have HC6 := Aside0.mk H
  clear H
  go_enter Try.func21, Try.ntmps21
  go_upto_region 6 with (first | ((with_reducible refine gate_callee (f := 35) rfl ?_); refine goesL_ (some 13) rfl rfl Try.func35 (by kernel_rfl) rfl #[.int .i64 5] rfl (by (try simp only [List.map_toArray, List.map_cons, List.map_nil]); first | done | rfl | (simp only [List.length_drop, List.length_take]; rfl)) ?_; (with_reducible refine (yard_Size.calls k 5 t134 t135 _ A1.out).mono ?_); rintro e w7 ⟨rfl, hb⟩; refine ⟨_, rfl, ?_⟩; have n0_ := Aside0.mk (below_step (by repeat (first | (with_reducible first | exact HB.out | apply below_alloc | apply pw_below_drewN | apply below_drew1) | exact HB.out)) hb); clear HB; have HB := n0_; clear n0_; (try clear hb); (try clear hb2); (try clear hk); (try clear hi)) | ((with_reducible refine gate_callee (f := 30) rfl ?_); refine goesL_ (some 19) rfl rfl Try.func30 (by kernel_rfl) rfl #[.agg #[.int .i64 1, .int .i64 3], .agg #[.int .i64 1, .int .i64 2]] rfl (by (try simp only [List.map_toArray, List.map_cons, List.map_nil]); first | done | rfl | (simp only [List.length_drop, List.length_take]; rfl)) ?_; (with_reducible refine (yard_Between.calls k 1 3 1 2 t136 t137 t138 _ A2.out).mono ?_); rintro e w8 ⟨rfl, hb⟩; refine ⟨_, rfl, ?_⟩; have n0_ := Aside0.mk (below_step (by repeat (first | (with_reducible first | exact HB.out | apply below_alloc | apply pw_below_drewN | apply below_drew1) | exact HB.out)) hb); clear HB; have HB := n0_; clear n0_; (try clear hb); (try clear hb2); (try clear hk); (try clear hi)) | ((with_reducible refine gate_dst (N := 3) rfl ?_); (try (refine gate_guard (by rfl) ?_; dsimp only)); refine box_event ?hg (N := 3) ?hd (cs := #[.int .i64 0, .int .i64 0]) (t := 23) ?hr ?_; (case hd => rfl); (case hg => rfl); (case hr => first | (go_simp; done) | (go_simp; rfl)); intro gb139 hg w9 hbox hb; have n0_ := Aside0.mk (below_step (by repeat (first | (with_reducible first | exact HB.out | apply below_alloc | apply pw_below_drewN | apply below_drew1) | exact HB.out)) hb); have n1_ := Aside0.mk (hbox); have n2_ := Aside0.mk ((by rw [hg]; exact (below_size (by repeat (first | (with_reducible first | exact HB.out | apply below_alloc | apply pw_below_drewN | apply below_drew1) | exact HB.out))) : w.heap.size ≤ gb139)); have n3_ := Aside0.mk ((by rw [hg]; exact (below_size (by repeat (first | (with_reducible first | exact HB.out | apply below_alloc | apply pw_below_drewN | apply below_drew1) | exact HB.out))) : w.heap.size ≤ gb139)); clear HB; have HB := n0_; have BK139 := n1_; have GW139 := n2_; have GE139 := n3_; clear n0_ n1_ n2_ n3_; clear hb hbox hg; have hcz10_0 : w9.cell? ⟨gb139, 0, none⟩ = some (.int .i64 0) := (blk_cell BK139.out 0).trans rfl; have hcz10_1 : w9.cell? ⟨gb139, 1, none⟩ = some (.int .i64 0) := (blk_cell BK139.out 1).trans rfl; have hfz10_0 := blk_frozen BK139.out 0; have hfz10_1 := blk_frozen BK139.out 1) | ((with_reducible refine gate_callee (f := 17) rfl ?_); refine goesL_ (some 24) rfl rfl Try.func17 (by kernel_rfl) rfl #[.agg #[.int .i64 2, .int .i64 5]] rfl (by (try simp only [List.map_toArray, List.map_cons, List.map_nil]); first | done | rfl | (simp only [List.length_drop, List.length_take]; rfl)) ?_; (with_reducible refine (yard_Path.calls k 2 5 t140 t141 _ A3.out).mono ?_); rintro e w11 ⟨rfl, hb⟩; refine ⟨_, rfl, ?_⟩; have n0_ := Aside0.mk (blk_below (g := gb139) (o := .cells #[.int .i64 t136, .int .i64 t137] 23 (0, 0)) (by (with_reducible repeat (first | refine blk_drewN ?_ _ | refine blk_drew ?_ | refine blk_alloc ?_ _)); refine blk_put (cs := #[.int .i64 t136, .int .i64 0]) ?_ 1 _ rfl; (with_reducible repeat (first | refine blk_drewN ?_ _ | refine blk_drew ?_ | refine blk_alloc ?_ _)); refine blk_put (cs := #[.int .i64 0, .int .i64 0]) ?_ 0 _ rfl; (with_reducible repeat (first | refine blk_drewN ?_ _ | refine blk_drew ?_ | refine blk_alloc ?_ _)); exact BK139.out) hb); have n1_ := Aside0.mk (below_step (by repeat (first | (with_reducible first | exact HB.out | apply below_alloc | apply pw_below_drewN | apply below_drew1 | refine below_set ?_ GE139.out) | exact HB.out)) hb); clear BK139; clear HB; have BK139 := n0_; have HB := n1_; clear n0_ n1_; (try clear hb); (try clear hb2); (try clear hk); (try clear hi)) | ((with_reducible refine gate_callee (f := 19) rfl ?_); refine goesL_ (some 29) rfl rfl Try.func19 (by kernel_rfl) rfl #[.agg #[.int .i64 1, .int .i64 3]] rfl (by (try simp only [List.map_toArray, List.map_cons, List.map_nil]); first | done | rfl | (simp only [List.length_drop, List.length_take]; rfl)) ?_; (with_reducible refine (yard_Saw.calls k 1 3 t142 t143 t144 _ A4.out).mono ?_); rintro e w12 ⟨rfl, hb⟩; refine ⟨_, rfl, ?_⟩; have n0_ := Aside0.mk (blk_below (g := gb139) (o := .cells #[.int .i64 t136, .int .i64 t137] 23 (0, 0)) (by (with_reducible repeat (first | refine blk_drewN ?_ _ | refine blk_drew ?_ | refine blk_alloc ?_ _)); exact BK139.out) hb); have n1_ := Aside0.mk (below_step (by repeat (first | (with_reducible first | exact HB.out | apply below_alloc | apply pw_below_drewN | apply below_drew1 | refine below_set ?_ GE139.out) | exact HB.out)) hb); clear BK139; clear HB; have BK139 := n0_; have HB := n1_; clear n0_ n1_; (try clear hb); (try clear hb2); (try clear hk); (try clear hi)) | ((with_reducible refine gate_callee (f := 18) rfl ?_); refine goesL_ (some 35) rfl rfl Try.func18 (by kernel_rfl) rfl #[.agg #[.int .i64 2, .int .i64 5]] rfl (by (try simp only [List.map_toArray, List.map_cons, List.map_nil]); first | done | rfl | (simp only [List.length_drop, List.length_take]; rfl)) ?_; (with_reducible refine (yard_Quotients.calls k 2 5 t145 t148 _ A5.out).mono ?_); rintro e w13 ⟨v146, rfl, ho0, hb⟩; refine ⟨_, rfl, ?_⟩; have n0_ := Aside0.mk (Kd.R_lower ho0 (below_size (by repeat (first | (with_reducible first | exact HB.out | apply below_alloc | apply pw_below_drewN | apply below_drew1 | refine below_set ?_ GE139.out) | exact HB.out)))); have n1_ := Aside0.mk (blk_below (g := gb139) (o := .cells #[.int .i64 t136, .int .i64 t137] 23 (0, 0)) (by (with_reducible repeat (first | refine blk_drewN ?_ _ | refine blk_drew ?_ | refine blk_alloc ?_ _)); exact BK139.out) hb); have n2_ := Aside0.mk (below_step (by repeat (first | (with_reducible first | exact HB.out | apply below_alloc | apply pw_below_drewN | apply below_drew1 | refine below_set ?_ GE139.out) | exact HB.out)) hb); clear BK139; clear HB; have HO147 := n0_; have BK139 := n1_; have HB := n2_; clear n0_ n1_ n2_; (try clear hb); (try clear hb2); (try clear hk); (try clear hi); (try clear ho0)))
  (try simp only [Act.put, List.setIfInBounds_toArray, List.set_cons_zero, List.set_cons_succ])
  go_cut [82] (fun v82 wc => ∃ (kq : Nat) (x82_5 : Bool), v82 = .bool x82_5 ∧ Aside0 (galloonlaw03_awake.j0 kq x82_5 = some r) ∧ Aside0 (kq ≤ k) ∧ Aside0 (wc.heap[gb139]? = some (.cells #[.int .i64 t136, .int .i64 t137] 23 (0, 0))) ∧ Aside0 (Below w.heap.size w wc))
  case first =>
    have H := HC6.out
    clear HC6
    by_cases c14 : t135 = 0
    · rw [if_pos c14] at H
      have c14b0 : (t135 == 0) = true := beq_iff_eq.mpr c14
      have c14b1 : (t135 != 0) = false := bne_eq_false_iff_eq.mpr c14
      clear c14
      (first | rw [c14b0] | (simp only [i64_w, i32_w]; rw [c14b0]) | skip)
      by_cases c15 : t134 = 11
      · rw [if_pos c15] at H
        have c15b0 : (t134 == 11) = true := beq_iff_eq.mpr c15
        have c15b1 : (t134 != 11) = false := bne_eq_false_iff_eq.mpr c15
        clear c15
        by_cases c16 : t138 = 0
        · rw [if_pos c16] at H
          have c16b0 : (t138 == 0) = true := beq_iff_eq.mpr c16
          have c16b1 : (t138 != 0) = false := bne_eq_false_iff_eq.mpr c16
          clear c16
          by_cases c17 : (!(t136 == 2) || (!(t137 == 5))) = true
          · rw [if_pos c17] at H
            have c17b0 : (!(t136 == 2) || (!(t137 == 5))) = true := c17
            clear c17
            have H' := Aside0.mk H
            clear H
            have hcz18_0 : w13.cell? ⟨gb139, 0, none⟩ = some (.int .i64 t136) := (blk_cell BK139.out 0).trans rfl
            have hcz18_1 : w13.cell? ⟨gb139, 1, none⟩ = some (.int .i64 t137) := (blk_cell BK139.out 1).trans rfl
            have hfz18_0 := blk_frozen BK139.out 0
            have hfz18_1 := blk_frozen BK139.out 1
            go_wp2
            go_meet
            case rel => exact ⟨_, (true), (by first | rfl | (simp; done) | (simp [*]; done)), H', ⟨by first | omega | exact Nat.le_refl _⟩, ⟨by (with_reducible repeat (first | refine blk_drewN ?_ _ | refine blk_drew ?_ | refine blk_alloc ?_ _)); exact BK139.out⟩, ⟨by repeat (first | (with_reducible first | exact HB.out | apply below_alloc | apply pw_below_drewN | apply below_drew1 | refine below_set ?_ GE139.out) | exact HB.out)⟩⟩
          · rw [if_neg c17] at H
            have c17b0 : (!(t136 == 2) || (!(t137 == 5))) = false := by simpa using c17
            clear c17
            by_cases c19 : t141 = 0
            · rw [if_pos c19] at H
              have c19b0 : (t141 == 0) = true := beq_iff_eq.mpr c19
              have c19b1 : (t141 != 0) = false := bne_eq_false_iff_eq.mpr c19
              clear c19
              by_cases c20 : t140.toList = ([76, 82] : List UInt8)
              · rw [if_pos c20] at H
                have c20b0 : (t140.toList == ([76, 82] : List UInt8)) = true := beq_iff_eq.mpr c20
                have c20b1 : (t140.toList != ([76, 82] : List UInt8)) = false := bne_eq_false_iff_eq.mpr c20
                clear c20
                by_cases c21 : t144 = 0
                · rw [if_pos c21] at H
                  have c21b0 : (t144 == 0) = true := beq_iff_eq.mpr c21
                  have c21b1 : (t144 != 0) = false := bne_eq_false_iff_eq.mpr c21
                  clear c21
                  by_cases c22 : t142 = 1
                  · rw [if_pos c22] at H
                    have c22b0 : (t142 == 1) = true := beq_iff_eq.mpr c22
                    have c22b1 : (t142 != 1) = false := bne_eq_false_iff_eq.mpr c22
                    clear c22
                    by_cases c23 : t143 = 18
                    · rw [if_pos c23] at H
                      have c23b0 : (t143 == 18) = true := beq_iff_eq.mpr c23
                      have c23b1 : (t143 != 18) = false := bne_eq_false_iff_eq.mpr c23
                      clear c23
                      by_cases c24 : t148 = 0
                      · rw [if_pos c24] at H
                        have c24b0 : (t148 == 0) = true := beq_iff_eq.mpr c24
                        have c24b1 : (t148 != 0) = false := bne_eq_false_iff_eq.mpr c24
                        clear c24
                        obtain ⟨y149, hy149⟩ : ∃ y_ : List Int, y_ = (([2, 2] : List Int)) := ⟨_, rfl⟩
                        replace H : ((galloonlaw03_ints.f k t145 y149).bind fun t152 => (galloonlaw03_awake.j0 k (!t152))) = some r := by first | (rw [hy149]; with_reducible exact H) | (have H2_ := (Option.bind_some _ _).symm.trans H; rw [hy149]; with_reducible exact H2_) | (have H2_ := (Option.bind_some _ _).symm.trans H; with_reducible exact H2_) | with_reducible exact H | (rw [hy149]; exact H) | exact H
                        have Ny149 := Aside0.mk hy149
                        clear hy149
                        replace H := Option.bind_eq_some_iff.mp H
                        obtain ⟨t152, A250, H⟩ := H
                        replace H : (galloonlaw03_awake.j0 k (!t152)) = some r := H
                        have A25 := Aside0.mk A250
                        clear A250
                        have H' := Aside0.mk H
                        clear H
                        have hcz26_0 : w13.cell? ⟨gb139, 0, none⟩ = some (.int .i64 t136) := (blk_cell BK139.out 0).trans rfl
                        have hcz26_1 : w13.cell? ⟨gb139, 1, none⟩ = some (.int .i64 t137) := (blk_cell BK139.out 1).trans rfl
                        have hfz26_0 := blk_frozen BK139.out 0
                        have hfz26_1 := blk_frozen BK139.out 1
                        go_wp2_with (first | ((with_reducible refine gate_dst (N := 79) rfl ?_); (try (refine gate_guard (by rfl) ?_; dsimp only)); refine Kd.R_lit (Kd.int .i64) _ 3 ?hg (N := 79) ?hd (xs := ([2, 2] : List Int)) (inner := [.int .i64 2, .int .i64 2]) (ok := fun _ => True) (okp := fun _ => True) ?hr ?hp (fun _ hk => hk) trivial (Below.refl _ _) (Nat.le_refl _) (by simp) ?_; (case hd => rfl); (case hg => rfl); (case hr => first | (go_simp; done) | (go_simp; rfl)); (case hp => exact (Reps.one (show Kd.M (Kd.int .i64) _ _ _ 2 [.int .i64 2] from rfl) (Reps.one (show Kd.M (Kd.int .i64) _ _ _ 2 [.int .i64 2] from rfl) (Reps.none _ _)))); intro v150 w27 ho28 hb hg_ hnew_; clear hg_ hnew_; (first | rw [← Ny149.out] at ho28 | (simp only [Int.reduceToNat] at ho28; rw [← Ny149.out] at ho28)); have n0_ := Aside0.mk (Kd.R_elder' (by (with_reducible repeat (first | apply Kd.R_alloc | apply Kd.R_drewN | apply Kd.R_drew)); exact HO147.out) (Kd.R_base ho28) hb); have n1_ := Aside0.mk (Kd.R_lower (Kd.R_new' ho28 (Kd.R_lt (by (with_reducible repeat (first | apply Kd.R_alloc | apply Kd.R_drewN | apply Kd.R_drew)); exact HO147.out))) (below_size (by repeat (first | (with_reducible first | exact HB.out | apply below_alloc | apply pw_below_drewN | apply below_drew1 | refine below_set ?_ GE139.out) | exact HB.out)))); have n2_ := Aside0.mk (blk_below (g := gb139) (o := .cells #[.int .i64 t136, .int .i64 t137] 23 (0, 0)) (by (with_reducible repeat (first | refine blk_drewN ?_ _ | refine blk_drew ?_ | refine blk_alloc ?_ _)); exact BK139.out) hb); have n3_ := Aside0.mk (below_step (by repeat (first | (with_reducible first | exact HB.out | apply below_alloc | apply pw_below_drewN | apply below_drew1 | refine below_set ?_ GE139.out) | exact HB.out)) hb); clear HO147; clear BK139; clear HB; have HO147 := n0_; have HO151 := n1_; have BK139 := n2_; have HB := n3_; clear n0_ n1_ n2_ n3_; clear hb ho28; obtain ⟨Ao29, co29, eo29⟩ := Kd.R_slice HO147.out; subst eo29; obtain ⟨Ao30, co30, eo30⟩ := Kd.R_slice HO151.out; subst eo30) | (go_at_call 22; (with_reducible refine (galloonlaw03_ints.calls k _ _ t145 _ _ y149 t152 _ ?side1 ?side2 ?side3 ?side4 A25.out).mono ?_); (case side1 => repeat (first | exact (Kd.R_reads' HO147.out).2.2 | (with_reducible refine Kd.C_alloc ?_ _) | (with_reducible refine Kd.C_drewN ?_ _) | (with_reducible refine Kd.C_drew ?_))); (case side2 => exact (Kd.R_reads' HO147.out).2.1); (case side3 => repeat (first | exact (Kd.R_reads' HO151.out).2.2 | (with_reducible refine Kd.C_alloc ?_ _) | (with_reducible refine Kd.C_drewN ?_ _) | (with_reducible refine Kd.C_drew ?_))); (case side4 => exact (Kd.R_reads' HO151.out).2.1); rintro e w' ⟨rfl, ⟨nd, rfl⟩⟩))
                        go_meet
                        case rel => exact ⟨_, (!t152), (by first | rfl | (simp; done) | (simp [*]; done)), H', ⟨by first | omega | exact Nat.le_refl _⟩, ⟨by (with_reducible repeat (first | refine blk_drewN ?_ _ | refine blk_drew ?_ | refine blk_alloc ?_ _)); exact BK139.out⟩, ⟨by repeat (first | (with_reducible first | exact HB.out | apply below_alloc | apply pw_below_drewN | apply below_drew1 | refine below_set ?_ GE139.out) | exact HB.out)⟩⟩
                      · rw [if_neg c24] at H
                        have c24b0 : (t148 == 0) = false := beq_eq_false_iff_ne.mpr c24
                        have c24b1 : (t148 != 0) = true := bne_iff_ne.mpr c24
                        have H' := Aside0.mk H
                        clear H
                        have hcz31_0 : w13.cell? ⟨gb139, 0, none⟩ = some (.int .i64 t136) := (blk_cell BK139.out 0).trans rfl
                        have hcz31_1 : w13.cell? ⟨gb139, 1, none⟩ = some (.int .i64 t137) := (blk_cell BK139.out 1).trans rfl
                        have hfz31_0 := blk_frozen BK139.out 0
                        have hfz31_1 := blk_frozen BK139.out 1
                        go_wp2
                        go_meet
                        case rel => exact ⟨_, (true), (by first | rfl | (simp; done) | (simp [*]; done)), H', ⟨by first | omega | exact Nat.le_refl _⟩, ⟨by (with_reducible repeat (first | refine blk_drewN ?_ _ | refine blk_drew ?_ | refine blk_alloc ?_ _)); exact BK139.out⟩, ⟨by repeat (first | (with_reducible first | exact HB.out | apply below_alloc | apply pw_below_drewN | apply below_drew1 | refine below_set ?_ GE139.out) | exact HB.out)⟩⟩
                    · rw [if_neg c23] at H
                      have c23b0 : (t143 == 18) = false := beq_eq_false_iff_ne.mpr c23
                      have c23b1 : (t143 != 18) = true := bne_iff_ne.mpr c23
                      have H' := Aside0.mk H
                      clear H
                      have hcz32_0 : w13.cell? ⟨gb139, 0, none⟩ = some (.int .i64 t136) := (blk_cell BK139.out 0).trans rfl
                      have hcz32_1 : w13.cell? ⟨gb139, 1, none⟩ = some (.int .i64 t137) := (blk_cell BK139.out 1).trans rfl
                      have hfz32_0 := blk_frozen BK139.out 0
                      have hfz32_1 := blk_frozen BK139.out 1
                      go_wp2
                      go_meet
                      case rel => exact ⟨_, (true), (by first | rfl | (simp; done) | (simp [*]; done)), H', ⟨by first | omega | exact Nat.le_refl _⟩, ⟨by (with_reducible repeat (first | refine blk_drewN ?_ _ | refine blk_drew ?_ | refine blk_alloc ?_ _)); exact BK139.out⟩, ⟨by repeat (first | (with_reducible first | exact HB.out | apply below_alloc | apply pw_below_drewN | apply below_drew1 | refine below_set ?_ GE139.out) | exact HB.out)⟩⟩
                  · rw [if_neg c22] at H
                    have c22b0 : (t142 == 1) = false := beq_eq_false_iff_ne.mpr c22
                    have c22b1 : (t142 != 1) = true := bne_iff_ne.mpr c22
                    have H' := Aside0.mk H
                    clear H
                    have hcz33_0 : w13.cell? ⟨gb139, 0, none⟩ = some (.int .i64 t136) := (blk_cell BK139.out 0).trans rfl
                    have hcz33_1 : w13.cell? ⟨gb139, 1, none⟩ = some (.int .i64 t137) := (blk_cell BK139.out 1).trans rfl
                    have hfz33_0 := blk_frozen BK139.out 0
                    have hfz33_1 := blk_frozen BK139.out 1
                    go_wp2
                    go_meet
                    case rel => exact ⟨_, (true), (by first | rfl | (simp; done) | (simp [*]; done)), H', ⟨by first | omega | exact Nat.le_refl _⟩, ⟨by (with_reducible repeat (first | refine blk_drewN ?_ _ | refine blk_drew ?_ | refine blk_alloc ?_ _)); exact BK139.out⟩, ⟨by repeat (first | (with_reducible first | exact HB.out | apply below_alloc | apply pw_below_drewN | apply below_drew1 | refine below_set ?_ GE139.out) | exact HB.out)⟩⟩
                · rw [if_neg c21] at H
                  have c21b0 : (t144 == 0) = false := beq_eq_false_iff_ne.mpr c21
                  have c21b1 : (t144 != 0) = true := bne_iff_ne.mpr c21
                  have H' := Aside0.mk H
                  clear H
                  have hcz34_0 : w13.cell? ⟨gb139, 0, none⟩ = some (.int .i64 t136) := (blk_cell BK139.out 0).trans rfl
                  have hcz34_1 : w13.cell? ⟨gb139, 1, none⟩ = some (.int .i64 t137) := (blk_cell BK139.out 1).trans rfl
                  have hfz34_0 := blk_frozen BK139.out 0
                  have hfz34_1 := blk_frozen BK139.out 1
                  go_wp2
                  go_meet
                  case rel => exact ⟨_, (true), (by first | rfl | (simp; done) | (simp [*]; done)), H', ⟨by first | omega | exact Nat.le_refl _⟩, ⟨by (with_reducible repeat (first | refine blk_drewN ?_ _ | refine blk_drew ?_ | refine blk_alloc ?_ _)); exact BK139.out⟩, ⟨by repeat (first | (with_reducible first | exact HB.out | apply below_alloc | apply pw_below_drewN | apply below_drew1 | refine below_set ?_ GE139.out) | exact HB.out)⟩⟩
              · rw [if_neg c20] at H
                have c20b0 : (t140.toList == ([76, 82] : List UInt8)) = false := beq_eq_false_iff_ne.mpr c20
                have c20b1 : (t140.toList != ([76, 82] : List UInt8)) = true := bne_iff_ne.mpr c20
                have H' := Aside0.mk H
                clear H
                have hcz35_0 : w13.cell? ⟨gb139, 0, none⟩ = some (.int .i64 t136) := (blk_cell BK139.out 0).trans rfl
                have hcz35_1 : w13.cell? ⟨gb139, 1, none⟩ = some (.int .i64 t137) := (blk_cell BK139.out 1).trans rfl
                have hfz35_0 := blk_frozen BK139.out 0
                have hfz35_1 := blk_frozen BK139.out 1
                go_wp2
                go_meet
                case rel => exact ⟨_, (true), (by first | rfl | (simp; done) | (simp [*]; done)), H', ⟨by first | omega | exact Nat.le_refl _⟩, ⟨by (with_reducible repeat (first | refine blk_drewN ?_ _ | refine blk_drew ?_ | refine blk_alloc ?_ _)); exact BK139.out⟩, ⟨by repeat (first | (with_reducible first | exact HB.out | apply below_alloc | apply pw_below_drewN | apply below_drew1 | refine below_set ?_ GE139.out) | exact HB.out)⟩⟩
            · rw [if_neg c19] at H
              have c19b0 : (t141 == 0) = false := beq_eq_false_iff_ne.mpr c19
              have c19b1 : (t141 != 0) = true := bne_iff_ne.mpr c19
              have H' := Aside0.mk H
              clear H
              have hcz36_0 : w13.cell? ⟨gb139, 0, none⟩ = some (.int .i64 t136) := (blk_cell BK139.out 0).trans rfl
              have hcz36_1 : w13.cell? ⟨gb139, 1, none⟩ = some (.int .i64 t137) := (blk_cell BK139.out 1).trans rfl
              have hfz36_0 := blk_frozen BK139.out 0
              have hfz36_1 := blk_frozen BK139.out 1
              go_wp2
              go_meet
              case rel => exact ⟨_, (true), (by first | rfl | (simp; done) | (simp [*]; done)), H', ⟨by first | omega | exact Nat.le_refl _⟩, ⟨by (with_reducible repeat (first | refine blk_drewN ?_ _ | refine blk_drew ?_ | refine blk_alloc ?_ _)); exact BK139.out⟩, ⟨by repeat (first | (with_reducible first | exact HB.out | apply below_alloc | apply pw_below_drewN | apply below_drew1 | refine below_set ?_ GE139.out) | exact HB.out)⟩⟩
        · rw [if_neg c16] at H
          have c16b0 : (t138 == 0) = false := beq_eq_false_iff_ne.mpr c16
          have c16b1 : (t138 != 0) = true := bne_iff_ne.mpr c16
          have H' := Aside0.mk H
          clear H
          go_wp2
          go_meet
          case rel => exact ⟨_, (true), (by first | rfl | (simp; done) | (simp [*]; done)), H', ⟨by first | omega | exact Nat.le_refl _⟩, ⟨by (with_reducible repeat (first | refine blk_drewN ?_ _ | refine blk_drew ?_ | refine blk_alloc ?_ _)); exact BK139.out⟩, ⟨by repeat (first | (with_reducible first | exact HB.out | apply below_alloc | apply pw_below_drewN | apply below_drew1 | refine below_set ?_ GE139.out) | exact HB.out)⟩⟩
      · rw [if_neg c15] at H
        have c15b0 : (t134 == 11) = false := beq_eq_false_iff_ne.mpr c15
        have c15b1 : (t134 != 11) = true := bne_iff_ne.mpr c15
        have H' := Aside0.mk H
        clear H
        go_wp2
        go_meet
        case rel => exact ⟨_, (true), (by first | rfl | (simp; done) | (simp [*]; done)), H', ⟨by first | omega | exact Nat.le_refl _⟩, ⟨by (with_reducible repeat (first | refine blk_drewN ?_ _ | refine blk_drew ?_ | refine blk_alloc ?_ _)); exact BK139.out⟩, ⟨by repeat (first | (with_reducible first | exact HB.out | apply below_alloc | apply pw_below_drewN | apply below_drew1 | refine below_set ?_ GE139.out) | exact HB.out)⟩⟩
    · rw [if_neg c14] at H
      have c14b0 : (t135 == 0) = false := beq_eq_false_iff_ne.mpr c14
      have c14b1 : (t135 != 0) = true := bne_iff_ne.mpr c14
      (first | rw [c14b0] | (simp only [i64_w, i32_w]; rw [c14b0]) | skip)
      have H' := Aside0.mk H
      clear H
      go_wp2
      go_meet
      case rel => exact ⟨_, (true), (by first | rfl | (simp; done) | (simp [*]; done)), H', ⟨by first | omega | exact Nat.le_refl _⟩, ⟨by (with_reducible repeat (first | refine blk_drewN ?_ _ | refine blk_drew ?_ | refine blk_alloc ?_ _)); exact BK139.out⟩, ⟨by repeat (first | (with_reducible first | exact HB.out | apply below_alloc | apply pw_below_drewN | apply below_drew1 | refine below_set ?_ GE139.out) | exact HB.out)⟩⟩
  case rest =>
    clear HC6
    try clear c1
    try clear c2
    try clear p2
    try clear c3
    try clear c14
    try clear c14b0
    try clear c14b1
    try clear c15
    try clear c15b0
    try clear c15b1
    try clear c16
    try clear c16b0
    try clear c16b1
    try clear c17
    try clear c17b0
    try clear c18
    try clear c19
    try clear c19b0
    try clear c19b1
    try clear c20
    try clear c20b0
    try clear c20b1
    try clear c21
    try clear c21b0
    try clear c21b1
    try clear c22
    try clear c22b0
    try clear c22b1
    try clear c23
    try clear c23b0
    try clear c23b1
    try clear c24
    try clear c24b0
    try clear c24b1
    try clear c30
    try clear c35
    try clear hcz10_0
    try clear hcz10_1
    try clear hcz18_0
    try clear hcz18_1
    try clear hcz26_0
    try clear hcz26_1
    try clear hcz31_0
    try clear hcz31_1
    try clear hcz32_0
    try clear hcz32_1
    try clear hcz33_0
    try clear hcz33_1
    try clear hcz34_0
    try clear hcz34_1
    try clear hcz35_0
    try clear hcz35_1
    try clear hcz36_0
    try clear hcz36_1
    try clear hfz10_0
    try clear hfz10_1
    try clear hfz18_0
    try clear hfz18_1
    try clear hfz26_0
    try clear hfz26_1
    try clear hfz31_0
    try clear hfz31_1
    try clear hfz32_0
    try clear hfz32_1
    try clear hfz33_0
    try clear hfz33_1
    try clear hfz34_0
    try clear hfz34_1
    try clear hfz35_0
    try clear hfz35_1
    try clear hfz36_0
    try clear hfz36_1
    obtain ⟨kq, x82_5, rfl, HA, HJ5, BK139, HB⟩ := hcut
    cases kq with
    | zero => exact absurd HA.out (by simp [galloonlaw03_awake.j0])
    | succ kj5 =>
      have H := HA.out
      clear HA
      simp only [galloonlaw03_awake.j0] at H
      by_cases c37 : x82_5 = true
      · subst c37
        have H1 : (some false) = some r := by rw [if_pos rfl] at H; exact H
        clear H
        have H := H1
        clear H1
        obtain rfl := Option.some.inj H
        go_wp2
        go_ret
        exact ⟨by first | rfl | (simp [errW_none, errW_some] <;> rfl) | (simp [*, errW_none, errW_some] <;> rfl), by repeat (first | (with_reducible first | exact HB.out | apply below_alloc | apply pw_below_drewN | apply below_drew1 | refine below_set ?_ GE139.out) | exact HB.out)⟩
      · replace c37 := Bool.eq_false_iff.mpr c37
        subst c37
        have H1 : (some true) = some r := by rw [if_neg (show ¬ (false = true) by decide)] at H; exact H
        clear H
        have H := H1
        clear H1
        obtain rfl := Option.some.inj H
        go_wp2
        go_ret
        exact ⟨by first | rfl | (simp [errW_none, errW_some] <;> rfl) | (simp [*, errW_none, errW_some] <;> rfl), by repeat (first | (with_reducible first | exact HB.out | apply below_alloc | apply pw_below_drewN | apply below_drew1 | refine below_set ?_ GE139.out) | exact HB.out)⟩

end Go.Proofs.Ythjodhmkmjabbaa.PY
